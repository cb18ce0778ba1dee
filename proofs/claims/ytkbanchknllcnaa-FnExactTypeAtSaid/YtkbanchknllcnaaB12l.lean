/- FnExactTypeAt answers true, in plain terms. -/
import Derived.Test.YtkbanchknllcnaaB12p
import Derived.Test.YtkbanchknllcnaaTyM
set_option linter.unusedVariables false
set_option linter.unusedSimpArgs false
set_option linter.unusedVariables false
set_option linter.unusedSimpArgs false
set_option maxHeartbeats 1000000
namespace Go.Q
theorem br_ff2 {R : Type} (x y : Option R) : br (false == false) x y = x := rfl
theorem p_law (a : Ty) (b : List Str) (hra : Rd (kR 0) a) (hrb : Rd (kL kS) b) : m_laws_FnExactTypeAt 1073741824 a b = some true := by
  obtain ⟨r, e1, q1, q2, q3⟩ := p_szType 1073741824 a 1048576 hra (by omega) (by omega) (by omega)
  rw [m_laws_FnExactTypeAt_eq, Ty.h_eq, e1, cb_some]
  by_cases h0 : r < 0
  · rw [br_pos h0]
  rw [br_neg h0]
  obtain ⟨r2, e1', q1', q2', q3'⟩ := p_szStringS 1073741824 b r hrb (by omega) (by omega) (by omega)
  rw [e1', cb_some]
  by_cases h0' : r2 < 0
  · rw [br_pos h0']
  rw [br_neg h0']
  have hz : zTy a ≤ 1048576 := by omega
  have hzb : szL List.length b ≤ 1048576 := by omega
  have hlb : b.length ≤ szL List.length b := by unfold szL; omega
  have e2 := p_toType 1073741824 a (by omega) (by omega)
  have e2' := p_toStringS 1073741824 b (by omega) (by omega)
  have e3 := p_specTypeAt 1073741824 a b (by omega) (by omega) (by omega) (by omega)
  have e4 := p_implTypeAt 1073741824 a b (by omega) (by omega) (by omega) (by omega)
  have e6 := p_eqType 1073741824 a (by omega) (by omega)
  have e6' := p_eqStringS 1073741824 b (by omega) (by omega)
  have hWz := atF_z a b
  generalize atF a b = W at e3 e4 hWz
  have e5 := p_eqType 1073741824 W.1 (by omega) (by omega)
  have hct := cTy_le a
  have hcW := cTy_le W.1
  have hcb := cSs_len b
  obtain ⟨m1, m2⟩ := mh_Ty3 1073741824 (by omega) (by omega) a 1 (by omega) (by omega) (by omega)
  obtain ⟨w1, w2⟩ := mh_Ty3 1073741824 (by omega) (by omega) W.1 1 (by omega) (by omega) (by omega)
  have hcTf := cTy_f a
  have hcWf := cTy_f W.1
  have k1 := p_markStringS 1073741824 (by omega) (by omega) b ((1 : Int) + (cSs a.labels : Nat) + (cTys a.args : Nat)) (by omega) (by omega) (by omega)
  have n1 : ¬ ((1 : Int) + (cSs a.labels : Nat) + (cTys a.args : Nat) + (cSs b : Nat)) < 0 := by omega
  have n2 : ¬ ((1 : Int) + (cSs W.1.labels : Nat) + (cTys W.1.args : Nat)) < 0 := by omega
  have h99 : j99_laws_FnExactTypeAt 1073741824 ((1 : Int) + (cSs W.1.labels : Nat) + (cTys W.1.args : Nat), fSs W.1.labels 1, fTys W.1.args (1 + (cSs W.1.labels : Nat))) W false = some true := by
    rw [j99_laws_FnExactTypeAt_eq, br_false, w2, cb_some, br_neg n2, beq_self_eq_true, Bool.not_true, br_false]
  have h65 : j65_laws_FnExactTypeAt 1073741824 b W a W false = some true := by
    rw [j65_laws_FnExactTypeAt_eq, br_false, w1, cb_some, w2, cb_some, br_neg n2, beq_self_eq_true, Bool.not_true, br_false, Ty.h_eq, e2, cb_some, e2', cb_some, e4, cb_some, Ty.h_eq, e5, cb_some, Bool.not_true, br_ff2, mark_eq, beq_self_eq_true, Bool.not_true]
    exact h99
  have h35 : j35_laws_FnExactTypeAt 1073741824 b W W a a b false = some true := by
    rw [j35_laws_FnExactTypeAt_eq, br_false, Ty.h_eq, e2, cb_some, e6, cb_some, Bool.not_true, br_false, e2', cb_some, e6', cb_some, Bool.not_true, br_false, m1, cb_some, k1, cb_some, decide_eq_false n1, br_ff2, Ty.h_eq, e5, cb_some, Bool.not_true, br_ff2, mark_eq, beq_self_eq_true, Bool.not_true]
    exact h65
  rw [e2, cb_some, e2', cb_some, e3, cb_some, cb_some, cb_some, Ty.h_eq, e4, cb_some, Ty.h_eq, e5, cb_some, Bool.not_true, br_ff2, mark_eq, beq_self_eq_true, Bool.not_true]
  exact h35
end Go.Q
