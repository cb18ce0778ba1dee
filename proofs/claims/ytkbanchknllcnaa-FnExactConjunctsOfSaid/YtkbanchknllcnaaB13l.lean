/- FnExactConjunctsOf answers true, in plain terms. -/
import Derived.Test.YtkbanchknllcnaaB13p
import Derived.Test.YtkbanchknllcnaaTyM
set_option linter.unusedVariables false
set_option linter.unusedSimpArgs false
set_option linter.unusedVariables false
set_option linter.unusedSimpArgs false
set_option maxHeartbeats 1000000
namespace Go.Q
theorem p_law (a : Tm) (hr : Rd (kR 2) a) : m_laws_FnExactConjunctsOf 1073741824 a = some true := by
  obtain ⟨r, e1, q1, q2, q3⟩ := p_szTerm 1073741824 a 1048576 hr (by omega) (by omega) (by omega)
  rw [m_laws_FnExactConjunctsOf_eq, Tm.h_eq, e1, cb_some]
  by_cases h0 : r < 0
  · rw [br_pos h0]
  rw [br_neg h0]
  have hz : zTm a ≤ 1048576 := by omega
  have e2 := p_toTerm 1073741824 a (by omega) (by omega)
  have e3 := p_specConjuncts 1073741824 a (by omega) (by omega)
  have e4 := p_implConjuncts 1073741824 a (by omega) (by omega)
  have e6 := p_eqTerm 1073741824 a (by omega) (by omega)
  have hcz := conF_z a
  generalize conF a = W at e3 e4 hcz
  have e5 := p_eqTermS 1073741824 W (by omega) (by omega)
  have hct := cTm_le a
  have hcW := cTms_le W
  obtain ⟨k', s1, s2, s3, s4, m1, m2, m2', m3⟩ := mh_Tm3 1073741824 (by omega) (by omega) a 1 (by omega) (by omega) (by omega)
  have k1 := p_markTermS 1073741824 (by omega) (by omega) W 1 (by omega) (by omega) (by omega)
  have k2 := p_heldTermS 1073741824 (by omega) (by omega) (fTms W 1) 1 (by rw [cTms_i]; omega) (by omega) (by rw [cTms_i]; omega) (fTms_i _ _)
  rw [cTms_i] at k2
  have n1 : ¬ k' < 0 := by omega
  have n2 : ¬ ((1 : Int) + (cTms W : Nat)) < 0 := by omega
  have h43 : j43_laws_FnExactConjunctsOf 1073741824 W a W false = some true := by
    rw [j43_laws_FnExactConjunctsOf_eq, br_false, k1, cb_some, k2, cb_some, br_neg n2, beq_self_eq_true, Bool.not_true, br_false, Tm.h_eq, e2, cb_some, e4, cb_some, e5, cb_some, Bool.not_true, br_false, cb_some, br_neg n2, beq_self_eq_true, Bool.not_true, br_false]
  rw [e2, cb_some, e3, cb_some, cb_some, Tm.h_eq, e4, cb_some, e5, cb_some, Bool.not_true, br_false, cb_some, e6, cb_some, Bool.not_true, br_false, m1, cb_some, decide_eq_false n1, beq_self_eq_true, br_true, cb_some, mark_eq]
  exact h43
end Go.Q
