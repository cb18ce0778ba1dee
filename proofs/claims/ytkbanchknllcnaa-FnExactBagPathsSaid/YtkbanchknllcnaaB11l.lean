/- FnExactBagPaths answers true, in plain terms. -/
import Derived.Test.YtkbanchknllcnaaB2p
import Derived.Test.YtkbanchknllcnaaB9p
import Derived.Test.YtkbanchknllcnaaTyM
import Derived.Test.YtkbanchknllcnaaB11
set_option linter.unusedVariables false
set_option linter.unusedSimpArgs false
set_option linter.unusedVariables false
set_option linter.unusedSimpArgs false
set_option maxHeartbeats 1000000
namespace Go.Q
mutual
theorem nBags_all : ∀ (t : Ty) (p q : List Str), q ∈ nBags t p → q.length ≤ p.length + nSz t
  | .mk k ls c, p, q, h => by
    simp only [nBags, List.mem_append] at h
    simp only [nSz]
    rcases h with h | h
    · split at h
      · rw [List.mem_singleton] at h; subst h; omega
      · cases h
    · have := nBagsL_all k ls c 0 p q h; omega
theorem nBagsL_all (k : Int) (ls : List Str) : ∀ (ts : List Ty) (i : Nat) (p q : List Str), q ∈ nBagsL k ls ts i p → q.length ≤ p.length + nSzL ts + 1
  | [], _, _, _, h => by simp [nBagsL] at h
  | t :: ts, i, p, q, h => by
    simp only [nBagsL, List.mem_append] at h
    simp only [nSzL]
    rcases h with h | h
    · have := nBags_all t _ q h
      simp at this; omega
    · have := nBagsL_all k ls ts (i + 1) p q h; omega
end
theorem p_law (a : Ty) (hr : Rd (kR 0) a) : m_laws_FnExactBagPaths 1073741824 a = some true := by
  obtain ⟨r, e1, q1, q2, q3⟩ := p_szType 1073741824 a 1048576 hr (by omega) (by omega) (by omega)
  rw [m_laws_FnExactBagPaths_eq, Ty.h_eq, e1, cb_some]
  by_cases h0 : r < 0
  · rw [br_pos h0]
  rw [br_neg h0]
  have hz : zTy a ≤ 1048576 := by omega
  have e2 := p_toType 1073741824 a (by omega) (by omega)
  have e3 := p_specBagPaths 1073741824 a (by omega) (by omega)
  have e4 := p_implBagPaths 1073741824 a (by omega) (by omega)
  have e6 := p_eqType 1073741824 a (by omega) (by omega)
  have hW : ∃ W, (if (nVal a && !nHas 5 a) = true then nBags a [] else []) = W ∧ W.length ≤ 24 ∧ ∀ q ∈ W, q.length ≤ 24 := by
    refine ⟨_, rfl, ?_, ?_⟩
    · split
      · rename_i hv
        simp only [Bool.and_eq_true, nVal, decide_eq_true_eq] at hv
        have := nBags_len a []
        omega
      · simp
    · intro q hq
      split at hq
      · rename_i hv
        simp only [Bool.and_eq_true, nVal, decide_eq_true_eq] at hv
        have := nBags_all a [] q hq
        simp at this
        omega
      · cases hq
  obtain ⟨W, hWe, hWl, hWa⟩ := hW
  rw [hWe] at e3 e4
  have hcW := cSss_le2 24 W hWa
  have hcW2 : W.length * 24 ≤ 24 * 24 := Nat.mul_le_mul_right 24 hWl
  have e5 := p_eqStringSS 1073741824 W (by omega) (fun q hq => by have := hWa q hq; omega) (by omega)
  have hct := cTy_le a
  obtain ⟨m1, m2⟩ := mh_Ty3 1073741824 (by omega) (by omega) a 1 (by omega) (by omega) (by omega)
  have hsW : szL cSs W < 1073741824 := by
    have : szL cSs W = W.length + cSss W := rfl
    omega
  have k1 := p_markStringSS 1073741824 (by omega) (by omega) W 1 hsW (by omega) (by omega)
  have k2 := p_heldStringSS 1073741824 (by omega) (by omega) (fSss W 1) 1 (by
    have : szL cSs (fSss W 1) = (fSss W 1).length + cSss (fSss W 1) := rfl
    rw [this, cSss_i, fSss_eq, mkL_len]; omega) (by omega) (by rw [cSss_i]; omega) (fSss_i _ _)
  rw [cSss_i] at k2
  have n1 : ¬ ((1 : Int) + (cSs a.labels : Nat) + (cTys a.args : Nat)) < 0 := by omega
  have n2 : ¬ ((1 : Int) + (cSss W : Nat)) < 0 := by omega
  have h43 : j43_laws_FnExactBagPaths 1073741824 W a W false = some true := by
    rw [j43_laws_FnExactBagPaths_eq, br_false, k1, cb_some, k2, cb_some, br_neg n2, beq_self_eq_true, Bool.not_true, br_false, Ty.h_eq, e2, cb_some, e4, cb_some, e5, cb_some, Bool.not_true, br_false, cb_some, br_neg n2, beq_self_eq_true, Bool.not_true, br_false]
  rw [e2, cb_some, e3, cb_some, cb_some, Ty.h_eq, e4, cb_some, e5, cb_some, Bool.not_true, br_false, cb_some, e6, cb_some, Bool.not_true, br_false, m1, cb_some, decide_eq_false n1, beq_self_eq_true, br_true, cb_some, mark_eq]
  exact h43
end Go.Q
