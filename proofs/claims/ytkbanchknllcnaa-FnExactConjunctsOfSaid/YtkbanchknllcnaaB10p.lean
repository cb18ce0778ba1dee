/- Plans of comprehensions: what both sides give. -/
import Derived.Test.YtkbanchknllcnaaB7p
import Derived.Test.YtkbanchknllcnaaB10
import Derived.Test.YtkbanchknllcnaaA2m
set_option linter.unusedVariables false
set_option linter.unusedSimpArgs false
set_option linter.unusedVariables false
set_option linter.unusedSimpArgs false
set_option maxHeartbeats 1000000
namespace Go.Q
theorem p_cloneTerms (nf : Nat) (xs : List Tm) (h : 8 * szL zTm xs + 1 < nf) (hb : szL zTm xs ≤ 16777216) : m_impl_cloneTerms nf xs = some xs := by
  have hl : xs.length ≤ szL zTm xs := by unfold szL; omega
  rw [m_impl_cloneTerms_eq, mark_eq]
  refine for_loop (fun m i s => l8_impl_cloneTerms nf m xs i s) xs.length (fun i => xs.take i) (some xs) (fun m i hi => ?_) (fun m => ?_) nf (by omega)
  · have c0 : (i : Int) < (xs.length : Int) := by omega
    have c1 : 0 ≤ (i : Int) ∧ (i : Int) < (xs.length : Int) := by omega
    have hs := szL_at zTm xs hi Tm.zero
    have e := p_cloneTerm nf nf (gt xs (i : Int) Tm.zero) (by omega) (by omega) (by omega)
    have g : List.length (xs.take i) + List.length [gt xs (i : Int) Tm.zero] ≤ 33554432 := by rw [List.length_take]; simp only [List.length_cons, List.length_nil]; omega
    simp only [l8_impl_cloneTerms_eq, br_pos c0, gg_pos c1, Ty.h_eq, Tm.h_eq, Tm.eta, e, cb_some, gg_pos g, mark_eq, w64_nat (n := i) (by omega), take_gt xs hi Tm.zero]
  · have c0 : ¬ (xs.length : Int) < (xs.length : Int) := by omega
    simp only [l8_impl_cloneTerms_eq, br_neg c0, List.take_length]
end Go.Q
