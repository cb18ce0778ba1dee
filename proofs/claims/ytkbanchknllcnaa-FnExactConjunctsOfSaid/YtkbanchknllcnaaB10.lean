/- Plans of comprehensions. -/
import Derived.Test.YtkbanchknllcnaaB7
import Derived.Test.YtkbanchknllcnaaProg
import Derived.KernelRfl
set_option linter.unusedVariables false
set_option linter.unusedSimpArgs false
namespace Go.Q
open Go.Proofs
set_option linter.unusedVariables false
set_option maxRecDepth 20000
set_option maxHeartbeats 4000000
def ir_spec_l14Is : C := .sq (.rg [.bx 2 (.t 0) (kR 2), .mv 4 (.b false)]) (.sq (.rg [.fa 5 (.t 2) 2 0 0, .ld 6 (.t 5) kI, .bi 7 .eql (.t 6) (.i 3), .mv 8 (.t 7), .g 8 true (.fa 9 (.t 2) 2 2 2), .g 8 true (.ld 10 (.t 9) kI), .g 8 true (.mv 11 (.t 1)), .g 8 true (.bi 12 .eql (.t 10) (.t 11)), .pk 13 (.t 8) (.t 12) (.b false), .mv 4 (.t 13)]) .rt)
noncomputable abbrev T_spec_l14Is (nf : Nat) : XT := []
noncomputable def m_spec_l14Is (nf : Nat) (e : Tm) (n : Int) : Option (Bool) := runF (T_spec_l14Is nf) nf [.v (kR 2), .v kI] [.t 4 (.v .bool)] ir_spec_l14Is (e, n, ())
theorem m_spec_l14Is_eq (nf : Nat) (e : Tm) (n : Int) : m_spec_l14Is nf e n = (
  br ((e.kind == (3 : Int)) == true) (
    some (e.n == n)) (
    some false)) := by kernel_rfl
noncomputable def e_spec_l14Is (nf : Nat) : XE := eF 87 [.v (kR 2), .v kI] [.v .bool] (fun t => m_spec_l14Is nf t.1 t.2.1)
theorem o_spec_l14Is (nf : Nat) : conOK Try.prog 87 (e_spec_l14Is nf).con := by
  have ih : XT.ok Try.prog (T_spec_l14Is nf) := by exact trivial
  refine eF_ok fun t x h => ?_
  obtain ⟨e, n, _⟩ := t
  exact runF_ok (N := 14) ih Try.func87 (by kernel_rfl) rfl h
end Go.Q
