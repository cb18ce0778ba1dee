/- Terms and plans. -/
import Derived.Test.YtkbanchknllcnaaA2
import Derived.Test.YtkbanchknllcnaaProg
import Derived.KernelRfl
set_option linter.unusedVariables false
set_option linter.unusedSimpArgs false
namespace Go.Q
open Go.Proofs
set_option linter.unusedVariables false
set_option maxRecDepth 20000
set_option maxHeartbeats 4000000
def c10_slices_Clone_string_string : C := .sq (.rg [.bs 5 true kS [], .mv 6 (.t 0), .an 7 true kS (.t 5) (.t 6), .mv 2 (.t 7)]) .rt
def c5_slices_Clone_string_string : C := .cd (.t 4) (.sq (.rg [.mv 2 (.nl kS)]) .rt) .skip
def w5_slices_Clone_string_string : C := .kp [0, 4] [] c5_slices_Clone_string_string
def ir_slices_Clone_string_string : C := .sq (.rg [.mv 2 (.nl kS)]) (.sq (.sq (.rg [.mv 3 (.t 0), .nq 4 false false (.t 3)]) w5_slices_Clone_string_string) c10_slices_Clone_string_string)
noncomputable abbrev T_slices_Clone_string_string (nf : Nat) : XT := []
noncomputable def m_slices_Clone_string_string (nf : Nat) (a : List Str) : Option (List Str) := runF (T_slices_Clone_string_string nf) nf [.v (kL kS)] [.t 2 (.o (kL kS))] ir_slices_Clone_string_string (a, ())
noncomputable def X_slices_Clone_string_string {R : Type} (nf : Nat) : C → Env → (Xt → Env → Option R) → Option R := xc (R := R) (T_slices_Clone_string_string nf).S nf
noncomputable def j5_slices_Clone_string_string (nf : Nat) (a : List Str) (x4_5 : Bool) : Option (List Str) := X_slices_Clone_string_string nf c5_slices_Clone_string_string ⟨[(0, .v (kL kS) a), (4, .v .bool x4_5)], []⟩ (qS (X_slices_Clone_string_string nf c10_slices_Clone_string_string) (KF [.t 2 (.o (kL kS))]))
theorem j5_slices_Clone_string_string_eq (nf : Nat) (a : List Str) (x4_5 : Bool) : j5_slices_Clone_string_string nf a x4_5 = (
  br x4_5 (
    some ([] : List Str)) (
    gg (List.length a ≤ 33554432) <|
      some a)) := by kernel_rfl
theorem m_slices_Clone_string_string_eq (nf : Nat) (a : List Str) : m_slices_Clone_string_string nf a = (
  br (List.isEmpty a) (
    both (
      mark (j5_slices_Clone_string_string nf a false)) (
      mark (j5_slices_Clone_string_string nf a true))) (
    mark (j5_slices_Clone_string_string nf a false))) := by
  unfold m_slices_Clone_string_string j5_slices_Clone_string_string ir_slices_Clone_string_string w5_slices_Clone_string_string c10_slices_Clone_string_string
  generalize c5_slices_Clone_string_string = x0
  revert x0
  refine id ?_
  intro x0
  kernel_rfl
noncomputable def e_slices_Clone_string_string (nf : Nat) : XE := eF 144 [.v (kL kS)] [.o (kL kS)] (fun t => m_slices_Clone_string_string nf t.1)
theorem o_slices_Clone_string_string (nf : Nat) : conOK Try.prog 144 (e_slices_Clone_string_string nf).con := by
  have ih : XT.ok Try.prog (T_slices_Clone_string_string nf) := by exact trivial
  refine eF_ok fun t x h => ?_
  obtain ⟨a, _⟩ := t
  exact runF_ok (N := 8) ih Try.func144 (by kernel_rfl) rfl h
end Go.Q
