/- Copies are what was copied. -/
import Derived.Test.YtkbanchknllcnaaA2p
import Derived.Test.YtkbanchknllcnaaB7
set_option linter.unusedVariables false
set_option linter.unusedSimpArgs false
set_option linter.unusedVariables false
set_option linter.unusedSimpArgs false
set_option maxHeartbeats 1000000
namespace Go.Q
theorem p_Clone (nf : Nat) (a : List Str) (h : a.length ≤ 33554432) : m_slices_Clone_string_string nf a = some a := by
  rw [m_slices_Clone_string_string_eq]
  cases a with
  | nil =>
    rw [show List.isEmpty ([] : List Str) = true from rfl, br_true]
    simp only [mark_eq, j5_slices_Clone_string_string_eq, br_false, br_true]
    rw [gg_pos (by simp), both_same]
  | cons x a =>
    rw [show List.isEmpty (x :: a) = false from rfl, br_false]
    simp only [mark_eq, j5_slices_Clone_string_string_eq, br_false, gg_pos h]
end Go.Q
