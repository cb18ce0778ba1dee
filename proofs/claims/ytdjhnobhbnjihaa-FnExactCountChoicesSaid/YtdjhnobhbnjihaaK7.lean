/- FnExactCountChoices answers true at every input, and leaves its arguments as they were. -/
import Derived.Test.YtdjhnobhbnjihaaT8
import Derived.Test.YtdjhnobhbnjihaaQd
import Derived.Test.YtdjhnobhbnjihaaRows
import Derived.WalkKit
import Derived.ProofKit
import Derived.OpenShut
import Derived.JoinedOf
set_option linter.unusedVariables false
set_option linter.unusedSimpArgs false
namespace Go.Proofs.Ytdjhnobhbnjihaa.k7
open Go.ChangeShapes Go.WideShapes Go.ChangeAt Go.RowKit Go.Q
theorem own : ownKnob Try.prog.godebug = none := by kernel_rfl
theorem laid : laidOutB Try.prog = true := by kernel_rfl
def tt : TT := [(44, kR 7), (42, kL (kR 6)), (185, kR 6), (9, kS), (112, kL (kR 1)), (204, kR 1), (3, kI), (22, kL kS), (45, kL (kR 3)), (129, kR 3)]
theorem law : ∀ xs, Kinds [kR 7, kL (kR 3)] xs → Sp Try.prog 7 xs (.v .bool true)
  | [.v _ a, .v _ b], ⟨rfl, rfl, _⟩ => s7 a b
set_option maxRecDepth 100000 in
theorem lifted (os : Os) (started : os.Started) (H : Type) (enc : TypeId × Value → H) :
    ReturnsInHanded {} Try.checked os 7 .any (Rows.fnExactCountChoicesSpec.pre6 enc Try.prog Try.f7 Rows.fnExactCountChoicesRow.domain false) (Rows.fnExactCountChoicesSpec.post enc Try.prog Try.f7 false true false false) := by
  refine returnsInHanded_of_change (C := Try.checked) own started (by kernel_rfl) Try.func7
    (ChangeSpec.witness6 (enc := enc) (C := Try.checked) false ⟨#[], #[.agg #[.slice none 0 0], .slice none 0 0], []⟩ 8 (by kernel_rfl) (by kernel_rfl) (by kernel_rfl) (by kernel_rfl)) ?_
  intro W base args ds gs before hval hW _ _
  exact law_post (T := tt) (ks := [kR 7, kL (kR 3)]) (tb := 4) (by kernel_rfl) laid (by kernel_rfl) (by kernel_rfl) rfl Try.underlying4 rfl
    (fun _ _ ds hd => match ds, hd with | [_, _], _ => ⟨rfl, rfl, rfl⟩) law W base args ds gs before hval hW
theorem holds : Rows.FnExactCountChoicesSaid :=
  OpenClaim.holds_of_wide 7 Try.f7 rfl rfl rfl rfl rfl rfl rfl ⟨rfl, rfl, rfl, rfl, rfl⟩ rfl rfl rfl rfl rfl (by kernel_rfl) Try.func7 (by kernel_rfl)
    (of_decide_eq_true (by kernel_rfl)) (by unfold Func.isWrapper; first | (rw [if_pos (by decide +kernel)]; kernel_rfl) | (rw [if_neg (by decide +kernel)]; exact ⟨rfl, rfl⟩))
    (fun os started H enc _ => lifted os started H enc)
#print axioms holds
end Go.Proofs.Ytdjhnobhbnjihaa.k7
