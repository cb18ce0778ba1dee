/- FnExactEqualFlats answers true at every input, and leaves its arguments as they were. -/
import Derived.Test.YtdjhnobhbnjihaaT7
import Derived.Test.YtdjhnobhbnjihaaQd
import Derived.Test.YtdjhnobhbnjihaaRows
import Derived.WalkKit
import Derived.ProofKit
import Derived.OpenShut
import Derived.JoinedOf
set_option linter.unusedVariables false
set_option linter.unusedSimpArgs false
namespace Go.Proofs.Ytdjhnobhbnjihaa.k12
open Go.ChangeShapes Go.WideShapes Go.ChangeAt Go.RowKit Go.Q
theorem own : ownKnob Try.prog.godebug = none := by kernel_rfl
theorem laid : laidOutB Try.prog = true := by kernel_rfl
def tt : TT := [(98, kL (kR 13)), (90, kR 13), (22, kL kS), (9, kS), (88, kL (kR 12)), (197, kR 12), (3, kI), (45, kL (kR 3)), (129, kR 3), (63, kR 2), (60, kR 0), (58, kL (kR 0)), (61, kL (kR 2))]
theorem law : ∀ xs, Kinds [kL (kR 13), kL (kR 13)] xs → Sp Try.prog 12 xs (.v .bool true)
  | [.v _ a, .v _ b], ⟨rfl, rfl, _⟩ => s12 a b
set_option maxRecDepth 100000 in
theorem lifted (os : Os) (started : os.Started) (H : Type) (enc : TypeId × Value → H) :
    ReturnsInHanded {} Try.checked os 12 .any (Rows.fnExactEqualFlatsSpec.pre6 enc Try.prog Try.f12 Rows.fnExactEqualFlatsRow.domain false) (Rows.fnExactEqualFlatsSpec.post enc Try.prog Try.f12 false true false false) := by
  refine returnsInHanded_of_change (C := Try.checked) own started (by kernel_rfl) Try.func12
    (ChangeSpec.witness6 (enc := enc) (C := Try.checked) false ⟨#[], #[.slice none 0 0, .slice none 0 0], []⟩ 8 (by kernel_rfl) (by kernel_rfl) (by kernel_rfl) (by kernel_rfl)) ?_
  intro W base args ds gs before hval hW _ _
  exact law_post (T := tt) (ks := [kL (kR 13), kL (kR 13)]) (tb := 4) (by kernel_rfl) laid (by kernel_rfl) (by kernel_rfl) rfl Try.underlying4 rfl
    (fun _ _ ds hd => match ds, hd with | [_, _], _ => ⟨rfl, rfl, rfl⟩) law W base args ds gs before hval hW
theorem holds : Rows.FnExactEqualFlatsSaid :=
  OpenClaim.holds_of_wide 12 Try.f12 rfl rfl rfl rfl rfl rfl rfl ⟨rfl, rfl, rfl, rfl, rfl⟩ rfl rfl rfl rfl rfl (by kernel_rfl) Try.func12 (by kernel_rfl)
    (of_decide_eq_true (by kernel_rfl)) (by unfold Func.isWrapper; first | (rw [if_pos (by decide +kernel)]; kernel_rfl) | (rw [if_neg (by decide +kernel)]; exact ⟨rfl, rfl⟩))
    (fun os started H enc _ => lifted os started H enc)
#print axioms holds
end Go.Proofs.Ytdjhnobhbnjihaa.k12
