/- FnExactEqualFlat answers true at every input, and leaves its arguments as they were. -/
import Derived.Test.YtdjhnobhbnjihaaT7
import Derived.Test.YtdjhnobhbnjihaaQd
import Derived.Test.YtdjhnobhbnjihaaRows
import Derived.WalkKit
import Derived.ProofKit
import Derived.OpenShut
import Derived.JoinedOf
set_option linter.unusedVariables false
set_option linter.unusedSimpArgs false
namespace Go.Proofs.Ytdjhnobhbnjihaa.k11
open Go.ChangeShapes Go.WideShapes Go.ChangeAt Go.RowKit Go.Q
theorem own : ownKnob Try.prog.godebug = none := by kernel_rfl
theorem laid : laidOutB Try.prog = true := by kernel_rfl
def tt : TT := [(90, kR 13), (22, kL kS), (9, kS), (88, kL (kR 12)), (197, kR 12), (3, kI), (45, kL (kR 3)), (129, kR 3), (63, kR 2), (60, kR 0), (58, kL (kR 0)), (61, kL (kR 2))]
theorem law : ∀ xs, Kinds [kR 13, kR 13] xs → Sp Try.prog 11 xs (.v .bool true)
  | [.v _ a, .v _ b], ⟨rfl, rfl, _⟩ => s11 a b
set_option maxRecDepth 100000 in
theorem lifted (os : Os) (started : os.Started) (H : Type) (enc : TypeId × Value → H) :
    ReturnsInHanded {} Try.checked os 11 .any (Rows.fnExactEqualFlatSpec.pre6 enc Try.prog Try.f11 Rows.fnExactEqualFlatRow.domain false) (Rows.fnExactEqualFlatSpec.post enc Try.prog Try.f11 false true false false) := by
  refine returnsInHanded_of_change (C := Try.checked) own started (by kernel_rfl) Try.func11
    (ChangeSpec.witness6 (enc := enc) (C := Try.checked) false ⟨#[], #[.agg #[.slice none 0 0, .slice none 0 0], .agg #[.slice none 0 0, .slice none 0 0]], []⟩ 8 (by kernel_rfl) (by kernel_rfl) (by kernel_rfl) (by kernel_rfl)) ?_
  intro W base args ds gs before hval hW _ _
  exact law_post (T := tt) (ks := [kR 13, kR 13]) (tb := 4) (by kernel_rfl) laid (by kernel_rfl) (by kernel_rfl) rfl Try.underlying4 rfl
    (fun _ _ ds hd => match ds, hd with | [_, _], _ => ⟨rfl, rfl, rfl⟩) law W base args ds gs before hval hW
theorem holds : Rows.FnExactEqualFlatSaid :=
  OpenClaim.holds_of_wide 11 Try.f11 rfl rfl rfl rfl rfl rfl rfl ⟨rfl, rfl, rfl, rfl, rfl⟩ rfl rfl rfl rfl rfl (by kernel_rfl) Try.func11 (by kernel_rfl)
    (of_decide_eq_true (by kernel_rfl)) (by unfold Func.isWrapper; first | (rw [if_pos (by decide +kernel)]; kernel_rfl) | (rw [if_neg (by decide +kernel)]; exact ⟨rfl, rfl⟩))
    (fun os started H enc _ => lifted os started H enc)
#print axioms holds
end Go.Proofs.Ytdjhnobhbnjihaa.k11
