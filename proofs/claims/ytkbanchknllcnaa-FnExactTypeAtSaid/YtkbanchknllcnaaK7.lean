/- FnExactTypeAt answers true at every input, and leaves its arguments as they were. -/
import Derived.Test.YtkbanchknllcnaaB12l
import Derived.Test.YtkbanchknllcnaaQe
import Derived.Test.YtkbanchknllcnaaRows
import Derived.WalkKit
import Derived.ProofKit
import Derived.OpenShut
import Derived.JoinedOf
set_option linter.unusedVariables false
set_option linter.unusedSimpArgs false
namespace Go.Proofs.Ytkbanchknllcnaa.k7
open Go.ChangeShapes Go.WideShapes Go.ChangeAt Go.RowKit Go.Q
theorem own : ownKnob Try.prog.godebug = none := by kernel_rfl
theorem laid : laidOutB Try.prog = true := by kernel_rfl
def tt : TT := [(25, kR 0), (3, kI), (22, kL kS), (9, kS), (23, kL (kR 0))]
theorem law : ∀ xs, Kinds [kR 0, kL kS] xs → Sp Try.prog 7 xs (.v .bool true)
  | [.v _ a, .v _ b], hk => by
    refine Sp_rd (callOk_of (N := 119) (c := ir_laws_FnExactTypeAt) (vs := [.t 4 (.v .bool)]) Try.func7 (by kernel_rfl)) (kinds_v hk) rfl fun hr => ?_
    obtain ⟨rfl, rfl, _⟩ := hk
    obtain ⟨ha, hb, _⟩ := hr
    refine con_sp (o_laws_FnExactTypeAt 1073741824) ?_
    show cb (m_laws_FnExactTypeAt 1073741824 a b) _ = _
    rw [p_law a b ha hb]
    rfl
set_option maxRecDepth 100000 in
theorem lifted (os : Os) (started : os.Started) (H : Type) (enc : TypeId × Value → H) :
    ReturnsInHanded {} Try.checked os 7 .any (Rows.fnExactTypeAtSpec.pre6 enc Try.prog Try.f7 Rows.fnExactTypeAtRow.domain false) (Rows.fnExactTypeAtSpec.post enc Try.prog Try.f7 false true false false) := by
  refine returnsInHanded_of_change (C := Try.checked) own started (by kernel_rfl) Try.func7
    (ChangeSpec.witness6 (enc := enc) (C := Try.checked) false ⟨#[], #[.agg #[.int .i64 0, .slice none 0 0, .slice none 0 0], .slice none 0 0], []⟩ 8 (by kernel_rfl) (by kernel_rfl) (by kernel_rfl) (by kernel_rfl)) ?_
  intro W base args ds gs before hval hW _ _
  exact law_post (T := tt) (ks := [kR 0, kL kS]) (tb := 4) (by kernel_rfl) laid (by kernel_rfl) (by kernel_rfl) rfl Try.underlying4 rfl
    (fun _ _ ds hd => match ds, hd with | [_, _], _ => ⟨rfl, rfl, rfl⟩) law W base args ds gs before hval hW
theorem holds : Rows.FnExactTypeAtSaid :=
  OpenClaim.holds_of_wide 7 Try.f7 rfl rfl rfl rfl rfl rfl rfl ⟨rfl, rfl, rfl, rfl, rfl⟩ rfl rfl rfl rfl rfl (by kernel_rfl) Try.func7 (by kernel_rfl)
    (of_decide_eq_true (by kernel_rfl)) (by unfold Func.isWrapper; first | (rw [if_pos (by decide +kernel)]; kernel_rfl) | (rw [if_neg (by decide +kernel)]; exact ⟨rfl, rfl⟩))
    (fun os started H enc _ => lifted os started H enc)
#print axioms holds
end Go.Proofs.Ytkbanchknllcnaa.k7
