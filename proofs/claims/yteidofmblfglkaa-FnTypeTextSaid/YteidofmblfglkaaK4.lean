/- FnTypeText answers true at every input, and leaves its arguments as they were. -/
import Derived.Test.YteidofmblfglkaaD47
import Derived.Test.YteidofmblfglkaaQe
import Derived.Test.YteidofmblfglkaaRows
import Derived.WalkKit
import Derived.ProofKit
import Derived.OpenShut
import Derived.JoinedOf
set_option linter.unusedVariables false
set_option linter.unusedSimpArgs false
namespace Go.Proofs.Yteidofmblfglkaa.k4
open Go.ChangeShapes Go.WideShapes Go.ChangeAt Go.RowKit Go.Q
theorem own : ownKnob Try.prog.godebug = none := by kernel_rfl
theorem laid : laidOutB Try.prog = true := by kernel_rfl
def tt : TT := [(22, kL (.int .u8)), (5, .int .u8)]
theorem law : ∀ xs, Kinds [kL (.int .u8)] xs → Sp Try.prog 4 xs (.v .bool true)
  | [.v _ a], hk => by
    refine Sp_rd (callOk_of (N := 67) (c := ir_ZB) (vs := [.t 2 (.v .bool)]) Try.func4 (by kernel_rfl)) (kinds_v hk) rfl fun hr => ?_
    obtain ⟨rfl, _⟩ := hk
    obtain ⟨ha, _⟩ := hr
    refine con_sp (o_ZB 1073741824) ?_
    show cb (m_ZB 1073741824 a) _ = _
    rw [p_law a ha]
    rfl
set_option maxRecDepth 100000 in
theorem lifted (os : Os) (started : os.Started) (H : Type) (enc : TypeId × Value → H) :
    ReturnsInHanded {} Try.checked os 4 .any (Rows.fnTypeTextSpec.pre6 enc Try.prog Try.f4 Rows.fnTypeTextRow.domain false) (Rows.fnTypeTextSpec.post enc Try.prog Try.f4 false true false false) := by
  refine returnsInHanded_of_change (C := Try.checked) own started (by kernel_rfl) Try.func4
    (ChangeSpec.witness6 (enc := enc) (C := Try.checked) false ⟨#[], #[.slice none 0 0], []⟩ 8 (by kernel_rfl) (by kernel_rfl) (by kernel_rfl) (by kernel_rfl)) ?_
  intro W base args ds gs before hval hW _ _
  exact law_post (T := tt) (ks := [kL (.int .u8)]) (tb := 4) (by kernel_rfl) laid (by kernel_rfl) (by kernel_rfl) (by kernel_rfl) rfl Try.underlying4 rfl
    (fun _ _ ds hd => match ds, hd with | [_], _ => ⟨rfl, rfl, rfl⟩) law W base args ds gs before hval hW
theorem holds : Rows.FnTypeTextSaid :=
  OpenClaim.holds_of_wide 4 Try.f4 rfl rfl rfl rfl rfl rfl rfl ⟨rfl, rfl, rfl, rfl, rfl⟩ rfl rfl rfl rfl rfl (by kernel_rfl) Try.func4 (by kernel_rfl)
    (of_decide_eq_true (by kernel_rfl)) (by unfold Func.isWrapper; first | (rw [if_pos (by decide +kernel)]; kernel_rfl) | (rw [if_neg (by decide +kernel)]; exact ⟨rfl, rfl⟩))
    (fun os started H enc _ => lifted os started H enc)
#print axioms holds
end Go.Proofs.Yteidofmblfglkaa.k4
