/- FnExactIsFlat answers true at every input, and leaves its arguments as they were. -/
import Derived.Test.YtmkelbchboiliaaGreatV23
import Derived.Test.YtmkelbchboiliaaGreatQe
import Derived.Test.YtmkelbchboiliaaGreatRows
import Derived.WalkKit
import Derived.ProofKit
import Derived.OpenShut
import Derived.JoinedOf
set_option linter.unusedVariables false
set_option linter.unusedSimpArgs false
namespace Go.Proofs.YtmkelbchboiliaaGreat.k4
open Go.ChangeShapes Go.WideShapes Go.ChangeAt Go.RowKit Go.Q
theorem own : ownKnob Tryz.prog.godebug = none := by kernel_rfl
theorem laid : laidOutB Tryz.prog = true := by kernel_rfl
def tt : TT := [(24, kR 5), (22, kL (kR 4)), (131, kR 4), (9, kS), (28, kR 0), (3, kI), (25, kL kS), (26, kL (kR 0)), (57, kR 13), (55, kL (kR 12)), (147, kR 12), (145, kL (kR 3)), (216, kR 3), (31, kR 2), (29, kL (kR 2))]
theorem law : ∀ xs, Kinds [kR 5, kR 13, kR 0] xs → Sp Tryz.prog 4 xs (.v .bool true)
  | [.v _ a, .v _ b, .v _ c], hk => by
    refine Sp_rd (callOk_of (N := 63) (c := ir_Zaa) (vs := [.t 6 (.v .bool)]) Tryz.func4 (by kernel_rfl)) (kinds_v hk) rfl fun hr => ?_
    obtain ⟨rfl, rfl, rfl, _⟩ := hk
    obtain ⟨ha, hb, hc, _⟩ := hr
    refine con_sp (o_Zaa 1073741824) ?_
    show cb (m_Zaa 1073741824 a b c) _ = _
    rw [p_law a b c ha hb hc]
    rfl
set_option maxRecDepth 100000 in
theorem lifted (os : Os) (started : os.Started) (H : Type) (enc : TypeId × Value → H) :
    ReturnsInHanded {} Tryz.checked os 4 .any (Rows.fnExactIsFlatSpec.pre6 enc Tryz.prog Tryz.f4 Rows.fnExactIsFlatRow.domain false) (Rows.fnExactIsFlatSpec.post enc Tryz.prog Tryz.f4 false true false false) := by
  refine returnsInHanded_of_change (C := Tryz.checked) own started (by kernel_rfl) Tryz.func4
    (ChangeSpec.witness6 (enc := enc) (C := Tryz.checked) false ⟨#[], #[.agg #[.slice none 0 0], .agg #[.slice none 0 0, .slice none 0 0], .agg #[.int .i64 0, .slice none 0 0, .slice none 0 0]], []⟩ 8 (by kernel_rfl) (by kernel_rfl) (by kernel_rfl) (by kernel_rfl)) ?_
  intro W base args ds gs before hval hW _ _
  exact law_post (T := tt) (ks := [kR 5, kR 13, kR 0]) (tb := 4) (by kernel_rfl) laid (by kernel_rfl) (by kernel_rfl) (by kernel_rfl) rfl Tryz.underlying4 rfl
    (fun _ _ ds hd => match ds, hd with | [_, _, _], _ => ⟨rfl, rfl, rfl⟩) law W base args ds gs before hval hW
theorem holds : Rows.FnExactIsFlatSaid :=
  OpenClaim.holds_of_wide 4 Tryz.f4 rfl rfl rfl rfl rfl rfl rfl ⟨rfl, rfl, rfl, rfl, rfl⟩ rfl rfl rfl rfl rfl (by kernel_rfl) Tryz.func4 (by kernel_rfl)
    (of_decide_eq_true (by kernel_rfl)) (by unfold Func.isWrapper; first | (rw [if_pos (by decide +kernel)]; kernel_rfl) | (rw [if_neg (by decide +kernel)]; exact ⟨rfl, rfl⟩))
    (fun os started H enc _ => lifted os started H enc)
#print axioms holds
end Go.Proofs.YtmkelbchboiliaaGreat.k4
