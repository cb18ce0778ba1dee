/- FnExactCountQueries answers true at every input, and leaves its arguments as they were. -/
import Derived.Test.YtjogpopbgmjlbaaGreatU12
import Derived.Test.YtjogpopbgmjlbaaGreatQe
import Derived.Test.YtjogpopbgmjlbaaGreatRows
import Derived.WalkKit
import Derived.ProofKit
import Derived.OpenShut
import Derived.JoinedOf
set_option linter.unusedVariables false
set_option linter.unusedSimpArgs false
namespace Go.Proofs.YtjogpopbgmjlbaaGreat.k4
open Go.ChangeShapes Go.WideShapes Go.ChangeAt Go.RowKit Go.Q
theorem own : ownKnob Tryz.prog.godebug = none := by kernel_rfl
theorem laid : laidOutB Tryz.prog = true := by kernel_rfl
def tt : TT := [(24, kR 5), (22, kL (kR 4)), (99, kR 4), (9, kS), (28, kR 0), (3, kI), (25, kL kS), (26, kL (kR 0)), (31, kR 2), (29, kL (kR 2))]
theorem law : ∀ xs, Kinds [kR 5, kR 2] xs → Sp Tryz.prog 4 xs (.v .bool true)
  | [.v _ a, .v _ b], hk => by
    refine Sp_rd (callOk_of (N := 45) (c := ir_laws_FnExactCountQueries) (vs := [.t 4 (.v .bool)]) Tryz.func4 (by kernel_rfl)) (kinds_v hk) rfl fun hr => ?_
    obtain ⟨rfl, rfl, _⟩ := hk
    obtain ⟨ha, hb, _⟩ := hr
    refine con_sp (o_laws_FnExactCountQueries 1073741824) ?_
    show cb (m_laws_FnExactCountQueries 1073741824 a b) _ = _
    rw [p_law a b ha hb]
    rfl
set_option maxRecDepth 100000 in
theorem lifted (os : Os) (started : os.Started) (H : Type) (enc : TypeId × Value → H) :
    ReturnsInHanded {} Tryz.checked os 4 .any (Rows.fnExactCountQueriesSpec.pre6 enc Tryz.prog Tryz.f4 Rows.fnExactCountQueriesRow.domain false) (Rows.fnExactCountQueriesSpec.post enc Tryz.prog Tryz.f4 false true false false) := by
  refine returnsInHanded_of_change (C := Tryz.checked) own started (by kernel_rfl) Tryz.func4
    (ChangeSpec.witness6 (enc := enc) (C := Tryz.checked) false ⟨#[], #[.agg #[.slice none 0 0], .agg #[.int .i64 0, .string ⟨#[]⟩, .int .i64 0, .int .i64 0, .slice none 0 0, .slice none 0 0, .slice none 0 0, .slice none 0 0]], []⟩ 8 (by kernel_rfl) (by kernel_rfl) (by kernel_rfl) (by kernel_rfl)) ?_
  intro W base args ds gs before hval hW _ _
  exact law_post (T := tt) (ks := [kR 5, kR 2]) (tb := 4) (by kernel_rfl) laid (by kernel_rfl) (by kernel_rfl) (by kernel_rfl) rfl Tryz.underlying4 rfl
    (fun _ _ ds hd => match ds, hd with | [_, _], _ => ⟨rfl, rfl, rfl⟩) law W base args ds gs before hval hW
theorem holds : Rows.FnExactCountQueriesSaid :=
  OpenClaim.holds_of_wide 4 Tryz.f4 rfl rfl rfl rfl rfl rfl rfl ⟨rfl, rfl, rfl, rfl, rfl⟩ rfl rfl rfl rfl rfl (by kernel_rfl) Tryz.func4 (by kernel_rfl)
    (of_decide_eq_true (by kernel_rfl)) (by unfold Func.isWrapper; first | (rw [if_pos (by decide +kernel)]; kernel_rfl) | (rw [if_neg (by decide +kernel)]; exact ⟨rfl, rfl⟩))
    (fun os started H enc _ => lifted os started H enc)
#print axioms holds
end Go.Proofs.YtjogpopbgmjlbaaGreat.k4
