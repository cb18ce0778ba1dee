/- The variables of a plan. -/
import Derived.Test.YtffinppkbihofaaP1
import Derived.Test.YtffinppkbihofaaP2
set_option linter.unusedVariables false
set_option linter.unusedSimpArgs false
set_option linter.unusedVariables false
set_option maxHeartbeats 1000000
namespace Go.Q
mutual
def plVars : Plan → List Gen
  | .mk k v t _ _ us => (if k = 2 then [Gen.mk v t] else []) ++ plVarsL us
def plVarsL : List Plan → List Gen
  | [] => []
  | x :: xs => plVars x ++ plVarsL xs
end
theorem plVarsL_eq : ∀ a, plVarsL a = a.flatMap plVars
  | [] => by simp [plVarsL]
  | x :: a => by simp [plVarsL, plVarsL_eq a]
theorem plVars_f (p : Plan) : plVars p = (if p.kind = 2 then [Gen.mk p.var p.table] else []) ++ p.args.flatMap plVars := by
  cases p; simp only [plVars, plVarsL_eq]; rfl
mutual
theorem plVars_le : ∀ p, (plVars p).length ≤ 1 + zPlan p
  | .mk k v t c ks us => by
    have h := plVarsL_le us
    have hz := zPlan_f (.mk k v t c ks us)
    dsimp only [Plan.kind, Plan.var, Plan.table, Plan.cond, Plan.keys, Plan.args] at hz
    simp only [plVars, List.length_append]
    split <;> simp <;> omega
theorem plVarsL_le : ∀ a, (plVarsL a).length ≤ szL zPlan a
  | [] => by simp [plVarsL]
  | x :: a => by
    have h1 := plVars_le x
    have h2 := plVarsL_le a
    simp only [plVarsL, szL, List.length_cons, List.length_append, List.map_cons, List.sum_cons] at h2 ⊢
    omega
end
theorem fm_take {α β : Type} (f : α → List β) (a : List α) {i : Nat} (h : i < a.length) (z : α) : (a.take i).flatMap f ++ f (gt a (i : Int) z) = (a.take (i + 1)).flatMap f := by
  rw [← take_gt a h z, List.flatMap_append]
  simp
theorem fm_take_le {α β : Type} (f : α → List β) (a : List α) (i : Nat) : ((a.take i).flatMap f).length ≤ (a.flatMap f).length := by
  have := congrArg List.length (congrArg (List.flatMap f) (List.take_append_drop i a))
  rw [List.flatMap_append, List.length_append] at this
  omega
theorem zPlan_args (p : Plan) : p.args.length ≤ zPlan p ∧ szL zPlan p.args ≤ zPlan p := by
  have := zPlan_f p
  have h2 : p.args.length ≤ szL zPlan p.args := by unfold szL; omega
  omega

theorem fm_take2 {α β : Type} (f : α → List β) (a : List α) {i : Nat} (h : i < a.length) (z : α) (o : List β) : o ++ (a.take i).flatMap f ++ f (gt a (i : Int) z) = o ++ (a.take (i + 1)).flatMap f := by
  rw [List.append_assoc, fm_take f a h z]
theorem p_spec_PlanVars (nf : Nat) : ∀ (kf : Nat) (p : Plan), 8 * zPlan p + 1 < kf → 8 * zPlan p + 1 < nf → zPlan p ≤ 1048576 → m_spec_PlanVars nf kf p = some (plVars p)
  | 0, p, h, _, _ => absurd h (Nat.not_lt_zero _)
  | kf + 1, p, h, h', hb => by
    have hv := plVars_f p
    have hl := plVars_le p
    have hz := zPlan_args p
    have key : ∀ o : List Gen, o ++ p.args.flatMap plVars = plVars p → j10_spec_PlanVars nf (kf + 1) p o = some (plVars p) := by
      intro o ho
      have hlen := congrArg List.length ho
      rw [List.length_append] at hlen
      rw [j10_spec_PlanVars_eq, mark_eq]
      have k := for_loop (fun m i s => l14_spec_PlanVars nf (kf + 1) m p i s) p.args.length (fun i => o ++ (p.args.take i).flatMap plVars) (some (plVars p)) (fun m i hi => ?_) (fun m => ?_) nf (by omega)
      · simpa using k
      · have c0 : (i : Int) < (p.args.length : Int) := by omega
        have c1 : 0 ≤ (i : Int) ∧ (i : Int) < (p.args.length : Int) := by omega
        have h1 := szL_at zPlan p.args hi Plan.zero
        have e := p_spec_PlanVars nf kf (gt p.args (i : Int) Plan.zero) (by omega) (by omega) (by omega)
        have hs := fm_take2 plVars p.args hi Plan.zero o
        have hs2 := congrArg List.length hs
        have hs3 := fm_take_le plVars p.args (i + 1)
        simp only [List.length_append] at hs2
        have g : List.length (o ++ (p.args.take i).flatMap plVars) + List.length (plVars (gt p.args (i : Int) Plan.zero)) ≤ 33554432 := by rw [List.length_append]; omega
        simp only [l14_spec_PlanVars_eq, br_pos c0, gg_pos c1, e, cb_some, gg_pos g, mark_eq, w64_nat (n := i) (by omega), hs]
      · have c0 : ¬ (p.args.length : Int) < (p.args.length : Int) := by omega
        simp only [l14_spec_PlanVars_eq, br_neg c0, List.take_length, ho]
    rw [m_spec_PlanVars_eq]
    by_cases hk : p.kind = 2
    · rw [if_pos hk] at hv
      simp only [hk, beq_self_eq_true, br_true, mark_eq]
      rw [gg_pos (by simp)]
      exact key _ (by rw [hv]; rfl)
    · rw [if_neg hk] at hv
      have : (p.kind == (2 : Int)) = false := by simp [hk]
      simp only [this, br_false, mark_eq]
      exact key _ hv.symm
theorem p_impl_planVars (nf : Nat) : ∀ (kf : Nat) (p : Plan) (out : List Gen), 8 * zPlan p + 1 < kf → 8 * zPlan p + 1 < nf → out.length + (plVars p).length ≤ 33554432 → zPlan p ≤ 1048576 → m_impl_planVars nf kf p out = some (out ++ plVars p, ())
  | 0, p, out, h, _, _, _ => absurd h (Nat.not_lt_zero _)
  | kf + 1, p, out, h, h', ho, hb => by
    have hv := plVars_f p
    have hz := zPlan_args p
    have key : ∀ q o : List Gen, q ++ p.args.flatMap plVars = plVars p → o = out ++ q → j8_impl_planVars nf (kf + 1) p o = some (out ++ plVars p, ()) := by
      intro q o hq hoq
      have hlen := congrArg List.length hq
      rw [List.length_append] at hlen
      rw [j8_impl_planVars_eq, mark_eq]
      have k := for_loop (fun m i s => l12_impl_planVars nf (kf + 1) m p i s) p.args.length (fun i => o ++ (p.args.take i).flatMap plVars) (some (out ++ plVars p, ())) (fun m i hi => ?_) (fun m => ?_) nf (by omega)
      · simpa using k
      · have c0 : (i : Int) < (p.args.length : Int) := by omega
        have c1 : 0 ≤ (i : Int) ∧ (i : Int) < (p.args.length : Int) := by omega
        have h1 := szL_at zPlan p.args hi Plan.zero
        have hs := fm_take2 plVars p.args hi Plan.zero o
        have hs2 := congrArg List.length hs
        have hs3 := fm_take_le plVars p.args (i + 1)
        simp only [List.length_append] at hs2
        have e := p_impl_planVars nf kf (gt p.args (i : Int) Plan.zero) (o ++ (p.args.take i).flatMap plVars) (by omega) (by omega) (by subst hoq; simp only [List.length_append] at hs2 ⊢; omega) (by omega)
        simp only [l12_impl_planVars_eq, br_pos c0, gg_pos c1, e, cb_some, mark_eq, w64_nat (n := i) (by omega), hs]
      · have c0 : ¬ (p.args.length : Int) < (p.args.length : Int) := by omega
        simp only [l12_impl_planVars_eq, br_neg c0, List.take_length, hoq, List.append_assoc, hq]
    rw [m_impl_planVars_eq]
    by_cases hk : p.kind = 2
    · rw [if_pos hk] at hv
      simp only [hk, beq_self_eq_true, br_true, mark_eq]
      rw [gg_pos (by have := congrArg List.length hv; simp only [List.length_append, List.length_cons, List.length_nil] at this ⊢; omega)]
      exact key _ _ hv.symm rfl
    · rw [if_neg hk] at hv
      have : (p.kind == (2 : Int)) = false := by simp [hk]
      simp only [this, br_false, mark_eq]
      exact key [] _ hv.symm (by simp)
theorem p_impl_PlanVars (nf : Nat) (p : Plan) (h : 8 * zPlan p + 1 < nf) (hb : zPlan p ≤ 1048576) : m_impl_PlanVars nf p = some (plVars p) := by
  have hl := plVars_le p
  rw [m_impl_PlanVars_eq, p_impl_planVars nf nf p [] h h (by simp; omega) hb]
  simp [cb_some]
end Go.Q
