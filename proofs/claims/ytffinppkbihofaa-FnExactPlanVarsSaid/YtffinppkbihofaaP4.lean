/- FnExactPlanVars answers true, in plain terms. -/
import Derived.Test.YtffinppkbihofaaP3
import Derived.Test.YtffinppkbihofaaY3
set_option linter.unusedVariables false
set_option linter.unusedSimpArgs false
set_option linter.unusedVariables false
set_option maxHeartbeats 2000000
namespace Go.Q
theorem szL_app {α : Type} (f : α → Nat) (a b : List α) : szL f (a ++ b) = szL f a + szL f b := by
  simp only [szL, List.length_append, List.map_append, List.sum_append]; omega
mutual
theorem plVars_z : ∀ p, szL zGen (plVars p) ≤ 1 + zPlan p
  | .mk k v t c ks us => by
    have h := plVarsL_z us
    have hz := zPlan_f (.mk k v t c ks us)
    dsimp only [Plan.kind, Plan.var, Plan.table, Plan.cond, Plan.keys, Plan.args] at hz
    simp only [plVars, szL_app]
    split
    · have : szL zGen [Gen.mk v t] = 1 + (v.length + t.length) := by simp [szL, zGen]
      omega
    · have : szL zGen ([] : List Gen) = 0 := rfl
      omega
theorem plVarsL_z : ∀ a, szL zGen (plVarsL a) ≤ szL zPlan a
  | [] => by simp [plVarsL, szL]
  | x :: a => by
    have h1 := plVars_z x
    have h2 := plVarsL_z a
    simp only [plVarsL, szL_app]
    simp only [szL, List.length_cons, List.map_cons, List.sum_cons] at h1 h2 ⊢
    omega
end
theorem p_law (aP : Plan) (hr : Rd (kR 17) aP) : m_laws_FnExactPlanVars 1073741824 aP = some true := by
  obtain ⟨r, e1, q1, q2, q3⟩ := p_szPlan 1073741824 aP 1048576 hr (by omega) (by omega) (by omega)
  rw [m_laws_FnExactPlanVars_eq]
  simp only [Plan.h_eq, e1, cb_some]
  by_cases h0 : r < 0
  · rw [br_pos h0]
  rw [br_neg h0]
  have hz : zPlan aP ≤ 1048576 := by omega
  have hl := plVars_le aP
  have hg := plVars_z aP
  have hlg : (plVars aP).length ≤ szL zGen (plVars aP) := by unfold szL; omega
  have hf := zPlan_f aP
  have hf2 := zTm_f aP.cond
  have hf3 := zTy_f aP.cond.type
  have g1 : aP.cond.type.labels.length ≤ szL List.length aP.cond.type.labels := by unfold szL; omega
  have g2 : aP.cond.labels.length ≤ szL List.length aP.cond.labels := by unfold szL; omega
  have e2 := p_toPlan 1073741824 aP (by omega) (by omega)
  have e3 := p_spec_PlanVars 1073741824 1073741824 aP (by omega) (by omega) hz
  have e4 := p_impl_PlanVars 1073741824 aP (by omega) hz
  have e5 := p_eqGenS 1073741824 (plVars aP) (by omega) (by omega)
  have e6 := p_eqPlan 1073741824 aP (by omega) (by omega)
  have hc := cPlan_le aP
  rw [cPlan_f, cTm_f, cTy_f] at hc
  have k1 := p_markStringS 1073741824 (by omega) (by omega) aP.cond.type.labels 1 (by omega) (by omega) (by omega)
  have k2 := p_markTypeS 1073741824 (by omega) (by omega) aP.cond.type.args (1 + (cSs aP.cond.type.labels : Nat)) (by omega) (by omega) (by omega)
  have k3 := p_markStringS 1073741824 (by omega) (by omega) aP.cond.labels (1 + (cSs aP.cond.type.labels : Nat) + (cTys aP.cond.type.args : Nat)) (by omega) (by omega) (by omega)
  have k4 := p_markTermS 1073741824 (by omega) (by omega) aP.cond.args (1 + (cSs aP.cond.type.labels : Nat) + (cTys aP.cond.type.args : Nat) + (cSs aP.cond.labels : Nat)) (by omega) (by omega) (by omega)
  have k5 := p_markTermS 1073741824 (by omega) (by omega) aP.keys (1 + (cSs aP.cond.type.labels : Nat) + (cTys aP.cond.type.args : Nat) + (cSs aP.cond.labels : Nat) + (cTms aP.cond.args : Nat)) (by omega) (by omega) (by omega)
  have k6 := p_markPlanS 1073741824 (by omega) (by omega) aP.args (1 + (cSs aP.cond.type.labels : Nat) + (cTys aP.cond.type.args : Nat) + (cSs aP.cond.labels : Nat) + (cTms aP.cond.args : Nat) + (cTms aP.keys : Nat)) (by omega) (by omega) (by omega)
  have n1 : ¬ (1 + (cSs aP.cond.type.labels : Nat) + (cTys aP.cond.type.args : Nat) + (cSs aP.cond.labels : Nat) + (cTms aP.cond.args : Nat) + (cTms aP.keys : Nat) + (cPlans aP.args : Nat) : Int) < 0 := by omega
  have hcg := cGens_le (plVars aP)
  have k7 := p_markGenS 1073741824 (by omega) (by omega) (plVars aP) 1 (by omega) (by omega) (by omega)
  have k8 := p_heldGenS 1073741824 (by omega) (by omega) (fGens (plVars aP) 1) 1 (by rw [fGens_eq, mkL_len]; omega) (by omega) (by rw [cGens_i]; omega) (fGens_i _ _)
  rw [cGens_i] at k8
  have n2 : ¬ (1 + (cGens (plVars aP) : Nat) : Int) < 0 := by omega
  simp only [e2, e3, e4, e5, e6, cb_some, Bool.not_true, br_false, m_laws_markPlan_eq, m_laws_markTerm_eq, m_laws_markType_eq, k1, k2, k3, k4, k5, k6, decide_eq_false n1, beq_self_eq_true, br_true, mark_eq, j43_laws_FnExactPlanVars_eq, k7, k8, br_neg n2, Plan.h_eq]
end Go.Q
