/- FnExactPlanOf answers true, in plain terms. -/
import Derived.Test.YtkbanchknllcnaaB10p
set_option linter.unusedVariables false
set_option linter.unusedSimpArgs false
set_option linter.unusedVariables false
set_option linter.unusedSimpArgs false
set_option maxHeartbeats 2000000
namespace Go.Q
theorem mh_Ty2 (nf : Nat) (hn : 30 < nf) (hm : nf ≤ 2147483647) (t : Ty) (j : Int) (h0 : 0 ≤ j) (h1 : j + (cTy t : Nat) ≤ 4611686018427387904) (hc : cTy t < nf) :
    m_laws_markType nf t.kind j t.labels t.args = some (j + (cSs t.labels : Nat) + (cTys t.args : Nat), (fSs t.labels j, fTys t.args (j + (cSs t.labels : Nat)))) ∧
    m_laws_heldType nf (Ty.mk t.kind (fSs t.labels j) (fTys t.args (j + (cSs t.labels : Nat)))) j = some (j + (cSs t.labels : Nat) + (cTys t.args : Nat)) := by
  rw [cTy_f] at h1 hc
  have l1 := cSs_len t.labels
  have k1 := p_markStringS nf hn hm t.labels j (by omega) (by omega) (by omega)
  have k2 := p_markTypeS nf hn hm t.args (j + (cSs t.labels : Nat)) (by omega) (by omega) (by omega)
  have h1' := p_heldStringS nf hn hm (fSs t.labels j) j (by rw [fSs_eq, mkL_len]; omega) (by omega) (by rw [cSs_i]; omega) (fSs_i _ _)
  have h2' := p_heldTypeS nf hn hm (fTys t.args (j + (cSs t.labels : Nat))) (j + (cSs t.labels : Nat)) (by rw [cTys_i]; omega) (by omega) (by rw [cTys_i]; omega) (fTys_i _ _)
  rw [cSs_i] at h1'
  rw [cTys_i] at h2'
  have n1 : ¬ (j + (cSs t.labels : Nat) : Int) < 0 := by omega
  have n2 : ¬ (j + (cSs t.labels : Nat) + (cTys t.args : Nat) : Int) < 0 := by omega
  refine ⟨by simp only [m_laws_markType_eq, k1, k2, cb_some], by simp only [m_laws_heldType_eq, Ty.kind_mk, Ty.labels_mk, Ty.args_mk, h1', h2', cb_some, br_neg n1, br_neg n2]⟩
theorem mh_Tm2 (nf : Nat) (hn : 30 < nf) (hm : nf ≤ 2147483647) (t : Tm) (j : Int) (h0 : 0 ≤ j) (h1 : j + (cTm t : Nat) ≤ 4611686018427387904) (hc : cTm t < nf) :
    ∃ k' a b c d, m_laws_markTerm nf t.kind t.name t.n t.type.kind j t.type.labels t.type.args t.labels t.args = some (k', (a, b, c, d)) ∧ j ≤ k' ∧ k' ≤ j + (cTm t : Nat) ∧
    m_laws_heldTerm nf (Tm.mk t.kind t.name t.n (Ty.mk t.type.kind a b) c d) j = some k' := by
  rw [cTm_f, cTy_f] at h1 hc ⊢
  obtain ⟨e1, e2⟩ := mh_Ty2 nf hn hm t.type j h0 (by rw [cTy_f]; omega) (by rw [cTy_f]; omega)
  have l1 := cSs_len t.labels
  have k1 := p_markStringS nf hn hm t.labels (j + (cSs t.type.labels : Nat) + (cTys t.type.args : Nat)) (by omega) (by omega) (by omega)
  have k2 := p_markTermS nf hn hm t.args (j + (cSs t.type.labels : Nat) + (cTys t.type.args : Nat) + (cSs t.labels : Nat)) (by omega) (by omega) (by omega)
  have h1' := p_heldStringS nf hn hm (fSs t.labels (j + (cSs t.type.labels : Nat) + (cTys t.type.args : Nat))) (j + (cSs t.type.labels : Nat) + (cTys t.type.args : Nat)) (by rw [fSs_eq, mkL_len]; omega) (by omega) (by rw [cSs_i]; omega) (fSs_i _ _)
  have h2' := p_heldTermS nf hn hm (fTms t.args (j + (cSs t.type.labels : Nat) + (cTys t.type.args : Nat) + (cSs t.labels : Nat))) (j + (cSs t.type.labels : Nat) + (cTys t.type.args : Nat) + (cSs t.labels : Nat)) (by rw [cTms_i]; omega) (by omega) (by rw [cTms_i]; omega) (fTms_i _ _)
  rw [cSs_i] at h1'
  rw [cTms_i] at h2'
  have n1 : ¬ (j + (cSs t.type.labels : Nat) + (cTys t.type.args : Nat) : Int) < 0 := by omega
  have n2 : ¬ (j + (cSs t.type.labels : Nat) + (cTys t.type.args : Nat) + (cSs t.labels : Nat) : Int) < 0 := by omega
  have n3 : ¬ (j + (cSs t.type.labels : Nat) + (cTys t.type.args : Nat) + (cSs t.labels : Nat) + (cTms t.args : Nat) : Int) < 0 := by omega
  exact ⟨_, _, _, _, _, by simp only [m_laws_markTerm_eq, e1, k1, k2, cb_some]; rfl, by omega, by omega, by simp only [m_laws_heldTerm_eq, Tm.kind_mk, Tm.name_mk, Tm.n_mk, Tm.type_mk, Tm.labels_mk, Tm.args_mk, Ty.h_eq, e2, h1', h2', cb_some, br_neg n1, br_neg n2, br_neg n3]⟩
theorem pl_kind (a b c d e f) : (Plan.mk a b c d e f).kind = a := rfl
theorem pl_cond (a b c d e f) : (Plan.mk a b c d e f).cond = d := rfl
theorem pl_keys (a b c d e f) : (Plan.mk a b c d e f).keys = e := rfl
theorem pl_args (a b c d e f) : (Plan.mk a b c d e f).args = f := rfl
theorem mh_Plan (nf : Nat) (hn : 30 < nf) (hm : nf ≤ 2147483647) (t : Plan) (j : Int) (h0 : 0 ≤ j) (h1 : j + (cPlan t : Nat) ≤ 4611686018427387904) (hc : cPlan t < nf) :
    ∃ k' a b c d e f, m_laws_markPlan nf t.kind t.var t.table t.cond.kind t.cond.name t.cond.n t.cond.type.kind j t.cond.type.labels t.cond.type.args t.cond.labels t.cond.args t.keys t.args = some (k', (a, b, c, d, e, f)) ∧ j ≤ k' ∧
    m_laws_heldPlan nf (Plan.mk t.kind t.var t.table (Tm.mk t.cond.kind t.cond.name t.cond.n (Ty.mk t.cond.type.kind a b) c d) e f) j = some k' := by
  rw [cPlan_f] at h1 hc
  obtain ⟨k, a, b, c, d, e1, g1, g2, e2⟩ := mh_Tm2 nf hn hm t.cond j h0 (by omega) (by omega)
  have k1 := p_markTermS nf hn hm t.keys k (by omega) (by omega) (by omega)
  have k2 := p_markPlanS nf hn hm t.args (k + (cTms t.keys : Nat)) (by omega) (by omega) (by omega)
  have h1' := p_heldTermS nf hn hm (fTms t.keys k) k (by rw [cTms_i]; omega) (by omega) (by rw [cTms_i]; omega) (fTms_i _ _)
  have h2' := p_heldPlanS nf hn hm (fPlans t.args (k + (cTms t.keys : Nat))) (k + (cTms t.keys : Nat)) (by rw [cPlans_i]; omega) (by omega) (by rw [cPlans_i]; omega) (fPlans_i _ _)
  rw [cTms_i] at h1'
  rw [cPlans_i] at h2'
  have n1 : ¬ k < 0 := by omega
  have n2 : ¬ (k + (cTms t.keys : Nat) : Int) < 0 := by omega
  have n3 : ¬ (k + (cTms t.keys : Nat) + (cPlans t.args : Nat) : Int) < 0 := by omega
  exact ⟨_, _, _, _, _, _, _, by simp only [m_laws_markPlan_eq, e1, k1, k2, cb_some]; rfl, by omega, by simp only [m_laws_heldPlan_eq, pl_kind, pl_cond, pl_keys, pl_args, Tm.h_eq, e2, h1', h2', cb_some, br_neg n1, br_neg n2, br_neg n3]⟩
theorem mk_FComp (nf : Nat) (hn : 30 < nf) (hm : nf ≤ 2147483647) (t : FComp) (j : Int) (h0 : 0 ≤ j) (h1 : j + (cGens t.gens : Nat) + (cTm t.whr : Nat) + (cTms t.cols : Nat) ≤ 4611686018427387904) (hc : cGens t.gens < nf ∧ cTm t.whr < nf ∧ cTms t.cols < nf) :
    ∃ r, m_laws_markFlatComp nf t.outer t.outerGens t.tag t.whr.kind t.whr.name t.whr.n t.whr.type.kind j t.gens t.whr.type.labels t.whr.type.args t.whr.labels t.whr.args t.cols = some r ∧ j ≤ r.1 := by
  have k1 := p_markGenS nf hn hm t.gens j (by omega) (by omega) (by omega)
  obtain ⟨k, a, b, c, d, e1, g1, g2, e2⟩ := mh_Tm2 nf hn hm t.whr (j + (cGens t.gens : Nat)) (by omega) (by omega) (by omega)
  have k2 := p_markTermS nf hn hm t.cols k (by omega) (by omega) (by omega)
  exact ⟨_, by simp only [m_laws_markFlatComp_eq, k1, e1, k2, cb_some]; rfl, by show j ≤ k + (cTms t.cols : Nat); omega⟩
theorem p_law (a : FComp) (hr : Rd (kR 12) a) : m_laws_FnExactPlanOf 1073741824 a = some true := by
  obtain ⟨r, e1, q1, q2, q3⟩ := p_szFlatComp 1073741824 a 1048576 hr (by omega) (by omega) (by omega)
  rw [m_laws_FnExactPlanOf_eq]
  simp only [FComp.h_eq, e1, cb_some]
  by_cases h0 : r < 0
  · rw [br_pos h0]
  rw [br_neg h0]
  have hz : zFComp a ≤ 1048576 := by omega
  have hf := zFComp_f a
  have hj := planC_z a
  have hc1 := cPlan_le (planC a)
  have hc2 := cGens_le a.gens
  have hc3 := cTm_le a.whr
  have hc4 := cTms_le a.cols
  have e2 := p_toFlatComp 1073741824 a (by omega) (by omega)
  have e3 := p_spec_PlanOf 1073741824 a (by omega) (by omega)
  have e4 := p_impl_PlanOf 1073741824 a (by omega) (by omega)
  have e5 := p_eqPlan 1073741824 (planC a) (by omega) (by omega)
  have e6 := p_eqFlatComp 1073741824 a (by omega) (by omega)
  obtain ⟨w, k1, k2⟩ := mk_FComp 1073741824 (by omega) (by omega) a 1 (by omega) (by omega) (by omega)
  have n1 : ¬ w.1 < 0 := by omega
  obtain ⟨k', s1, s2, s3, s4, s5, s6, m1, m2, m3⟩ := mh_Plan 1073741824 (by omega) (by omega) (planC a) 1 (by omega) (by omega) (by omega)
  have n2 : ¬ k' < 0 := by omega
  simp only [e2, e3, e4, e5, e6, k1, m1, m3, cb_some, FComp.h_eq, Plan.h_eq, Bool.not_true, br_false, decide_eq_false n1, decide_eq_false n2, beq_self_eq_true, br_true, mark_eq, j43_laws_FnExactPlanOf_eq]
end Go.Q
