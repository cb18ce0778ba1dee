/- The plain laws of marks. -/
import Derived.Test.YtffinppkbihofaaPMt
import Derived.Test.YtffinppkbihofaaP1
set_option linter.unusedVariables false
set_option linter.unusedSimpArgs false
set_option linter.unusedVariables false
set_option linter.unusedSimpArgs false
set_option maxHeartbeats 1000000
namespace Go.Q
theorem p_markStringS (nf : Nat) (hn : 30 < nf) (hm : nf ≤ 2147483647) (a : List Str) (j : Int) (h' : a.length < nf) : 0 ≤ j → j + (cSs a : Nat) ≤ 4611686018427387904 → m_laws_markStringS nf a j = some (fSs a j, j + (cSs a : Nat)) := by
  intro hq0 hq1
  simp only [m_laws_markStringS_eq, mark_eq]
  have h00 : a = mkT fS cS a j 0 := (mkT_zero fS cS a j).symm
  have key := for_loop (fun m i (s : List Str × Int) => l6_laws_markStringS nf m s.2 i s.1) a.length (fun i => (mkT fS cS a j i, j + (pfx cS a i : Nat))) (some (fSs a j, j + (cSs a : Nat))) (fun m i hi => ?_) (fun m => ?_) nf (by omega)
  · simpa only [mkT_zero, pfx_zero, Int.natCast_zero, Int.add_zero, Int.cast_ofNat_Int] using key
  · have c0 : (i : Int) < (a.length : Int) := by omega
    have c1 : 0 ≤ (i : Int) ∧ (i : Int) < (a.length : Int) := by omega
    have hc1 := pfx_succ cS a hi ([] : Str)
    have hc2 : pfx cS a (i + 1) ≤ cSs a := by rw [cSs_eq]; exact pfx_le cS a (i + 1)
    have hml : (mkT fS cS a j i).length = a.length := mkT_len _ _ a j (by omega)
    have hg : gt (mkT fS cS a j i) (i : Int) ([] : Str) = gt a (i : Int) ([] : Str) := mkT_gt fS cS a j hi ([] : Str)
    have he := mkT_set fS cS a j hi ([] : Str) _ rfl
    have hset : ∀ y : Str, gt ((mkT fS cS a j i).set i y) (i : Int) ([] : Str) = y := fun y => gt_set_self _ (by rw [hml]; exact hi) y _
    simp only [cS, fS] at hc1 he
    have w0 : w64 (j + (pfx cS a i : Int) + 1) = j + (pfx cS a i : Int) + 1 := w64_id (by omega) (by omega)
    have t0 := p_markText nf (j + (pfx cS a i : Int)) hn (by omega)
    have hk : j + (pfx cS a i : Int) + 1 = j + (pfx cS a (i + 1) : Int) := by omega
    have lset : ∀ y, ((mkT fS cS a j i).set i y).length = a.length := fun y => by rw [List.length_set, hml]
    simp only [l6_laws_markStringS_eq, hml, lset, br_pos c0, gg_pos c1, hg, hset, List.set_set, cb_some, mark_eq, w64_nat (n := i) (by omega), Int.toNat_natCast, w0, t0, Comp.h_eq, FComp.h_eq, Head.h_eq, Plan.h_eq, Query.h_eq, TDecl.h_eq, Tm.h_eq, Ty.h_eq, Typing.h_eq, Val.h_eq, ← hk]
    first | rw [he] | (rw [← he]; done) | skip
  · have c0 : ¬ (a.length : Int) < (a.length : Int) := by omega
    have hml : (mkT fS cS a j a.length).length = a.length := mkT_len _ _ a j (Nat.le_refl _)
    simp only [l6_laws_markStringS_eq, hml, br_neg c0]
    rw [mkT_all _ _ _ _ (Nat.le_refl _), pfx_all cS a (Nat.le_refl _), fSs_eq, cSs_eq]
theorem g_markTypeS (nf : Nat) (hn : 30 < nf) (hm : nf ≤ 2147483647) : ∀ (kf : Nat) (a : List Ty) (j : Int), 8 * szL zTy a < kf → 8 * szL zTy a < nf → 0 ≤ j → j + (cTys a : Nat) ≤ 4611686018427387904 → m_laws_markTypeS nf kf a j = some (fTys a j, j + (cTys a : Nat))
  | 0, a, j, h, _ => absurd h (Nat.not_lt_zero _)
  | kf + 1, a, j, h, h' => by
    intro hq0 hq1
    have ih := g_markTypeS nf hn hm kf
    have hal : a.length ≤ szL zTy a := by unfold szL; omega
    simp only [m_laws_markTypeS_eq, mark_eq]
    have h00 : a = mkT fTy cTy a j 0 := (mkT_zero fTy cTy a j).symm
    have key := for_loop (fun m i (s : List Ty × Int) => l6_laws_markTypeS nf (kf + 1) m s.2 i s.1) a.length (fun i => (mkT fTy cTy a j i, j + (pfx cTy a i : Nat))) (some (fTys a j, j + (cTys a : Nat))) (fun m i hi => ?_) (fun m => ?_) nf (by omega)
    · simpa only [mkT_zero, pfx_zero, Int.natCast_zero, Int.add_zero, Int.cast_ofNat_Int] using key
    · have c0 : (i : Int) < (a.length : Int) := by omega
      have c1 : 0 ≤ (i : Int) ∧ (i : Int) < (a.length : Int) := by omega
      have hc1 := pfx_succ cTy a hi Ty.zero
      have hc2 : pfx cTy a (i + 1) ≤ cTys a := by rw [cTys_eq]; exact pfx_le cTy a (i + 1)
      have hml : (mkT fTy cTy a j i).length = a.length := mkT_len _ _ a j (by omega)
      have hg : gt (mkT fTy cTy a j i) (i : Int) Ty.zero = gt a (i : Int) Ty.zero := mkT_gt fTy cTy a j hi Ty.zero
      have he := mkT_set fTy cTy a j hi Ty.zero _ rfl
      have hset : ∀ y : Ty, gt ((mkT fTy cTy a j i).set i y) (i : Int) Ty.zero = y := fun y => gt_set_self _ (by rw [hml]; exact hi) y _
      have hz := szL_at zTy a hi Ty.zero
      obtain ⟨y, hy⟩ : ∃ y : Ty, gt a (i : Int) Ty.zero = y := ⟨_, rfl⟩
      rw [hy] at hg hc1 he hz
      obtain ⟨l0, l1, l2⟩ := y
      have hz0 := zTy_f (Ty.mk l0 l1 l2)
      dsimp only [Ty.kind, Ty.labels, Ty.args] at hz0
      simp only [cTy, fTy] at hc1 he
      have w0 : w64 (j + (pfx cTy a i : Int) + 1) = j + (pfx cTy a i : Int) + 1 := w64_id (by omega) (by omega)
      have hl1 : l1.length ≤ szL List.length l1 := by unfold szL; omega
      have t1 := p_markStringS nf hn hm l1 (j + (pfx cTy a i : Int) + 1) (by omega) (by omega) (by omega)
      have t2 := ih l2 (j + (pfx cTy a i : Int) + 1 + (cSs l1 : Nat)) (by omega) (by omega) (by omega) (by omega)
      have hk : j + (pfx cTy a i : Int) + 1 + (cSs l1 : Nat) + (cTys l2 : Nat) = j + (pfx cTy a (i + 1) : Int) := by omega
      have lset : ∀ y, ((mkT fTy cTy a j i).set i y).length = a.length := fun y => by rw [List.length_set, hml]
      simp only [l6_laws_markTypeS_eq, j21_laws_markTypeS_eq, hml, lset, br_pos c0, gg_pos c1, hg, hset, List.set_set, cb_some, mark_eq, w64_nat (n := i) (by omega), Int.toNat_natCast, w0, t1, t2, Ty.kind, Ty.labels, Ty.args, Comp.h_eq, FComp.h_eq, Head.h_eq, Plan.h_eq, Query.h_eq, TDecl.h_eq, Tm.h_eq, Ty.h_eq, Typing.h_eq, Val.h_eq, ← hk]
      first | rw [he] | (rw [← he]; done) | skip
    · have c0 : ¬ (a.length : Int) < (a.length : Int) := by omega
      have hml : (mkT fTy cTy a j a.length).length = a.length := mkT_len _ _ a j (Nat.le_refl _)
      simp only [l6_laws_markTypeS_eq, hml, br_neg c0]
      rw [mkT_all _ _ _ _ (Nat.le_refl _), pfx_all cTy a (Nat.le_refl _), fTys_eq, cTys_eq]
theorem p_markTypeS (nf : Nat) (hn : 30 < nf) (hm : nf ≤ 2147483647) (a : List Ty) (j : Int) (h' : 8 * szL zTy a < nf) : 0 ≤ j → j + (cTys a : Nat) ≤ 4611686018427387904 → m_laws_markTypeS nf nf a j = some (fTys a j, j + (cTys a : Nat)) := g_markTypeS nf hn hm nf a j h' h'
theorem g_markTermS (nf : Nat) (hn : 30 < nf) (hm : nf ≤ 2147483647) : ∀ (kf : Nat) (a : List Tm) (j : Int), 8 * szL zTm a < kf → 8 * szL zTm a < nf → 0 ≤ j → j + (cTms a : Nat) ≤ 4611686018427387904 → m_laws_markTermS nf kf a j = some (fTms a j, j + (cTms a : Nat))
  | 0, a, j, h, _ => absurd h (Nat.not_lt_zero _)
  | kf + 1, a, j, h, h' => by
    intro hq0 hq1
    have ih := g_markTermS nf hn hm kf
    have hal : a.length ≤ szL zTm a := by unfold szL; omega
    simp only [m_laws_markTermS_eq, mark_eq]
    have h00 : a = mkT fTm cTm a j 0 := (mkT_zero fTm cTm a j).symm
    have key := for_loop (fun m i (s : List Tm × Int) => l6_laws_markTermS nf (kf + 1) m s.2 i s.1) a.length (fun i => (mkT fTm cTm a j i, j + (pfx cTm a i : Nat))) (some (fTms a j, j + (cTms a : Nat))) (fun m i hi => ?_) (fun m => ?_) nf (by omega)
    · simpa only [mkT_zero, pfx_zero, Int.natCast_zero, Int.add_zero, Int.cast_ofNat_Int] using key
    · have c0 : (i : Int) < (a.length : Int) := by omega
      have c1 : 0 ≤ (i : Int) ∧ (i : Int) < (a.length : Int) := by omega
      have hc1 := pfx_succ cTm a hi Tm.zero
      have hc2 : pfx cTm a (i + 1) ≤ cTms a := by rw [cTms_eq]; exact pfx_le cTm a (i + 1)
      have hml : (mkT fTm cTm a j i).length = a.length := mkT_len _ _ a j (by omega)
      have hg : gt (mkT fTm cTm a j i) (i : Int) Tm.zero = gt a (i : Int) Tm.zero := mkT_gt fTm cTm a j hi Tm.zero
      have he := mkT_set fTm cTm a j hi Tm.zero _ rfl
      have hset : ∀ y : Tm, gt ((mkT fTm cTm a j i).set i y) (i : Int) Tm.zero = y := fun y => gt_set_self _ (by rw [hml]; exact hi) y _
      have hz := szL_at zTm a hi Tm.zero
      obtain ⟨y, hy⟩ : ∃ y : Tm, gt a (i : Int) Tm.zero = y := ⟨_, rfl⟩
      rw [hy] at hg hc1 he hz
      obtain ⟨l0, l1, l2, ⟨l3, l4, l5⟩, l6, l7⟩ := y
      have hz2 := zTm_f (Tm.mk l0 l1 l2 (Ty.mk l3 l4 l5) l6 l7)
      have hz0 := zTy_f (Ty.mk l3 l4 l5)
      dsimp only [Tm.kind, Tm.name, Tm.n, Tm.type, Tm.labels, Tm.args, Ty.kind, Ty.labels, Ty.args] at hz2 hz0
      simp only [cTm, fTm, cTy, fTy] at hc1 he
      simp only [Int.natCast_add, Int.cast_ofNat_Int, ← Int.add_assoc] at he
      have w0 : w64 (j + (pfx cTm a i : Int) + 1) = j + (pfx cTm a i : Int) + 1 := w64_id (by omega) (by omega)
      have w1 : w64 (j + (pfx cTm a i : Int) + 1 + 1) = j + (pfx cTm a i : Int) + 1 + 1 := w64_id (by omega) (by omega)
      have t1 := p_markText nf (j + (pfx cTm a i : Int) + 1) hn (by omega)
      have w2 : w64 (j + (pfx cTm a i : Int) + 1 + 1 + 1) = j + (pfx cTm a i : Int) + 1 + 1 + 1 := w64_id (by omega) (by omega)
      have w3 : w64 (j + (pfx cTm a i : Int) + 1 + 1 + 1 + 1) = j + (pfx cTm a i : Int) + 1 + 1 + 1 + 1 := w64_id (by omega) (by omega)
      have hl4 : l4.length ≤ szL List.length l4 := by unfold szL; omega
      have t4 := p_markStringS nf hn hm l4 (j + (pfx cTm a i : Int) + 1 + 1 + 1 + 1) (by omega) (by omega) (by omega)
      have t5 := p_markTypeS nf hn hm l5 (j + (pfx cTm a i : Int) + 1 + 1 + 1 + 1 + (cSs l4 : Nat)) (by omega) (by omega) (by omega)
      have hl6 : l6.length ≤ szL List.length l6 := by unfold szL; omega
      have t6 := p_markStringS nf hn hm l6 (j + (pfx cTm a i : Int) + 1 + 1 + 1 + 1 + (cSs l4 : Nat) + (cTys l5 : Nat)) (by omega) (by omega) (by omega)
      have t7 := ih l7 (j + (pfx cTm a i : Int) + 1 + 1 + 1 + 1 + (cSs l4 : Nat) + (cTys l5 : Nat) + (cSs l6 : Nat)) (by omega) (by omega) (by omega) (by omega)
      have hk : j + (pfx cTm a i : Int) + 1 + 1 + 1 + 1 + (cSs l4 : Nat) + (cTys l5 : Nat) + (cSs l6 : Nat) + (cTms l7 : Nat) = j + (pfx cTm a (i + 1) : Int) := by omega
      have lset : ∀ y, ((mkT fTm cTm a j i).set i y).length = a.length := fun y => by rw [List.length_set, hml]
      simp only [l6_laws_markTermS_eq, j37_laws_markTermS_eq, j35_laws_markTermS_eq, j33_laws_markTermS_eq, j29_laws_markTermS_eq, j25_laws_markTermS_eq, j21_laws_markTermS_eq, j17_laws_markTermS_eq, j38_laws_markTermS_eq, hml, lset, br_pos c0, gg_pos c1, hg, hset, List.set_set, cb_some, mark_eq, w64_nat (n := i) (by omega), Int.toNat_natCast, w0, w1, t1, w2, w3, t4, t5, t6, t7, Tm.kind, Tm.name, Tm.n, Tm.type, Tm.labels, Tm.args, Ty.kind, Ty.labels, Ty.args, Comp.h_eq, FComp.h_eq, Head.h_eq, Plan.h_eq, Query.h_eq, TDecl.h_eq, Tm.h_eq, Ty.h_eq, Typing.h_eq, Val.h_eq, ← hk]
      first | rw [he] | (rw [← he]; done) | skip
    · have c0 : ¬ (a.length : Int) < (a.length : Int) := by omega
      have hml : (mkT fTm cTm a j a.length).length = a.length := mkT_len _ _ a j (Nat.le_refl _)
      simp only [l6_laws_markTermS_eq, hml, br_neg c0]
      rw [mkT_all _ _ _ _ (Nat.le_refl _), pfx_all cTm a (Nat.le_refl _), fTms_eq, cTms_eq]
theorem p_markTermS (nf : Nat) (hn : 30 < nf) (hm : nf ≤ 2147483647) (a : List Tm) (j : Int) (h' : 8 * szL zTm a < nf) : 0 ≤ j → j + (cTms a : Nat) ≤ 4611686018427387904 → m_laws_markTermS nf nf a j = some (fTms a j, j + (cTms a : Nat)) := g_markTermS nf hn hm nf a j h' h'
theorem g_markPlanS (nf : Nat) (hn : 30 < nf) (hm : nf ≤ 2147483647) : ∀ (kf : Nat) (a : List Plan) (j : Int), 8 * szL zPlan a < kf → 8 * szL zPlan a < nf → 0 ≤ j → j + (cPlans a : Nat) ≤ 4611686018427387904 → m_laws_markPlanS nf kf a j = some (fPlans a j, j + (cPlans a : Nat))
  | 0, a, j, h, _ => absurd h (Nat.not_lt_zero _)
  | kf + 1, a, j, h, h' => by
    intro hq0 hq1
    have ih := g_markPlanS nf hn hm kf
    have hal : a.length ≤ szL zPlan a := by unfold szL; omega
    simp only [m_laws_markPlanS_eq, mark_eq]
    have h00 : a = mkT fPlan cPlan a j 0 := (mkT_zero fPlan cPlan a j).symm
    have key := for_loop (fun m i (s : List Plan × Int) => l6_laws_markPlanS nf (kf + 1) m s.2 i s.1) a.length (fun i => (mkT fPlan cPlan a j i, j + (pfx cPlan a i : Nat))) (some (fPlans a j, j + (cPlans a : Nat))) (fun m i hi => ?_) (fun m => ?_) nf (by omega)
    · simpa only [mkT_zero, pfx_zero, Int.natCast_zero, Int.add_zero, Int.cast_ofNat_Int] using key
    · have c0 : (i : Int) < (a.length : Int) := by omega
      have c1 : 0 ≤ (i : Int) ∧ (i : Int) < (a.length : Int) := by omega
      have hc1 := pfx_succ cPlan a hi Plan.zero
      have hc2 : pfx cPlan a (i + 1) ≤ cPlans a := by rw [cPlans_eq]; exact pfx_le cPlan a (i + 1)
      have hml : (mkT fPlan cPlan a j i).length = a.length := mkT_len _ _ a j (by omega)
      have hg : gt (mkT fPlan cPlan a j i) (i : Int) Plan.zero = gt a (i : Int) Plan.zero := mkT_gt fPlan cPlan a j hi Plan.zero
      have he := mkT_set fPlan cPlan a j hi Plan.zero _ rfl
      have hset : ∀ y : Plan, gt ((mkT fPlan cPlan a j i).set i y) (i : Int) Plan.zero = y := fun y => gt_set_self _ (by rw [hml]; exact hi) y _
      have hz := szL_at zPlan a hi Plan.zero
      obtain ⟨y, hy⟩ : ∃ y : Plan, gt a (i : Int) Plan.zero = y := ⟨_, rfl⟩
      rw [hy] at hg hc1 he hz
      obtain ⟨l0, l1, l2, ⟨l3, l4, l5, ⟨l6, l7, l8⟩, l9, l10⟩, l11, l12⟩ := y
      have hz17 := zPlan_f (Plan.mk l0 l1 l2 (Tm.mk l3 l4 l5 (Ty.mk l6 l7 l8) l9 l10) l11 l12)
      have hz2 := zTm_f (Tm.mk l3 l4 l5 (Ty.mk l6 l7 l8) l9 l10)
      have hz0 := zTy_f (Ty.mk l6 l7 l8)
      dsimp only [Plan.kind, Plan.var, Plan.table, Plan.cond, Plan.keys, Plan.args, Tm.kind, Tm.name, Tm.n, Tm.type, Tm.labels, Tm.args, Ty.kind, Ty.labels, Ty.args] at hz17 hz2 hz0
      simp only [cPlan, fPlan, cTm, fTm, cTy, fTy] at hc1 he
      simp only [Int.natCast_add, Int.cast_ofNat_Int, ← Int.add_assoc] at he
      have w0 : w64 (j + (pfx cPlan a i : Int) + 1) = j + (pfx cPlan a i : Int) + 1 := w64_id (by omega) (by omega)
      have w1 : w64 (j + (pfx cPlan a i : Int) + 1 + 1) = j + (pfx cPlan a i : Int) + 1 + 1 := w64_id (by omega) (by omega)
      have t1 := p_markText nf (j + (pfx cPlan a i : Int) + 1) hn (by omega)
      have w2 : w64 (j + (pfx cPlan a i : Int) + 1 + 1 + 1) = j + (pfx cPlan a i : Int) + 1 + 1 + 1 := w64_id (by omega) (by omega)
      have t2 := p_markText nf (j + (pfx cPlan a i : Int) + 1 + 1) hn (by omega)
      have w3 : w64 (j + (pfx cPlan a i : Int) + 1 + 1 + 1 + 1) = j + (pfx cPlan a i : Int) + 1 + 1 + 1 + 1 := w64_id (by omega) (by omega)
      have w4 : w64 (j + (pfx cPlan a i : Int) + 1 + 1 + 1 + 1 + 1) = j + (pfx cPlan a i : Int) + 1 + 1 + 1 + 1 + 1 := w64_id (by omega) (by omega)
      have t4 := p_markText nf (j + (pfx cPlan a i : Int) + 1 + 1 + 1 + 1) hn (by omega)
      have w5 : w64 (j + (pfx cPlan a i : Int) + 1 + 1 + 1 + 1 + 1 + 1) = j + (pfx cPlan a i : Int) + 1 + 1 + 1 + 1 + 1 + 1 := w64_id (by omega) (by omega)
      have w6 : w64 (j + (pfx cPlan a i : Int) + 1 + 1 + 1 + 1 + 1 + 1 + 1) = j + (pfx cPlan a i : Int) + 1 + 1 + 1 + 1 + 1 + 1 + 1 := w64_id (by omega) (by omega)
      have hl7 : l7.length ≤ szL List.length l7 := by unfold szL; omega
      have t7 := p_markStringS nf hn hm l7 (j + (pfx cPlan a i : Int) + 1 + 1 + 1 + 1 + 1 + 1 + 1) (by omega) (by omega) (by omega)
      have t8 := p_markTypeS nf hn hm l8 (j + (pfx cPlan a i : Int) + 1 + 1 + 1 + 1 + 1 + 1 + 1 + (cSs l7 : Nat)) (by omega) (by omega) (by omega)
      have hl9 : l9.length ≤ szL List.length l9 := by unfold szL; omega
      have t9 := p_markStringS nf hn hm l9 (j + (pfx cPlan a i : Int) + 1 + 1 + 1 + 1 + 1 + 1 + 1 + (cSs l7 : Nat) + (cTys l8 : Nat)) (by omega) (by omega) (by omega)
      have t10 := p_markTermS nf hn hm l10 (j + (pfx cPlan a i : Int) + 1 + 1 + 1 + 1 + 1 + 1 + 1 + (cSs l7 : Nat) + (cTys l8 : Nat) + (cSs l9 : Nat)) (by omega) (by omega) (by omega)
      have t11 := p_markTermS nf hn hm l11 (j + (pfx cPlan a i : Int) + 1 + 1 + 1 + 1 + 1 + 1 + 1 + (cSs l7 : Nat) + (cTys l8 : Nat) + (cSs l9 : Nat) + (cTms l10 : Nat)) (by omega) (by omega) (by omega)
      have t12 := ih l12 (j + (pfx cPlan a i : Int) + 1 + 1 + 1 + 1 + 1 + 1 + 1 + (cSs l7 : Nat) + (cTys l8 : Nat) + (cSs l9 : Nat) + (cTms l10 : Nat) + (cTms l11 : Nat)) (by omega) (by omega) (by omega) (by omega)
      have hk : j + (pfx cPlan a i : Int) + 1 + 1 + 1 + 1 + 1 + 1 + 1 + (cSs l7 : Nat) + (cTys l8 : Nat) + (cSs l9 : Nat) + (cTms l10 : Nat) + (cTms l11 : Nat) + (cPlans l12 : Nat) = j + (pfx cPlan a (i + 1) : Int) := by omega
      have lset : ∀ y, ((mkT fPlan cPlan a j i).set i y).length = a.length := fun y => by rw [List.length_set, hml]
      simp only [l6_laws_markPlanS_eq, j53_laws_markPlanS_eq, j51_laws_markPlanS_eq, j49_laws_markPlanS_eq, j47_laws_markPlanS_eq, j45_laws_markPlanS_eq, j41_laws_markPlanS_eq, j37_laws_markPlanS_eq, j33_laws_markPlanS_eq, j29_laws_markPlanS_eq, j25_laws_markPlanS_eq, j21_laws_markPlanS_eq, j17_laws_markPlanS_eq, j54_laws_markPlanS_eq, hml, lset, br_pos c0, gg_pos c1, hg, hset, List.set_set, cb_some, mark_eq, w64_nat (n := i) (by omega), Int.toNat_natCast, w0, w1, t1, w2, t2, w3, w4, t4, w5, w6, t7, t8, t9, t10, t11, t12, Plan.kind, Plan.var, Plan.table, Plan.cond, Plan.keys, Plan.args, Tm.kind, Tm.name, Tm.n, Tm.type, Tm.labels, Tm.args, Ty.kind, Ty.labels, Ty.args, Comp.h_eq, FComp.h_eq, Head.h_eq, Plan.h_eq, Query.h_eq, TDecl.h_eq, Tm.h_eq, Ty.h_eq, Typing.h_eq, Val.h_eq, ← hk]
      first | rw [he] | (rw [← he]; done) | skip
    · have c0 : ¬ (a.length : Int) < (a.length : Int) := by omega
      have hml : (mkT fPlan cPlan a j a.length).length = a.length := mkT_len _ _ a j (Nat.le_refl _)
      simp only [l6_laws_markPlanS_eq, hml, br_neg c0]
      rw [mkT_all _ _ _ _ (Nat.le_refl _), pfx_all cPlan a (Nat.le_refl _), fPlans_eq, cPlans_eq]
theorem p_markPlanS (nf : Nat) (hn : 30 < nf) (hm : nf ≤ 2147483647) (a : List Plan) (j : Int) (h' : 8 * szL zPlan a < nf) : 0 ≤ j → j + (cPlans a : Nat) ≤ 4611686018427387904 → m_laws_markPlanS nf nf a j = some (fPlans a j, j + (cPlans a : Nat)) := g_markPlanS nf hn hm nf a j h' h'
theorem p_markGenS (nf : Nat) (hn : 30 < nf) (hm : nf ≤ 2147483647) (a : List Gen) (j : Int) (h' : a.length < nf) : 0 ≤ j → j + (cGens a : Nat) ≤ 4611686018427387904 → m_laws_markGenS nf a j = some (fGens a j, j + (cGens a : Nat)) := by
  intro hq0 hq1
  have hal : a.length ≤ szL zGen a := by unfold szL; omega
  simp only [m_laws_markGenS_eq, mark_eq]
  have h00 : a = mkT fGen cGen a j 0 := (mkT_zero fGen cGen a j).symm
  have key := for_loop (fun m i (s : List Gen × Int) => l6_laws_markGenS nf m s.2 i s.1) a.length (fun i => (mkT fGen cGen a j i, j + (pfx cGen a i : Nat))) (some (fGens a j, j + (cGens a : Nat))) (fun m i hi => ?_) (fun m => ?_) nf (by omega)
  · simpa only [mkT_zero, pfx_zero, Int.natCast_zero, Int.add_zero, Int.cast_ofNat_Int] using key
  · have c0 : (i : Int) < (a.length : Int) := by omega
    have c1 : 0 ≤ (i : Int) ∧ (i : Int) < (a.length : Int) := by omega
    have hc1 := pfx_succ cGen a hi Gen.zero
    have hc2 : pfx cGen a (i + 1) ≤ cGens a := by rw [cGens_eq]; exact pfx_le cGen a (i + 1)
    have hml : (mkT fGen cGen a j i).length = a.length := mkT_len _ _ a j (by omega)
    have hg : gt (mkT fGen cGen a j i) (i : Int) Gen.zero = gt a (i : Int) Gen.zero := mkT_gt fGen cGen a j hi Gen.zero
    have he := mkT_set fGen cGen a j hi Gen.zero _ rfl
    have hset : ∀ y : Gen, gt ((mkT fGen cGen a j i).set i y) (i : Int) Gen.zero = y := fun y => gt_set_self _ (by rw [hml]; exact hi) y _
    have hz := szL_at zGen a hi Gen.zero
    obtain ⟨y, hy⟩ : ∃ y : Gen, gt a (i : Int) Gen.zero = y := ⟨_, rfl⟩
    rw [hy] at hg hc1 he hz
    obtain ⟨l0, l1⟩ := y
    have hz3 := zGen_f (Gen.mk l0 l1)
    dsimp only [Gen.var, Gen.table] at hz3
    simp only [cGen, fGen] at hc1 he
    have w0 : w64 (j + (pfx cGen a i : Int) + 1) = j + (pfx cGen a i : Int) + 1 := w64_id (by omega) (by omega)
    have t0 := p_markText nf (j + (pfx cGen a i : Int)) hn (by omega)
    have w1 : w64 (j + (pfx cGen a i : Int) + 1 + 1) = j + (pfx cGen a i : Int) + 1 + 1 := w64_id (by omega) (by omega)
    have t1 := p_markText nf (j + (pfx cGen a i : Int) + 1) hn (by omega)
    have hk : j + (pfx cGen a i : Int) + 1 + 1 = j + (pfx cGen a (i + 1) : Int) := by omega
    have lset : ∀ y, ((mkT fGen cGen a j i).set i y).length = a.length := fun y => by rw [List.length_set, hml]
    simp only [l6_laws_markGenS_eq, j21_laws_markGenS_eq, hml, lset, br_pos c0, gg_pos c1, hg, hset, List.set_set, cb_some, mark_eq, w64_nat (n := i) (by omega), Int.toNat_natCast, w0, t0, w1, t1, Gen.var, Gen.table, Comp.h_eq, FComp.h_eq, Head.h_eq, Plan.h_eq, Query.h_eq, TDecl.h_eq, Tm.h_eq, Ty.h_eq, Typing.h_eq, Val.h_eq, ← hk]
    first | rw [he] | (rw [← he]; done) | skip
  · have c0 : ¬ (a.length : Int) < (a.length : Int) := by omega
    have hml : (mkT fGen cGen a j a.length).length = a.length := mkT_len _ _ a j (Nat.le_refl _)
    simp only [l6_laws_markGenS_eq, hml, br_neg c0]
    rw [mkT_all _ _ _ _ (Nat.le_refl _), pfx_all cGen a (Nat.le_refl _), fGens_eq, cGens_eq]
theorem p_heldGenS (nf : Nat) (hn : 30 < nf) (hm : nf ≤ 2147483647) (a : List Gen) (j : Int) (h' : a.length < nf) : 0 ≤ j → j + (cGens a : Nat) ≤ 4611686018427387904 → fGens a j = a → m_laws_heldGenS nf a j = some (j + (cGens a : Nat)) := by
  intro hq0 hq1 hm1
  have hal : a.length ≤ szL zGen a := by unfold szL; omega
  rw [fGens_eq] at hm1
  simp only [m_laws_heldGenS_eq, mark_eq]
  have key := for_loop (fun m i (s : Int) => l6_laws_heldGenS nf m a s i) a.length (fun i => j + (pfx cGen a i : Nat)) (some (j + (cGens a : Nat))) (fun m i hi => ?_) (fun m => ?_) nf (by omega)
  · simpa only [pfx_zero, Int.natCast_zero, Int.add_zero, Int.cast_ofNat_Int] using key
  · have c0 : (i : Int) < (a.length : Int) := by omega
    have c1 : 0 ≤ (i : Int) ∧ (i : Int) < (a.length : Int) := by omega
    have hc1 := pfx_succ cGen a hi Gen.zero
    have hc2 : pfx cGen a (i + 1) ≤ cGens a := by rw [cGens_eq]; exact pfx_le cGen a (i + 1)
    have hel := heldL fGen cGen a j hi Gen.zero Gen.zero
    rw [hm1] at hel
    have hz := szL_at zGen a hi Gen.zero
    obtain ⟨y, hy⟩ : ∃ y : Gen, gt a (i : Int) Gen.zero = y := ⟨_, rfl⟩
    rw [hy] at hel hc1 hz
    obtain ⟨l0, l1⟩ := y
    have hz3 := zGen_f (Gen.mk l0 l1)
    dsimp only [Gen.var, Gen.table] at hz3
    simp only [cGen, fGen, Gen.mk.injEq] at hc1 hel
    obtain ⟨e0, e1⟩ := hel
    have w0 : w64 (j + (pfx cGen a i : Int) + 1) = j + (pfx cGen a i : Int) + 1 := w64_id (by omega) (by omega)
    have t0 := p_markText nf (j + (pfx cGen a i : Int)) hn (by omega)
    have w1 : w64 (j + (pfx cGen a i : Int) + 1 + 1) = j + (pfx cGen a i : Int) + 1 + 1 := w64_id (by omega) (by omega)
    have t1 := p_markText nf (j + (pfx cGen a i : Int) + 1) hn (by omega)
    have hk : j + (pfx cGen a i : Int) + 1 + 1 = j + (pfx cGen a (i + 1) : Int) := by omega
    simp only [l6_laws_heldGenS_eq, br_pos c0, gg_pos c1, hy, cb_some, mark_eq, w64_nat (n := i) (by omega), w0, t0, e0, w1, t1, e1, Gen.var, Gen.table, Comp.h_eq, FComp.h_eq, Head.h_eq, Plan.h_eq, Query.h_eq, TDecl.h_eq, Tm.h_eq, Ty.h_eq, Typing.h_eq, Val.h_eq, beq_self_eq_true, Bool.not_true, br_false, ← hk]
  · have c0 : ¬ (a.length : Int) < (a.length : Int) := by omega
    simp only [l6_laws_heldGenS_eq, br_neg c0]
    rw [pfx_all cGen a (Nat.le_refl _), cGens_eq]
end Go.Q
