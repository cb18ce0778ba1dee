/- The plain laws of marks. -/
import Derived.Test.YtkbanchknllcnaaA2t
import Derived.Test.YtkbanchknllcnaaA2p
set_option linter.unusedVariables false
set_option linter.unusedSimpArgs false
set_option linter.unusedVariables false
set_option linter.unusedSimpArgs false
set_option maxHeartbeats 8000000
namespace Go.Q
theorem p_markStringS (nf : Nat) (hn : 30 < nf) (hm : nf ≤ 2147483647) (a : List Str) (j : Int) (h' : a.length < nf) : 0 ≤ j → j + (cSs a : Nat) ≤ 4611686018427387904 → m_laws_markStringS nf a j = some (fSs a j, j + (cSs a : Nat)) := by
  intro hq0 hq1
  simp only [m_laws_markStringS_eq, mark_eq]
  have h00 : a = mkT fS cS a j 0 := (mkT_zero fS cS a j).symm
  have key := for_loop (fun m i (s : List Str × Int) => l6_laws_markStringS nf m s.2 i s.1) a.length (fun i => (mkT fS cS a j i, j + (pfx cS a i : Nat))) (some (fSs a j, j + (cSs a : Nat))) (fun m i hi => ?_) (fun m => ?_) nf (by omega)
  · simpa only [mkT_zero, pfx_zero, Int.natCast_zero, Int.add_zero, Int.cast_ofNat_Int] using key
  · have c0 : (i : Int) < (a.length : Int) := by omega
    have c1 : 0 ≤ (i : Int) ∧ (i : Int) < (a.length : Int) := by omega
    have hc1 := pfx_succ cS a hi ([] : Str)
    have hc2 : pfx cS a (i + 1) ≤ cSs a := by rw [cSs_eq]; exact pfx_le cS a (i + 1)
    have hml : (mkT fS cS a j i).length = a.length := mkT_len _ _ a j (by omega)
    have hg : gt (mkT fS cS a j i) (i : Int) ([] : Str) = gt a (i : Int) ([] : Str) := mkT_gt fS cS a j hi ([] : Str)
    have he := mkT_set fS cS a j hi ([] : Str) _ rfl
    have hset : ∀ y : Str, gt ((mkT fS cS a j i).set i y) (i : Int) ([] : Str) = y := fun y => gt_set_self _ (by rw [hml]; exact hi) y _
    simp only [cS, fS] at hc1 he
    have w0 : w64 (j + (pfx cS a i : Int) + 1) = j + (pfx cS a i : Int) + 1 := w64_id (by omega) (by omega)
    have t0 := p_markText nf (j + (pfx cS a i : Int)) hn (by omega)
    have hk : j + (pfx cS a i : Int) + 1 = j + (pfx cS a (i + 1) : Int) := by omega
    have lset : ∀ y, ((mkT fS cS a j i).set i y).length = a.length := fun y => by rw [List.length_set, hml]
    simp only [l6_laws_markStringS_eq, hml, lset, br_pos c0, gg_pos c1, hg, hset, List.set_set, cb_some, mark_eq, w64_nat (n := i) (by omega), Int.toNat_natCast, w0, t0, Comp.h_eq, FComp.h_eq, Head.h_eq, Plan.h_eq, Query.h_eq, TDecl.h_eq, Tm.h_eq, Ty.h_eq, Typing.h_eq, Val.h_eq, ← hk]
    first | rw [he] | (rw [← he]; done) | skip
  · have c0 : ¬ (a.length : Int) < (a.length : Int) := by omega
    have hml : (mkT fS cS a j a.length).length = a.length := mkT_len _ _ a j (Nat.le_refl _)
    simp only [l6_laws_markStringS_eq, hml, br_neg c0]
    rw [mkT_all _ _ _ _ (Nat.le_refl _), pfx_all cS a (Nat.le_refl _), fSs_eq, cSs_eq]
theorem p_heldStringS (nf : Nat) (hn : 30 < nf) (hm : nf ≤ 2147483647) (a : List Str) (j : Int) (h' : a.length < nf) : 0 ≤ j → j + (cSs a : Nat) ≤ 4611686018427387904 → fSs a j = a → m_laws_heldStringS nf a j = some (j + (cSs a : Nat)) := by
  intro hq0 hq1 hm1
  rw [fSs_eq] at hm1
  simp only [m_laws_heldStringS_eq, mark_eq]
  have key := for_loop (fun m i (s : Int) => l6_laws_heldStringS nf m a s i) a.length (fun i => j + (pfx cS a i : Nat)) (some (j + (cSs a : Nat))) (fun m i hi => ?_) (fun m => ?_) nf (by omega)
  · simpa only [pfx_zero, Int.natCast_zero, Int.add_zero, Int.cast_ofNat_Int] using key
  · have c0 : (i : Int) < (a.length : Int) := by omega
    have c1 : 0 ≤ (i : Int) ∧ (i : Int) < (a.length : Int) := by omega
    have hc1 := pfx_succ cS a hi ([] : Str)
    have hc2 : pfx cS a (i + 1) ≤ cSs a := by rw [cSs_eq]; exact pfx_le cS a (i + 1)
    have hel := heldL fS cS a j hi ([] : Str) ([] : Str)
    rw [hm1] at hel
    simp only [cS, fS] at hc1 hel
    have w0 : w64 (j + (pfx cS a i : Int) + 1) = j + (pfx cS a i : Int) + 1 := w64_id (by omega) (by omega)
    have t0 := p_markText nf (j + (pfx cS a i : Int)) hn (by omega)
    have hk : j + (pfx cS a i : Int) + 1 = j + (pfx cS a (i + 1) : Int) := by omega
    simp only [l6_laws_heldStringS_eq, br_pos c0, gg_pos c1, cb_some, mark_eq, w64_nat (n := i) (by omega), w0, t0, hel, Comp.h_eq, FComp.h_eq, Head.h_eq, Plan.h_eq, Query.h_eq, TDecl.h_eq, Tm.h_eq, Ty.h_eq, Typing.h_eq, Val.h_eq, beq_self_eq_true, Bool.not_true, br_false, ← hk]
  · have c0 : ¬ (a.length : Int) < (a.length : Int) := by omega
    simp only [l6_laws_heldStringS_eq, br_neg c0]
    rw [pfx_all cS a (Nat.le_refl _), cSs_eq]
theorem p_markStringSS (nf : Nat) (hn : 30 < nf) (hm : nf ≤ 2147483647) (a : List (List Str)) (j : Int) (h' : szL cSs a < nf) : 0 ≤ j → j + (cSss a : Nat) ≤ 4611686018427387904 → m_laws_markStringSS nf a j = some (fSss a j, j + (cSss a : Nat)) := by
  intro hq0 hq1
  have hal : a.length ≤ szL cSs a := by unfold szL; omega
  simp only [m_laws_markStringSS_eq, mark_eq]
  have h00 : a = mkT fSs cSs a j 0 := (mkT_zero fSs cSs a j).symm
  have key := for_loop (fun m i (s : List (List Str) × Int) => l6_laws_markStringSS nf m s.2 i s.1) a.length (fun i => (mkT fSs cSs a j i, j + (pfx cSs a i : Nat))) (some (fSss a j, j + (cSss a : Nat))) (fun m i hi => ?_) (fun m => ?_) nf (by omega)
  · simpa only [mkT_zero, pfx_zero, Int.natCast_zero, Int.add_zero, Int.cast_ofNat_Int] using key
  · have c0 : (i : Int) < (a.length : Int) := by omega
    have c1 : 0 ≤ (i : Int) ∧ (i : Int) < (a.length : Int) := by omega
    have hc1 := pfx_succ cSs a hi ([] : List Str)
    have hc2 : pfx cSs a (i + 1) ≤ cSss a := by rw [cSss_eq]; exact pfx_le cSs a (i + 1)
    have hml : (mkT fSs cSs a j i).length = a.length := mkT_len _ _ a j (by omega)
    have hg : gt (mkT fSs cSs a j i) (i : Int) ([] : List Str) = gt a (i : Int) ([] : List Str) := mkT_gt fSs cSs a j hi ([] : List Str)
    have he := mkT_set fSs cSs a j hi ([] : List Str) _ rfl
    have hset : ∀ y : List Str, gt ((mkT fSs cSs a j i).set i y) (i : Int) ([] : List Str) = y := fun y => gt_set_self _ (by rw [hml]; exact hi) y _
    have hl0 := cSs_len (gt a (i : Int) ([] : List Str))
    have hs0 := szL_at cSs a hi ([] : List Str)
    have t0 := p_markStringS nf hn hm (gt a (i : Int) ([] : List Str)) (j + (pfx cSs a i : Int)) (by omega) (by omega) (by omega)
    have hk : j + (pfx cSs a i : Int) + (cSs (gt a (i : Int) ([] : List Str)) : Nat) = j + (pfx cSs a (i + 1) : Int) := by omega
    have lset : ∀ y, ((mkT fSs cSs a j i).set i y).length = a.length := fun y => by rw [List.length_set, hml]
    simp only [l6_laws_markStringSS_eq, hml, lset, br_pos c0, gg_pos c1, hg, hset, List.set_set, cb_some, mark_eq, w64_nat (n := i) (by omega), Int.toNat_natCast, t0, Comp.h_eq, FComp.h_eq, Head.h_eq, Plan.h_eq, Query.h_eq, TDecl.h_eq, Tm.h_eq, Ty.h_eq, Typing.h_eq, Val.h_eq, ← hk]
    first | rw [he] | (rw [← he]; done) | skip
  · have c0 : ¬ (a.length : Int) < (a.length : Int) := by omega
    have hml : (mkT fSs cSs a j a.length).length = a.length := mkT_len _ _ a j (Nat.le_refl _)
    simp only [l6_laws_markStringSS_eq, hml, br_neg c0]
    rw [mkT_all _ _ _ _ (Nat.le_refl _), pfx_all cSs a (Nat.le_refl _), fSss_eq, cSss_eq]
theorem p_heldStringSS (nf : Nat) (hn : 30 < nf) (hm : nf ≤ 2147483647) (a : List (List Str)) (j : Int) (h' : szL cSs a < nf) : 0 ≤ j → j + (cSss a : Nat) ≤ 4611686018427387904 → fSss a j = a → m_laws_heldStringSS nf a j = some (j + (cSss a : Nat)) := by
  intro hq0 hq1 hm1
  have hal : a.length ≤ szL cSs a := by unfold szL; omega
  rw [fSss_eq] at hm1
  simp only [m_laws_heldStringSS_eq, mark_eq]
  have key := for_loop (fun m i (s : Int) => l6_laws_heldStringSS nf m a s i) a.length (fun i => j + (pfx cSs a i : Nat)) (some (j + (cSss a : Nat))) (fun m i hi => ?_) (fun m => ?_) nf (by omega)
  · simpa only [pfx_zero, Int.natCast_zero, Int.add_zero, Int.cast_ofNat_Int] using key
  · have c0 : (i : Int) < (a.length : Int) := by omega
    have c1 : 0 ≤ (i : Int) ∧ (i : Int) < (a.length : Int) := by omega
    have hc1 := pfx_succ cSs a hi ([] : List Str)
    have hc2 : pfx cSs a (i + 1) ≤ cSss a := by rw [cSss_eq]; exact pfx_le cSs a (i + 1)
    have hel := heldL fSs cSs a j hi ([] : List Str) ([] : List Str)
    rw [hm1] at hel
    have hl0 := cSs_len (gt a (i : Int) ([] : List Str))
    have hs0 := szL_at cSs a hi ([] : List Str)
    have t0 := p_heldStringS nf hn hm (gt a (i : Int) ([] : List Str)) (j + (pfx cSs a i : Int)) (by omega) (by omega) (by omega) hel.symm
    have n0 : ¬ j + (pfx cSs a i : Int) + (cSs (gt a (i : Int) ([] : List Str)) : Nat) < 0 := by omega
    have hk : j + (pfx cSs a i : Int) + (cSs (gt a (i : Int) ([] : List Str)) : Nat) = j + (pfx cSs a (i + 1) : Int) := by omega
    simp only [l6_laws_heldStringSS_eq, br_pos c0, gg_pos c1, cb_some, mark_eq, w64_nat (n := i) (by omega), t0, br_neg n0, Comp.h_eq, FComp.h_eq, Head.h_eq, Plan.h_eq, Query.h_eq, TDecl.h_eq, Tm.h_eq, Ty.h_eq, Typing.h_eq, Val.h_eq, beq_self_eq_true, Bool.not_true, br_false, ← hk]
  · have c0 : ¬ (a.length : Int) < (a.length : Int) := by omega
    simp only [l6_laws_heldStringSS_eq, br_neg c0]
    rw [pfx_all cSs a (Nat.le_refl _), cSss_eq]
theorem g_markTypeS (nf : Nat) (hn : 30 < nf) (hm : nf ≤ 2147483647) : ∀ (kf : Nat) (a : List Ty) (j : Int), cTys a < kf → cTys a < nf → 0 ≤ j → j + (cTys a : Nat) ≤ 4611686018427387904 → m_laws_markTypeS nf kf a j = some (fTys a j, j + (cTys a : Nat))
  | 0, a, j, h, _ => absurd h (Nat.not_lt_zero _)
  | kf + 1, a, j, h, h' => by
    intro hq0 hq1
    have ih := g_markTypeS nf hn hm kf
    have hal : a.length ≤ cTys a := by rw [cTys_eq]; exact len_le_sum (fun x => by rw [cTy_f]; omega) a
    simp only [m_laws_markTypeS_eq, mark_eq]
    have h00 : a = mkT fTy cTy a j 0 := (mkT_zero fTy cTy a j).symm
    have key := for_loop (fun m i (s : List Ty × Int) => l6_laws_markTypeS nf (kf + 1) m s.2 i s.1) a.length (fun i => (mkT fTy cTy a j i, j + (pfx cTy a i : Nat))) (some (fTys a j, j + (cTys a : Nat))) (fun m i hi => ?_) (fun m => ?_) nf (by omega)
    · simpa only [mkT_zero, pfx_zero, Int.natCast_zero, Int.add_zero, Int.cast_ofNat_Int] using key
    · have c0 : (i : Int) < (a.length : Int) := by omega
      have c1 : 0 ≤ (i : Int) ∧ (i : Int) < (a.length : Int) := by omega
      have hc1 := pfx_succ cTy a hi Ty.zero
      have hc2 : pfx cTy a (i + 1) ≤ cTys a := by rw [cTys_eq]; exact pfx_le cTy a (i + 1)
      have hml : (mkT fTy cTy a j i).length = a.length := mkT_len _ _ a j (by omega)
      have hg : gt (mkT fTy cTy a j i) (i : Int) Ty.zero = gt a (i : Int) Ty.zero := mkT_gt fTy cTy a j hi Ty.zero
      have he := mkT_set fTy cTy a j hi Ty.zero _ rfl
      have hset : ∀ y : Ty, gt ((mkT fTy cTy a j i).set i y) (i : Int) Ty.zero = y := fun y => gt_set_self _ (by rw [hml]; exact hi) y _
      have hz : cTy (gt a (i : Int) Ty.zero) ≤ cTys a := by rw [cTys_eq]; exact sum_at cTy a hi _
      obtain ⟨y, hy⟩ : ∃ y : Ty, gt a (i : Int) Ty.zero = y := ⟨_, rfl⟩
      rw [hy] at hg hc1 he hz
      obtain ⟨l0, l1, l2⟩ := y
      simp only [cTy, fTy] at hc1 hz he
      have w0 : w64 (j + (pfx cTy a i : Int) + 1) = j + (pfx cTy a i : Int) + 1 := w64_id (by omega) (by omega)
      have hl1 := cSs_len l1
      have t1 := p_markStringS nf hn hm l1 (j + (pfx cTy a i : Int) + 1) (by omega) (by omega) (by omega)
      have t2 := ih l2 (j + (pfx cTy a i : Int) + 1 + (cSs l1 : Nat)) (by omega) (by omega) (by omega) (by omega)
      have hk : j + (pfx cTy a i : Int) + 1 + (cSs l1 : Nat) + (cTys l2 : Nat) = j + (pfx cTy a (i + 1) : Int) := by omega
      have lset : ∀ y, ((mkT fTy cTy a j i).set i y).length = a.length := fun y => by rw [List.length_set, hml]
      simp only [l6_laws_markTypeS_eq, j21_laws_markTypeS_eq, hml, lset, br_pos c0, gg_pos c1, hg, hset, List.set_set, cb_some, mark_eq, w64_nat (n := i) (by omega), Int.toNat_natCast, w0, t1, t2, Ty.kind, Ty.labels, Ty.args, Comp.h_eq, FComp.h_eq, Head.h_eq, Plan.h_eq, Query.h_eq, TDecl.h_eq, Tm.h_eq, Ty.h_eq, Typing.h_eq, Val.h_eq, ← hk]
      first | rw [he] | (rw [← he]; done) | skip
    · have c0 : ¬ (a.length : Int) < (a.length : Int) := by omega
      have hml : (mkT fTy cTy a j a.length).length = a.length := mkT_len _ _ a j (Nat.le_refl _)
      simp only [l6_laws_markTypeS_eq, hml, br_neg c0]
      rw [mkT_all _ _ _ _ (Nat.le_refl _), pfx_all cTy a (Nat.le_refl _), fTys_eq, cTys_eq]
theorem p_markTypeS (nf : Nat) (hn : 30 < nf) (hm : nf ≤ 2147483647) (a : List Ty) (j : Int) (h' : cTys a < nf) : 0 ≤ j → j + (cTys a : Nat) ≤ 4611686018427387904 → m_laws_markTypeS nf nf a j = some (fTys a j, j + (cTys a : Nat)) := g_markTypeS nf hn hm nf a j h' h'
theorem g_heldTypeS (nf : Nat) (hn : 30 < nf) (hm : nf ≤ 2147483647) : ∀ (kf : Nat) (a : List Ty) (j : Int), cTys a < kf → cTys a < nf → 0 ≤ j → j + (cTys a : Nat) ≤ 4611686018427387904 → fTys a j = a → m_laws_heldTypeS nf kf a j = some (j + (cTys a : Nat))
  | 0, a, j, h, _ => absurd h (Nat.not_lt_zero _)
  | kf + 1, a, j, h, h' => by
    intro hq0 hq1 hm1
    have ih := g_heldTypeS nf hn hm kf
    have hal : a.length ≤ cTys a := by rw [cTys_eq]; exact len_le_sum (fun x => by rw [cTy_f]; omega) a
    rw [fTys_eq] at hm1
    simp only [m_laws_heldTypeS_eq, mark_eq]
    have key := for_loop (fun m i (s : Int) => l6_laws_heldTypeS nf (kf + 1) m a s i) a.length (fun i => j + (pfx cTy a i : Nat)) (some (j + (cTys a : Nat))) (fun m i hi => ?_) (fun m => ?_) nf (by omega)
    · simpa only [pfx_zero, Int.natCast_zero, Int.add_zero, Int.cast_ofNat_Int] using key
    · have c0 : (i : Int) < (a.length : Int) := by omega
      have c1 : 0 ≤ (i : Int) ∧ (i : Int) < (a.length : Int) := by omega
      have hc1 := pfx_succ cTy a hi Ty.zero
      have hc2 : pfx cTy a (i + 1) ≤ cTys a := by rw [cTys_eq]; exact pfx_le cTy a (i + 1)
      have hel := heldL fTy cTy a j hi Ty.zero Ty.zero
      rw [hm1] at hel
      have hz : cTy (gt a (i : Int) Ty.zero) ≤ cTys a := by rw [cTys_eq]; exact sum_at cTy a hi _
      obtain ⟨y, hy⟩ : ∃ y : Ty, gt a (i : Int) Ty.zero = y := ⟨_, rfl⟩
      rw [hy] at hel hc1 hz
      obtain ⟨l0, l1, l2⟩ := y
      simp only [cTy, fTy, Ty.mk.injEq] at hc1 hz hel
      obtain ⟨e0, e1, e2⟩ := hel
      have w0 : w64 (j + (pfx cTy a i : Int) + 1) = j + (pfx cTy a i : Int) + 1 := w64_id (by omega) (by omega)
      have hl1 := cSs_len l1
      have t1 := p_heldStringS nf hn hm l1 (j + (pfx cTy a i : Int) + 1) (by omega) (by omega) (by omega) e1.symm
      have n1 : ¬ j + (pfx cTy a i : Int) + 1 + (cSs l1 : Nat) < 0 := by omega
      have t2 := ih l2 (j + (pfx cTy a i : Int) + 1 + (cSs l1 : Nat)) (by omega) (by omega) (by omega) (by omega) e2.symm
      have n2 : ¬ j + (pfx cTy a i : Int) + 1 + (cSs l1 : Nat) + (cTys l2 : Nat) < 0 := by omega
      have hk : j + (pfx cTy a i : Int) + 1 + (cSs l1 : Nat) + (cTys l2 : Nat) = j + (pfx cTy a (i + 1) : Int) := by omega
      simp only [l6_laws_heldTypeS_eq, br_pos c0, gg_pos c1, hy, cb_some, mark_eq, w64_nat (n := i) (by omega), w0, e0, t1, br_neg n1, t2, br_neg n2, Ty.kind, Ty.labels, Ty.args, Comp.h_eq, FComp.h_eq, Head.h_eq, Plan.h_eq, Query.h_eq, TDecl.h_eq, Tm.h_eq, Ty.h_eq, Typing.h_eq, Val.h_eq, beq_self_eq_true, Bool.not_true, br_false, ← hk]
    · have c0 : ¬ (a.length : Int) < (a.length : Int) := by omega
      simp only [l6_laws_heldTypeS_eq, br_neg c0]
      rw [pfx_all cTy a (Nat.le_refl _), cTys_eq]
theorem p_heldTypeS (nf : Nat) (hn : 30 < nf) (hm : nf ≤ 2147483647) (a : List Ty) (j : Int) (h' : cTys a < nf) : 0 ≤ j → j + (cTys a : Nat) ≤ 4611686018427387904 → fTys a j = a → m_laws_heldTypeS nf nf a j = some (j + (cTys a : Nat)) := g_heldTypeS nf hn hm nf a j h' h'
theorem g_markTermS (nf : Nat) (hn : 30 < nf) (hm : nf ≤ 2147483647) : ∀ (kf : Nat) (a : List Tm) (j : Int), cTms a < kf → cTms a < nf → 0 ≤ j → j + (cTms a : Nat) ≤ 4611686018427387904 → m_laws_markTermS nf kf a j = some (fTms a j, j + (cTms a : Nat))
  | 0, a, j, h, _ => absurd h (Nat.not_lt_zero _)
  | kf + 1, a, j, h, h' => by
    intro hq0 hq1
    have ih := g_markTermS nf hn hm kf
    have hal : a.length ≤ cTms a := by rw [cTms_eq]; exact len_le_sum (fun x => by rw [cTm_f]; omega) a
    simp only [m_laws_markTermS_eq, mark_eq]
    have h00 : a = mkT fTm cTm a j 0 := (mkT_zero fTm cTm a j).symm
    have key := for_loop (fun m i (s : List Tm × Int) => l6_laws_markTermS nf (kf + 1) m s.2 i s.1) a.length (fun i => (mkT fTm cTm a j i, j + (pfx cTm a i : Nat))) (some (fTms a j, j + (cTms a : Nat))) (fun m i hi => ?_) (fun m => ?_) nf (by omega)
    · simpa only [mkT_zero, pfx_zero, Int.natCast_zero, Int.add_zero, Int.cast_ofNat_Int] using key
    · have c0 : (i : Int) < (a.length : Int) := by omega
      have c1 : 0 ≤ (i : Int) ∧ (i : Int) < (a.length : Int) := by omega
      have hc1 := pfx_succ cTm a hi Tm.zero
      have hc2 : pfx cTm a (i + 1) ≤ cTms a := by rw [cTms_eq]; exact pfx_le cTm a (i + 1)
      have hml : (mkT fTm cTm a j i).length = a.length := mkT_len _ _ a j (by omega)
      have hg : gt (mkT fTm cTm a j i) (i : Int) Tm.zero = gt a (i : Int) Tm.zero := mkT_gt fTm cTm a j hi Tm.zero
      have he := mkT_set fTm cTm a j hi Tm.zero _ rfl
      have hset : ∀ y : Tm, gt ((mkT fTm cTm a j i).set i y) (i : Int) Tm.zero = y := fun y => gt_set_self _ (by rw [hml]; exact hi) y _
      have hz : cTm (gt a (i : Int) Tm.zero) ≤ cTms a := by rw [cTms_eq]; exact sum_at cTm a hi _
      obtain ⟨y, hy⟩ : ∃ y : Tm, gt a (i : Int) Tm.zero = y := ⟨_, rfl⟩
      rw [hy] at hg hc1 he hz
      obtain ⟨l0, l1, l2, ⟨l3, l4, l5⟩, l6, l7⟩ := y
      simp only [cTm, fTm, cTy, fTy] at hc1 hz he
      simp only [Int.natCast_add, Int.cast_ofNat_Int, ← Int.add_assoc] at he
      have w0 : w64 (j + (pfx cTm a i : Int) + 1) = j + (pfx cTm a i : Int) + 1 := w64_id (by omega) (by omega)
      have w1 : w64 (j + (pfx cTm a i : Int) + 1 + 1) = j + (pfx cTm a i : Int) + 1 + 1 := w64_id (by omega) (by omega)
      have t1 := p_markText nf (j + (pfx cTm a i : Int) + 1) hn (by omega)
      have w2 : w64 (j + (pfx cTm a i : Int) + 1 + 1 + 1) = j + (pfx cTm a i : Int) + 1 + 1 + 1 := w64_id (by omega) (by omega)
      have w3 : w64 (j + (pfx cTm a i : Int) + 1 + 1 + 1 + 1) = j + (pfx cTm a i : Int) + 1 + 1 + 1 + 1 := w64_id (by omega) (by omega)
      have hl4 := cSs_len l4
      have t4 := p_markStringS nf hn hm l4 (j + (pfx cTm a i : Int) + 1 + 1 + 1 + 1) (by omega) (by omega) (by omega)
      have t5 := p_markTypeS nf hn hm l5 (j + (pfx cTm a i : Int) + 1 + 1 + 1 + 1 + (cSs l4 : Nat)) (by omega) (by omega) (by omega)
      have hl6 := cSs_len l6
      have t6 := p_markStringS nf hn hm l6 (j + (pfx cTm a i : Int) + 1 + 1 + 1 + 1 + (cSs l4 : Nat) + (cTys l5 : Nat)) (by omega) (by omega) (by omega)
      have t7 := ih l7 (j + (pfx cTm a i : Int) + 1 + 1 + 1 + 1 + (cSs l4 : Nat) + (cTys l5 : Nat) + (cSs l6 : Nat)) (by omega) (by omega) (by omega) (by omega)
      have hk : j + (pfx cTm a i : Int) + 1 + 1 + 1 + 1 + (cSs l4 : Nat) + (cTys l5 : Nat) + (cSs l6 : Nat) + (cTms l7 : Nat) = j + (pfx cTm a (i + 1) : Int) := by omega
      have lset : ∀ y, ((mkT fTm cTm a j i).set i y).length = a.length := fun y => by rw [List.length_set, hml]
      simp only [l6_laws_markTermS_eq, j37_laws_markTermS_eq, j35_laws_markTermS_eq, j33_laws_markTermS_eq, j29_laws_markTermS_eq, j25_laws_markTermS_eq, j21_laws_markTermS_eq, j17_laws_markTermS_eq, j38_laws_markTermS_eq, hml, lset, br_pos c0, gg_pos c1, hg, hset, List.set_set, cb_some, mark_eq, w64_nat (n := i) (by omega), Int.toNat_natCast, w0, w1, t1, w2, w3, t4, t5, t6, t7, Tm.kind, Tm.name, Tm.n, Tm.type, Tm.labels, Tm.args, Ty.kind, Ty.labels, Ty.args, Comp.h_eq, FComp.h_eq, Head.h_eq, Plan.h_eq, Query.h_eq, TDecl.h_eq, Tm.h_eq, Ty.h_eq, Typing.h_eq, Val.h_eq, ← hk]
      first | rw [he] | (rw [← he]; done) | skip
    · have c0 : ¬ (a.length : Int) < (a.length : Int) := by omega
      have hml : (mkT fTm cTm a j a.length).length = a.length := mkT_len _ _ a j (Nat.le_refl _)
      simp only [l6_laws_markTermS_eq, hml, br_neg c0]
      rw [mkT_all _ _ _ _ (Nat.le_refl _), pfx_all cTm a (Nat.le_refl _), fTms_eq, cTms_eq]
theorem p_markTermS (nf : Nat) (hn : 30 < nf) (hm : nf ≤ 2147483647) (a : List Tm) (j : Int) (h' : cTms a < nf) : 0 ≤ j → j + (cTms a : Nat) ≤ 4611686018427387904 → m_laws_markTermS nf nf a j = some (fTms a j, j + (cTms a : Nat)) := g_markTermS nf hn hm nf a j h' h'
theorem g_heldTermS (nf : Nat) (hn : 30 < nf) (hm : nf ≤ 2147483647) : ∀ (kf : Nat) (a : List Tm) (j : Int), cTms a < kf → cTms a < nf → 0 ≤ j → j + (cTms a : Nat) ≤ 4611686018427387904 → fTms a j = a → m_laws_heldTermS nf kf a j = some (j + (cTms a : Nat))
  | 0, a, j, h, _ => absurd h (Nat.not_lt_zero _)
  | kf + 1, a, j, h, h' => by
    intro hq0 hq1 hm1
    have ih := g_heldTermS nf hn hm kf
    have hal : a.length ≤ cTms a := by rw [cTms_eq]; exact len_le_sum (fun x => by rw [cTm_f]; omega) a
    rw [fTms_eq] at hm1
    simp only [m_laws_heldTermS_eq, mark_eq]
    have key := for_loop (fun m i (s : Int) => l6_laws_heldTermS nf (kf + 1) m a s i) a.length (fun i => j + (pfx cTm a i : Nat)) (some (j + (cTms a : Nat))) (fun m i hi => ?_) (fun m => ?_) nf (by omega)
    · simpa only [pfx_zero, Int.natCast_zero, Int.add_zero, Int.cast_ofNat_Int] using key
    · have c0 : (i : Int) < (a.length : Int) := by omega
      have c1 : 0 ≤ (i : Int) ∧ (i : Int) < (a.length : Int) := by omega
      have hc1 := pfx_succ cTm a hi Tm.zero
      have hc2 : pfx cTm a (i + 1) ≤ cTms a := by rw [cTms_eq]; exact pfx_le cTm a (i + 1)
      have hel := heldL fTm cTm a j hi Tm.zero Tm.zero
      rw [hm1] at hel
      have hz : cTm (gt a (i : Int) Tm.zero) ≤ cTms a := by rw [cTms_eq]; exact sum_at cTm a hi _
      obtain ⟨y, hy⟩ : ∃ y : Tm, gt a (i : Int) Tm.zero = y := ⟨_, rfl⟩
      rw [hy] at hel hc1 hz
      obtain ⟨l0, l1, l2, ⟨l3, l4, l5⟩, l6, l7⟩ := y
      simp only [cTm, fTm, cTy, fTy, Tm.mk.injEq, Ty.mk.injEq] at hc1 hz hel
      simp only [Int.natCast_add, Int.cast_ofNat_Int, ← Int.add_assoc] at hel
      obtain ⟨e0, e1, e2, ⟨e3, e4, e5⟩, e6, e7⟩ := hel
      have w0 : w64 (j + (pfx cTm a i : Int) + 1) = j + (pfx cTm a i : Int) + 1 := w64_id (by omega) (by omega)
      have w1 : w64 (j + (pfx cTm a i : Int) + 1 + 1) = j + (pfx cTm a i : Int) + 1 + 1 := w64_id (by omega) (by omega)
      have t1 := p_markText nf (j + (pfx cTm a i : Int) + 1) hn (by omega)
      have w2 : w64 (j + (pfx cTm a i : Int) + 1 + 1 + 1) = j + (pfx cTm a i : Int) + 1 + 1 + 1 := w64_id (by omega) (by omega)
      have w3 : w64 (j + (pfx cTm a i : Int) + 1 + 1 + 1 + 1) = j + (pfx cTm a i : Int) + 1 + 1 + 1 + 1 := w64_id (by omega) (by omega)
      have hl4 := cSs_len l4
      have t4 := p_heldStringS nf hn hm l4 (j + (pfx cTm a i : Int) + 1 + 1 + 1 + 1) (by omega) (by omega) (by omega) e4.symm
      have n4 : ¬ j + (pfx cTm a i : Int) + 1 + 1 + 1 + 1 + (cSs l4 : Nat) < 0 := by omega
      have t5 := p_heldTypeS nf hn hm l5 (j + (pfx cTm a i : Int) + 1 + 1 + 1 + 1 + (cSs l4 : Nat)) (by omega) (by omega) (by omega) e5.symm
      have n5 : ¬ j + (pfx cTm a i : Int) + 1 + 1 + 1 + 1 + (cSs l4 : Nat) + (cTys l5 : Nat) < 0 := by omega
      have hl6 := cSs_len l6
      have t6 := p_heldStringS nf hn hm l6 (j + (pfx cTm a i : Int) + 1 + 1 + 1 + 1 + (cSs l4 : Nat) + (cTys l5 : Nat)) (by omega) (by omega) (by omega) e6.symm
      have n6 : ¬ j + (pfx cTm a i : Int) + 1 + 1 + 1 + 1 + (cSs l4 : Nat) + (cTys l5 : Nat) + (cSs l6 : Nat) < 0 := by omega
      have t7 := ih l7 (j + (pfx cTm a i : Int) + 1 + 1 + 1 + 1 + (cSs l4 : Nat) + (cTys l5 : Nat) + (cSs l6 : Nat)) (by omega) (by omega) (by omega) (by omega) e7.symm
      have n7 : ¬ j + (pfx cTm a i : Int) + 1 + 1 + 1 + 1 + (cSs l4 : Nat) + (cTys l5 : Nat) + (cSs l6 : Nat) + (cTms l7 : Nat) < 0 := by omega
      have hk : j + (pfx cTm a i : Int) + 1 + 1 + 1 + 1 + (cSs l4 : Nat) + (cTys l5 : Nat) + (cSs l6 : Nat) + (cTms l7 : Nat) = j + (pfx cTm a (i + 1) : Int) := by omega
      simp only [l6_laws_heldTermS_eq, br_pos c0, gg_pos c1, hy, cb_some, mark_eq, w64_nat (n := i) (by omega), w0, e0, w1, t1, e1, w2, e2, w3, e3, t4, br_neg n4, t5, br_neg n5, t6, br_neg n6, t7, br_neg n7, Tm.kind, Tm.name, Tm.n, Tm.type, Tm.labels, Tm.args, Ty.kind, Ty.labels, Ty.args, Comp.h_eq, FComp.h_eq, Head.h_eq, Plan.h_eq, Query.h_eq, TDecl.h_eq, Tm.h_eq, Ty.h_eq, Typing.h_eq, Val.h_eq, beq_self_eq_true, Bool.not_true, br_false, ← hk]
    · have c0 : ¬ (a.length : Int) < (a.length : Int) := by omega
      simp only [l6_laws_heldTermS_eq, br_neg c0]
      rw [pfx_all cTm a (Nat.le_refl _), cTms_eq]
theorem p_heldTermS (nf : Nat) (hn : 30 < nf) (hm : nf ≤ 2147483647) (a : List Tm) (j : Int) (h' : cTms a < nf) : 0 ≤ j → j + (cTms a : Nat) ≤ 4611686018427387904 → fTms a j = a → m_laws_heldTermS nf nf a j = some (j + (cTms a : Nat)) := g_heldTermS nf hn hm nf a j h' h'
theorem p_markGenS (nf : Nat) (hn : 30 < nf) (hm : nf ≤ 2147483647) (a : List Gen) (j : Int) (h' : cGens a < nf) : 0 ≤ j → j + (cGens a : Nat) ≤ 4611686018427387904 → m_laws_markGenS nf a j = some (fGens a j, j + (cGens a : Nat)) := by
  intro hq0 hq1
  have hal : a.length ≤ cGens a := by rw [cGens_eq]; exact len_le_sum (fun x => by rw [cGen_f]; omega) a
  simp only [m_laws_markGenS_eq, mark_eq]
  have h00 : a = mkT fGen cGen a j 0 := (mkT_zero fGen cGen a j).symm
  have key := for_loop (fun m i (s : List Gen × Int) => l6_laws_markGenS nf m s.2 i s.1) a.length (fun i => (mkT fGen cGen a j i, j + (pfx cGen a i : Nat))) (some (fGens a j, j + (cGens a : Nat))) (fun m i hi => ?_) (fun m => ?_) nf (by omega)
  · simpa only [mkT_zero, pfx_zero, Int.natCast_zero, Int.add_zero, Int.cast_ofNat_Int] using key
  · have c0 : (i : Int) < (a.length : Int) := by omega
    have c1 : 0 ≤ (i : Int) ∧ (i : Int) < (a.length : Int) := by omega
    have hc1 := pfx_succ cGen a hi Gen.zero
    have hc2 : pfx cGen a (i + 1) ≤ cGens a := by rw [cGens_eq]; exact pfx_le cGen a (i + 1)
    have hml : (mkT fGen cGen a j i).length = a.length := mkT_len _ _ a j (by omega)
    have hg : gt (mkT fGen cGen a j i) (i : Int) Gen.zero = gt a (i : Int) Gen.zero := mkT_gt fGen cGen a j hi Gen.zero
    have he := mkT_set fGen cGen a j hi Gen.zero _ rfl
    have hset : ∀ y : Gen, gt ((mkT fGen cGen a j i).set i y) (i : Int) Gen.zero = y := fun y => gt_set_self _ (by rw [hml]; exact hi) y _
    have hz : cGen (gt a (i : Int) Gen.zero) ≤ cGens a := by rw [cGens_eq]; exact sum_at cGen a hi _
    obtain ⟨y, hy⟩ : ∃ y : Gen, gt a (i : Int) Gen.zero = y := ⟨_, rfl⟩
    rw [hy] at hg hc1 he hz
    obtain ⟨l0, l1⟩ := y
    simp only [cGen, fGen] at hc1 hz he
    have w0 : w64 (j + (pfx cGen a i : Int) + 1) = j + (pfx cGen a i : Int) + 1 := w64_id (by omega) (by omega)
    have t0 := p_markText nf (j + (pfx cGen a i : Int)) hn (by omega)
    have w1 : w64 (j + (pfx cGen a i : Int) + 1 + 1) = j + (pfx cGen a i : Int) + 1 + 1 := w64_id (by omega) (by omega)
    have t1 := p_markText nf (j + (pfx cGen a i : Int) + 1) hn (by omega)
    have hk : j + (pfx cGen a i : Int) + 1 + 1 = j + (pfx cGen a (i + 1) : Int) := by omega
    have lset : ∀ y, ((mkT fGen cGen a j i).set i y).length = a.length := fun y => by rw [List.length_set, hml]
    simp only [l6_laws_markGenS_eq, j21_laws_markGenS_eq, hml, lset, br_pos c0, gg_pos c1, hg, hset, List.set_set, cb_some, mark_eq, w64_nat (n := i) (by omega), Int.toNat_natCast, w0, t0, w1, t1, Gen.var, Gen.table, Comp.h_eq, FComp.h_eq, Head.h_eq, Plan.h_eq, Query.h_eq, TDecl.h_eq, Tm.h_eq, Ty.h_eq, Typing.h_eq, Val.h_eq, ← hk]
    first | rw [he] | (rw [← he]; done) | skip
  · have c0 : ¬ (a.length : Int) < (a.length : Int) := by omega
    have hml : (mkT fGen cGen a j a.length).length = a.length := mkT_len _ _ a j (Nat.le_refl _)
    simp only [l6_laws_markGenS_eq, hml, br_neg c0]
    rw [mkT_all _ _ _ _ (Nat.le_refl _), pfx_all cGen a (Nat.le_refl _), fGens_eq, cGens_eq]
theorem g_markPlanS (nf : Nat) (hn : 30 < nf) (hm : nf ≤ 2147483647) : ∀ (kf : Nat) (a : List Plan) (j : Int), cPlans a < kf → cPlans a < nf → 0 ≤ j → j + (cPlans a : Nat) ≤ 4611686018427387904 → m_laws_markPlanS nf kf a j = some (fPlans a j, j + (cPlans a : Nat))
  | 0, a, j, h, _ => absurd h (Nat.not_lt_zero _)
  | kf + 1, a, j, h, h' => by
    intro hq0 hq1
    have ih := g_markPlanS nf hn hm kf
    have hal : a.length ≤ cPlans a := by rw [cPlans_eq]; exact len_le_sum (fun x => by rw [cPlan_f]; omega) a
    simp only [m_laws_markPlanS_eq, mark_eq]
    have h00 : a = mkT fPlan cPlan a j 0 := (mkT_zero fPlan cPlan a j).symm
    have key := for_loop (fun m i (s : List Plan × Int) => l6_laws_markPlanS nf (kf + 1) m s.2 i s.1) a.length (fun i => (mkT fPlan cPlan a j i, j + (pfx cPlan a i : Nat))) (some (fPlans a j, j + (cPlans a : Nat))) (fun m i hi => ?_) (fun m => ?_) nf (by omega)
    · simpa only [mkT_zero, pfx_zero, Int.natCast_zero, Int.add_zero, Int.cast_ofNat_Int] using key
    · have c0 : (i : Int) < (a.length : Int) := by omega
      have c1 : 0 ≤ (i : Int) ∧ (i : Int) < (a.length : Int) := by omega
      have hc1 := pfx_succ cPlan a hi Plan.zero
      have hc2 : pfx cPlan a (i + 1) ≤ cPlans a := by rw [cPlans_eq]; exact pfx_le cPlan a (i + 1)
      have hml : (mkT fPlan cPlan a j i).length = a.length := mkT_len _ _ a j (by omega)
      have hg : gt (mkT fPlan cPlan a j i) (i : Int) Plan.zero = gt a (i : Int) Plan.zero := mkT_gt fPlan cPlan a j hi Plan.zero
      have he := mkT_set fPlan cPlan a j hi Plan.zero _ rfl
      have hset : ∀ y : Plan, gt ((mkT fPlan cPlan a j i).set i y) (i : Int) Plan.zero = y := fun y => gt_set_self _ (by rw [hml]; exact hi) y _
      have hz : cPlan (gt a (i : Int) Plan.zero) ≤ cPlans a := by rw [cPlans_eq]; exact sum_at cPlan a hi _
      obtain ⟨y, hy⟩ : ∃ y : Plan, gt a (i : Int) Plan.zero = y := ⟨_, rfl⟩
      rw [hy] at hg hc1 he hz
      obtain ⟨l0, l1, l2, ⟨l3, l4, l5, ⟨l6, l7, l8⟩, l9, l10⟩, l11, l12⟩ := y
      simp only [cPlan, fPlan, cTm, fTm, cTy, fTy] at hc1 hz he
      simp only [Int.natCast_add, Int.cast_ofNat_Int, ← Int.add_assoc] at he
      have w0 : w64 (j + (pfx cPlan a i : Int) + 1) = j + (pfx cPlan a i : Int) + 1 := w64_id (by omega) (by omega)
      have w1 : w64 (j + (pfx cPlan a i : Int) + 1 + 1) = j + (pfx cPlan a i : Int) + 1 + 1 := w64_id (by omega) (by omega)
      have t1 := p_markText nf (j + (pfx cPlan a i : Int) + 1) hn (by omega)
      have w2 : w64 (j + (pfx cPlan a i : Int) + 1 + 1 + 1) = j + (pfx cPlan a i : Int) + 1 + 1 + 1 := w64_id (by omega) (by omega)
      have t2 := p_markText nf (j + (pfx cPlan a i : Int) + 1 + 1) hn (by omega)
      have w3 : w64 (j + (pfx cPlan a i : Int) + 1 + 1 + 1 + 1) = j + (pfx cPlan a i : Int) + 1 + 1 + 1 + 1 := w64_id (by omega) (by omega)
      have w4 : w64 (j + (pfx cPlan a i : Int) + 1 + 1 + 1 + 1 + 1) = j + (pfx cPlan a i : Int) + 1 + 1 + 1 + 1 + 1 := w64_id (by omega) (by omega)
      have t4 := p_markText nf (j + (pfx cPlan a i : Int) + 1 + 1 + 1 + 1) hn (by omega)
      have w5 : w64 (j + (pfx cPlan a i : Int) + 1 + 1 + 1 + 1 + 1 + 1) = j + (pfx cPlan a i : Int) + 1 + 1 + 1 + 1 + 1 + 1 := w64_id (by omega) (by omega)
      have w6 : w64 (j + (pfx cPlan a i : Int) + 1 + 1 + 1 + 1 + 1 + 1 + 1) = j + (pfx cPlan a i : Int) + 1 + 1 + 1 + 1 + 1 + 1 + 1 := w64_id (by omega) (by omega)
      have hl7 := cSs_len l7
      have t7 := p_markStringS nf hn hm l7 (j + (pfx cPlan a i : Int) + 1 + 1 + 1 + 1 + 1 + 1 + 1) (by omega) (by omega) (by omega)
      have t8 := p_markTypeS nf hn hm l8 (j + (pfx cPlan a i : Int) + 1 + 1 + 1 + 1 + 1 + 1 + 1 + (cSs l7 : Nat)) (by omega) (by omega) (by omega)
      have hl9 := cSs_len l9
      have t9 := p_markStringS nf hn hm l9 (j + (pfx cPlan a i : Int) + 1 + 1 + 1 + 1 + 1 + 1 + 1 + (cSs l7 : Nat) + (cTys l8 : Nat)) (by omega) (by omega) (by omega)
      have t10 := p_markTermS nf hn hm l10 (j + (pfx cPlan a i : Int) + 1 + 1 + 1 + 1 + 1 + 1 + 1 + (cSs l7 : Nat) + (cTys l8 : Nat) + (cSs l9 : Nat)) (by omega) (by omega) (by omega)
      have t11 := p_markTermS nf hn hm l11 (j + (pfx cPlan a i : Int) + 1 + 1 + 1 + 1 + 1 + 1 + 1 + (cSs l7 : Nat) + (cTys l8 : Nat) + (cSs l9 : Nat) + (cTms l10 : Nat)) (by omega) (by omega) (by omega)
      have t12 := ih l12 (j + (pfx cPlan a i : Int) + 1 + 1 + 1 + 1 + 1 + 1 + 1 + (cSs l7 : Nat) + (cTys l8 : Nat) + (cSs l9 : Nat) + (cTms l10 : Nat) + (cTms l11 : Nat)) (by omega) (by omega) (by omega) (by omega)
      have hk : j + (pfx cPlan a i : Int) + 1 + 1 + 1 + 1 + 1 + 1 + 1 + (cSs l7 : Nat) + (cTys l8 : Nat) + (cSs l9 : Nat) + (cTms l10 : Nat) + (cTms l11 : Nat) + (cPlans l12 : Nat) = j + (pfx cPlan a (i + 1) : Int) := by omega
      have lset : ∀ y, ((mkT fPlan cPlan a j i).set i y).length = a.length := fun y => by rw [List.length_set, hml]
      simp only [l6_laws_markPlanS_eq, j53_laws_markPlanS_eq, j51_laws_markPlanS_eq, j49_laws_markPlanS_eq, j47_laws_markPlanS_eq, j45_laws_markPlanS_eq, j41_laws_markPlanS_eq, j37_laws_markPlanS_eq, j33_laws_markPlanS_eq, j29_laws_markPlanS_eq, j25_laws_markPlanS_eq, j21_laws_markPlanS_eq, j17_laws_markPlanS_eq, j54_laws_markPlanS_eq, hml, lset, br_pos c0, gg_pos c1, hg, hset, List.set_set, cb_some, mark_eq, w64_nat (n := i) (by omega), Int.toNat_natCast, w0, w1, t1, w2, t2, w3, w4, t4, w5, w6, t7, t8, t9, t10, t11, t12, Plan.kind, Plan.var, Plan.table, Plan.cond, Plan.keys, Plan.args, Tm.kind, Tm.name, Tm.n, Tm.type, Tm.labels, Tm.args, Ty.kind, Ty.labels, Ty.args, Comp.h_eq, FComp.h_eq, Head.h_eq, Plan.h_eq, Query.h_eq, TDecl.h_eq, Tm.h_eq, Ty.h_eq, Typing.h_eq, Val.h_eq, ← hk]
      first | rw [he] | (rw [← he]; done) | skip
    · have c0 : ¬ (a.length : Int) < (a.length : Int) := by omega
      have hml : (mkT fPlan cPlan a j a.length).length = a.length := mkT_len _ _ a j (Nat.le_refl _)
      simp only [l6_laws_markPlanS_eq, hml, br_neg c0]
      rw [mkT_all _ _ _ _ (Nat.le_refl _), pfx_all cPlan a (Nat.le_refl _), fPlans_eq, cPlans_eq]
theorem p_markPlanS (nf : Nat) (hn : 30 < nf) (hm : nf ≤ 2147483647) (a : List Plan) (j : Int) (h' : cPlans a < nf) : 0 ≤ j → j + (cPlans a : Nat) ≤ 4611686018427387904 → m_laws_markPlanS nf nf a j = some (fPlans a j, j + (cPlans a : Nat)) := g_markPlanS nf hn hm nf a j h' h'
theorem g_heldPlanS (nf : Nat) (hn : 30 < nf) (hm : nf ≤ 2147483647) : ∀ (kf : Nat) (a : List Plan) (j : Int), cPlans a < kf → cPlans a < nf → 0 ≤ j → j + (cPlans a : Nat) ≤ 4611686018427387904 → fPlans a j = a → m_laws_heldPlanS nf kf a j = some (j + (cPlans a : Nat))
  | 0, a, j, h, _ => absurd h (Nat.not_lt_zero _)
  | kf + 1, a, j, h, h' => by
    intro hq0 hq1 hm1
    have ih := g_heldPlanS nf hn hm kf
    have hal : a.length ≤ cPlans a := by rw [cPlans_eq]; exact len_le_sum (fun x => by rw [cPlan_f]; omega) a
    rw [fPlans_eq] at hm1
    simp only [m_laws_heldPlanS_eq, mark_eq]
    have key := for_loop (fun m i (s : Int) => l6_laws_heldPlanS nf (kf + 1) m a s i) a.length (fun i => j + (pfx cPlan a i : Nat)) (some (j + (cPlans a : Nat))) (fun m i hi => ?_) (fun m => ?_) nf (by omega)
    · simpa only [pfx_zero, Int.natCast_zero, Int.add_zero, Int.cast_ofNat_Int] using key
    · have c0 : (i : Int) < (a.length : Int) := by omega
      have c1 : 0 ≤ (i : Int) ∧ (i : Int) < (a.length : Int) := by omega
      have hc1 := pfx_succ cPlan a hi Plan.zero
      have hc2 : pfx cPlan a (i + 1) ≤ cPlans a := by rw [cPlans_eq]; exact pfx_le cPlan a (i + 1)
      have hel := heldL fPlan cPlan a j hi Plan.zero Plan.zero
      rw [hm1] at hel
      have hz : cPlan (gt a (i : Int) Plan.zero) ≤ cPlans a := by rw [cPlans_eq]; exact sum_at cPlan a hi _
      obtain ⟨y, hy⟩ : ∃ y : Plan, gt a (i : Int) Plan.zero = y := ⟨_, rfl⟩
      rw [hy] at hel hc1 hz
      obtain ⟨l0, l1, l2, ⟨l3, l4, l5, ⟨l6, l7, l8⟩, l9, l10⟩, l11, l12⟩ := y
      simp only [cPlan, fPlan, cTm, fTm, cTy, fTy, Plan.mk.injEq, Tm.mk.injEq, Ty.mk.injEq] at hc1 hz hel
      simp only [Int.natCast_add, Int.cast_ofNat_Int, ← Int.add_assoc] at hel
      obtain ⟨e0, e1, e2, ⟨e3, e4, e5, ⟨e6, e7, e8⟩, e9, e10⟩, e11, e12⟩ := hel
      have w0 : w64 (j + (pfx cPlan a i : Int) + 1) = j + (pfx cPlan a i : Int) + 1 := w64_id (by omega) (by omega)
      have w1 : w64 (j + (pfx cPlan a i : Int) + 1 + 1) = j + (pfx cPlan a i : Int) + 1 + 1 := w64_id (by omega) (by omega)
      have t1 := p_markText nf (j + (pfx cPlan a i : Int) + 1) hn (by omega)
      have w2 : w64 (j + (pfx cPlan a i : Int) + 1 + 1 + 1) = j + (pfx cPlan a i : Int) + 1 + 1 + 1 := w64_id (by omega) (by omega)
      have t2 := p_markText nf (j + (pfx cPlan a i : Int) + 1 + 1) hn (by omega)
      have w3 : w64 (j + (pfx cPlan a i : Int) + 1 + 1 + 1 + 1) = j + (pfx cPlan a i : Int) + 1 + 1 + 1 + 1 := w64_id (by omega) (by omega)
      have w4 : w64 (j + (pfx cPlan a i : Int) + 1 + 1 + 1 + 1 + 1) = j + (pfx cPlan a i : Int) + 1 + 1 + 1 + 1 + 1 := w64_id (by omega) (by omega)
      have t4 := p_markText nf (j + (pfx cPlan a i : Int) + 1 + 1 + 1 + 1) hn (by omega)
      have w5 : w64 (j + (pfx cPlan a i : Int) + 1 + 1 + 1 + 1 + 1 + 1) = j + (pfx cPlan a i : Int) + 1 + 1 + 1 + 1 + 1 + 1 := w64_id (by omega) (by omega)
      have w6 : w64 (j + (pfx cPlan a i : Int) + 1 + 1 + 1 + 1 + 1 + 1 + 1) = j + (pfx cPlan a i : Int) + 1 + 1 + 1 + 1 + 1 + 1 + 1 := w64_id (by omega) (by omega)
      have hl7 := cSs_len l7
      have t7 := p_heldStringS nf hn hm l7 (j + (pfx cPlan a i : Int) + 1 + 1 + 1 + 1 + 1 + 1 + 1) (by omega) (by omega) (by omega) e7.symm
      have n7 : ¬ j + (pfx cPlan a i : Int) + 1 + 1 + 1 + 1 + 1 + 1 + 1 + (cSs l7 : Nat) < 0 := by omega
      have t8 := p_heldTypeS nf hn hm l8 (j + (pfx cPlan a i : Int) + 1 + 1 + 1 + 1 + 1 + 1 + 1 + (cSs l7 : Nat)) (by omega) (by omega) (by omega) e8.symm
      have n8 : ¬ j + (pfx cPlan a i : Int) + 1 + 1 + 1 + 1 + 1 + 1 + 1 + (cSs l7 : Nat) + (cTys l8 : Nat) < 0 := by omega
      have hl9 := cSs_len l9
      have t9 := p_heldStringS nf hn hm l9 (j + (pfx cPlan a i : Int) + 1 + 1 + 1 + 1 + 1 + 1 + 1 + (cSs l7 : Nat) + (cTys l8 : Nat)) (by omega) (by omega) (by omega) e9.symm
      have n9 : ¬ j + (pfx cPlan a i : Int) + 1 + 1 + 1 + 1 + 1 + 1 + 1 + (cSs l7 : Nat) + (cTys l8 : Nat) + (cSs l9 : Nat) < 0 := by omega
      have t10 := p_heldTermS nf hn hm l10 (j + (pfx cPlan a i : Int) + 1 + 1 + 1 + 1 + 1 + 1 + 1 + (cSs l7 : Nat) + (cTys l8 : Nat) + (cSs l9 : Nat)) (by omega) (by omega) (by omega) e10.symm
      have n10 : ¬ j + (pfx cPlan a i : Int) + 1 + 1 + 1 + 1 + 1 + 1 + 1 + (cSs l7 : Nat) + (cTys l8 : Nat) + (cSs l9 : Nat) + (cTms l10 : Nat) < 0 := by omega
      have t11 := p_heldTermS nf hn hm l11 (j + (pfx cPlan a i : Int) + 1 + 1 + 1 + 1 + 1 + 1 + 1 + (cSs l7 : Nat) + (cTys l8 : Nat) + (cSs l9 : Nat) + (cTms l10 : Nat)) (by omega) (by omega) (by omega) e11.symm
      have n11 : ¬ j + (pfx cPlan a i : Int) + 1 + 1 + 1 + 1 + 1 + 1 + 1 + (cSs l7 : Nat) + (cTys l8 : Nat) + (cSs l9 : Nat) + (cTms l10 : Nat) + (cTms l11 : Nat) < 0 := by omega
      have t12 := ih l12 (j + (pfx cPlan a i : Int) + 1 + 1 + 1 + 1 + 1 + 1 + 1 + (cSs l7 : Nat) + (cTys l8 : Nat) + (cSs l9 : Nat) + (cTms l10 : Nat) + (cTms l11 : Nat)) (by omega) (by omega) (by omega) (by omega) e12.symm
      have n12 : ¬ j + (pfx cPlan a i : Int) + 1 + 1 + 1 + 1 + 1 + 1 + 1 + (cSs l7 : Nat) + (cTys l8 : Nat) + (cSs l9 : Nat) + (cTms l10 : Nat) + (cTms l11 : Nat) + (cPlans l12 : Nat) < 0 := by omega
      have hk : j + (pfx cPlan a i : Int) + 1 + 1 + 1 + 1 + 1 + 1 + 1 + (cSs l7 : Nat) + (cTys l8 : Nat) + (cSs l9 : Nat) + (cTms l10 : Nat) + (cTms l11 : Nat) + (cPlans l12 : Nat) = j + (pfx cPlan a (i + 1) : Int) := by omega
      simp only [l6_laws_heldPlanS_eq, j78_laws_heldPlanS_eq, br_pos c0, gg_pos c1, hy, cb_some, mark_eq, w64_nat (n := i) (by omega), w0, e0, w1, t1, e1, w2, t2, e2, w3, e3, w4, t4, e4, w5, e5, w6, e6, t7, br_neg n7, t8, br_neg n8, t9, br_neg n9, t10, br_neg n10, t11, br_neg n11, t12, br_neg n12, Plan.kind, Plan.var, Plan.table, Plan.cond, Plan.keys, Plan.args, Tm.kind, Tm.name, Tm.n, Tm.type, Tm.labels, Tm.args, Ty.kind, Ty.labels, Ty.args, Comp.h_eq, FComp.h_eq, Head.h_eq, Plan.h_eq, Query.h_eq, TDecl.h_eq, Tm.h_eq, Ty.h_eq, Typing.h_eq, Val.h_eq, beq_self_eq_true, Bool.not_true, br_false, ← hk]
    · have c0 : ¬ (a.length : Int) < (a.length : Int) := by omega
      simp only [l6_laws_heldPlanS_eq, br_neg c0]
      rw [pfx_all cPlan a (Nat.le_refl _), cPlans_eq]
theorem p_heldPlanS (nf : Nat) (hn : 30 < nf) (hm : nf ≤ 2147483647) (a : List Plan) (j : Int) (h' : cPlans a < nf) : 0 ≤ j → j + (cPlans a : Nat) ≤ 4611686018427387904 → fPlans a j = a → m_laws_heldPlanS nf nf a j = some (j + (cPlans a : Nat)) := g_heldPlanS nf hn hm nf a j h' h'
end Go.Q
