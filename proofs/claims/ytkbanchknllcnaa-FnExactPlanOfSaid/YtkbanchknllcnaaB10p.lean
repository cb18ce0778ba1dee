/- Plans of comprehensions: what both sides give. -/
import Derived.Test.YtkbanchknllcnaaB7p
import Derived.Test.YtkbanchknllcnaaB10
import Derived.Test.YtkbanchknllcnaaA2m
set_option linter.unusedVariables false
set_option linter.unusedSimpArgs false
set_option linter.unusedVariables false
set_option linter.unusedSimpArgs false
set_option maxHeartbeats 1000000
namespace Go.Q
abbrev zeroT2 : Tm := Tm.mk 0 [] 0 (Ty.mk 0 [] []) [] []
def scanP (g : Gen) : Plan := Plan.mk 2 g.var g.table zeroT2 [] []
def prodP (o : Plan) (g : Gen) : Plan := Plan.mk 3 [] [] zeroT2 [] [o, scanP g]
def foldP : List Gen → Plan
  | [] => Plan.mk 1 [] [] zeroT2 [] []
  | g :: gs => gs.foldl prodP (scanP g)
def selP (p : Plan) (c : Tm) : Plan := if c.kind = 3 ∧ c.n = 1 then p else Plan.mk 4 [] [] c [] [p]
def planC (x : FComp) : Plan := selP (foldP x.gens) x.whr
theorem Tm.full2 (s : Tm) : Tm.mk s.kind s.name s.n (Ty.mk s.type.kind s.type.labels s.type.args) s.labels s.args = s := by
  rw [Ty.eta, Tm.eta]
theorem Plan.full2 (s : Plan) : Plan.mk s.kind s.var s.table (Tm.mk s.cond.kind s.cond.name s.cond.n (Ty.mk s.cond.type.kind s.cond.type.labels s.cond.type.args) s.cond.labels s.cond.args) s.keys s.args = s := by
  rw [Tm.full2, Plan.eta]
theorem fold_take2 {α β : Type} (f : β → α → β) (xs : List α) {i : Nat} (h : i < xs.length) (z : α) (o : β) : (xs.take (i + 1)).foldl f o = f ((xs.take i).foldl f o) (gt xs (i : Int) z) := by
  rw [← take_gt xs h z, List.foldl_append]; rfl
theorem foldP_0 (xs : List Gen) (h : 0 < xs.length) (z : Gen) : foldP (xs.take 1) = scanP (gt xs ((0 : Nat) : Int) z) := by
  cases xs with
  | nil => simp at h
  | cons g gs => simp [foldP]; rfl
theorem foldP_s (xs : List Gen) {i : Nat} (h : i + 1 < xs.length) (z : Gen) : foldP (xs.take (i + 1 + 1)) = prodP (foldP (xs.take (i + 1))) (gt xs ((i + 1 : Nat) : Int) z) := by
  cases xs with
  | nil => simp at h
  | cons g gs =>
    have e := fold_take2 prodP gs (i := i) (by simpa using h) z (scanP g)
    simp only [List.take_succ_cons, foldP]
    exact e
theorem fold_bare : ∀ (gs : List Gen) (o : Plan), Plan.mk o.kind o.var o.table zeroT2 [] o.args = o → (gs.foldl prodP o) = Plan.mk (gs.foldl prodP o).kind (gs.foldl prodP o).var (gs.foldl prodP o).table zeroT2 [] (gs.foldl prodP o).args
  | [], o, h => h.symm
  | g :: gs, o, h => fold_bare gs (prodP o g) rfl
theorem foldP_bare (gs : List Gen) : Plan.mk (foldP gs).kind (foldP gs).var (foldP gs).table zeroT2 [] (foldP gs).args = foldP gs := by
  cases gs with
  | nil => rfl
  | cons g gs => exact (fold_bare gs (scanP g) rfl).symm
theorem z0_2 : zTm zeroT2 = 0 := by
  simp [zTm_f, Tm.name, Tm.type, Tm.labels, Tm.args, zTy_f, Ty.labels, Ty.args, szL]
theorem scanP_z (g : Gen) : zPlan (scanP g) = zGen g := by
  rw [zPlan_f, zGen_f]
  simp [scanP, Plan.var, Plan.table, Plan.cond, Plan.keys, Plan.args, z0_2, szL]
theorem prodP_z (o : Plan) (g : Gen) : zPlan (prodP o g) = 2 + zPlan o + zGen g := by
  rw [zPlan_f]
  simp [prodP, Plan.var, Plan.table, Plan.cond, Plan.keys, Plan.args, z0_2, szL, scanP_z]
  omega
theorem foldl_z2 : ∀ (gs : List Gen) (o : Plan), zPlan (gs.foldl prodP o) ≤ zPlan o + 2 * szL zGen gs
  | [], o => by simp [szL]
  | x :: xs, o => by
    have h := foldl_z2 xs (prodP o x)
    rw [prodP_z] at h
    have : szL zGen (x :: xs) = 1 + zGen x + szL zGen xs := by simp [szL]; omega
    simp only [List.foldl_cons]
    omega
theorem foldP_z (gs : List Gen) : zPlan (foldP gs) ≤ 2 * szL zGen gs := by
  cases gs with
  | nil => simp [foldP, zPlan_f, Plan.var, Plan.table, Plan.cond, Plan.keys, Plan.args, z0_2, szL]
  | cons x xs =>
    have h := foldl_z2 xs (scanP x)
    rw [scanP_z] at h
    have : szL zGen (x :: xs) = 1 + zGen x + szL zGen xs := by simp [szL]; omega
    simp only [foldP]; omega
theorem planC_z (x : FComp) : zPlan (planC x) ≤ 1 + 2 * zFComp x := by
  have h := foldP_z x.gens
  rw [zFComp_f]
  unfold planC selP
  split
  · omega
  · rw [zPlan_f]
    simp [Plan.var, Plan.table, Plan.cond, Plan.keys, Plan.args, szL] at *
    omega
theorem p_cloneTerms (nf : Nat) (xs : List Tm) (h : 8 * szL zTm xs + 1 < nf) (hb : szL zTm xs ≤ 16777216) : m_impl_cloneTerms nf xs = some xs := by
  have hl : xs.length ≤ szL zTm xs := by unfold szL; omega
  rw [m_impl_cloneTerms_eq, mark_eq]
  refine for_loop (fun m i s => l8_impl_cloneTerms nf m xs i s) xs.length (fun i => xs.take i) (some xs) (fun m i hi => ?_) (fun m => ?_) nf (by omega)
  · have c0 : (i : Int) < (xs.length : Int) := by omega
    have c1 : 0 ≤ (i : Int) ∧ (i : Int) < (xs.length : Int) := by omega
    have hs := szL_at zTm xs hi Tm.zero
    have e := p_cloneTerm nf nf (gt xs (i : Int) Tm.zero) (by omega) (by omega) (by omega)
    have g : List.length (xs.take i) + List.length [gt xs (i : Int) Tm.zero] ≤ 33554432 := by rw [List.length_take]; simp only [List.length_cons, List.length_nil]; omega
    simp only [l8_impl_cloneTerms_eq, br_pos c0, gg_pos c1, Ty.h_eq, Tm.h_eq, Tm.eta, e, cb_some, gg_pos g, mark_eq, w64_nat (n := i) (by omega), take_gt xs hi Tm.zero]
  · have c0 : ¬ (xs.length : Int) < (xs.length : Int) := by omega
    simp only [l8_impl_cloneTerms_eq, br_neg c0, List.take_length]
theorem p_clonePlan (nf : Nat) : ∀ (kf : Nat) (t : Plan), 8 * zPlan t + 1 < kf → 8 * zPlan t + 1 < nf → zPlan t ≤ 16777216 → m_impl_clonePlan nf kf t = some t
  | 0, t, h, _, _ => absurd h (Nat.not_lt_zero _)
  | kf + 1, t, h, h', hb => by
    have hz := zPlan_f t
    have l2 : t.args.length ≤ szL zPlan t.args := by unfold szL; omega
    have e1 := p_cloneTerm nf nf t.cond (by omega) (by omega) (by omega)
    have e2 := p_cloneTerms nf t.keys (by omega) (by omega)
    rw [m_impl_clonePlan_eq]
    simp only [e1, e2, cb_some, Ty.h_eq, Tm.h_eq, Plan.h_eq, mark_eq]
    refine for_loop (fun m i s => l8_impl_clonePlan nf (kf + 1) m t t.cond t.keys i s) t.args.length (fun i => t.args.take i) (some t) (fun m i hi => ?_) (fun m => ?_) nf (by omega)
    · have c0 : (i : Int) < (t.args.length : Int) := by omega
      have c1 : 0 ≤ (i : Int) ∧ (i : Int) < (t.args.length : Int) := by omega
      have hs := szL_at zPlan t.args hi Plan.zero
      have e := p_clonePlan nf kf (gt t.args (i : Int) Plan.zero) (by omega) (by omega) (by omega)
      have g : List.length (t.args.take i) + List.length [gt t.args (i : Int) Plan.zero] ≤ 33554432 := by rw [List.length_take]; simp only [List.length_cons, List.length_nil]; omega
      simp only [l8_impl_clonePlan_eq, br_pos c0, gg_pos c1, Plan.h_eq, e, cb_some, gg_pos g, mark_eq, w64_nat (n := i) (by omega), take_gt t.args hi Plan.zero]
    · have c0 : ¬ (t.args.length : Int) < (t.args.length : Int) := by omega
      simp only [l8_impl_clonePlan_eq, br_neg c0, List.take_length, Tm.h_eq, Plan.eta]
theorem p_selected (nf : Nat) (p : Plan) (c : Tm) : m_impl_selected nf p c = some (selP p c) := by
  rw [m_impl_selected_eq, m_impl_isTrue_eq]
  unfold selP
  have b1 : (c.kind == (3 : Int)) = decide (c.kind = 3) := rfl
  have b2 : (c.n == (1 : Int)) = decide (c.n = 1) := rfl
  rw [Tm.h_eq, b1, b2]
  by_cases h : c.kind = 3 <;> by_cases h2 : c.n = 1 <;> simp [h, h2, br_true, br_false, cb_some, Tm.h_eq, Plan.h_eq]
theorem p_l25Select (nf : Nat) (p : Plan) (c : Tm) (h : 8 * zTm c + 1 < nf) (hb : zTm c ≤ 16777216) : m_spec_l25Select nf p c = some (selP p c) := by
  rw [m_spec_l25Select_eq, m_spec_l14Is_eq]
  have e := p_l7Copy nf nf c h h hb
  unfold selP
  have b1 : (c.kind == (3 : Int)) = decide (c.kind = 3) := rfl
  have b2 : (c.n == (1 : Int)) = decide (c.n = 1) := rfl
  rw [Tm.h_eq, b1, b2]
  by_cases h : c.kind = 3 <;> by_cases h2 : c.n = 1 <;> simp [h, h2, br_true, br_false, cb_some, Tm.h_eq, Plan.h_eq, e]
theorem p_planOf (nf : Nat) (x : FComp) (h : x.gens.length + 1 < nf) (hb : x.gens.length ≤ 16777216) : m_impl_planOf nf x = some (planC x) := by
  rw [m_impl_planOf_eq, mark_eq]
  refine for_loop (fun m i (s : Plan) => l8_impl_planOf nf m x i s.kind s.var s.table s.args) x.gens.length (fun i => foldP (x.gens.take i)) (some (planC x)) (fun m i hi => ?_) (fun m => ?_) nf (by omega)
  · have c0 : (i : Int) < (x.gens.length : Int) := by omega
    have c1 : 0 ≤ (i : Int) ∧ (i : Int) < (x.gens.length : Int) := by omega
    cases i with
    | zero =>
      have e := foldP_0 x.gens hi Gen.zero
      simp only [l8_impl_planOf_eq, br_pos c0, gg_pos c1, mark_eq, w64_nat (n := 0) (by omega), e]
      rfl
    | succ i =>
      have e := foldP_s x.gens hi Gen.zero
      have e0 : (((i + 1 : Nat) : Int) == (0 : Int)) = false := by simp; omega
      have eb := foldP_bare (x.gens.take (i + 1))
      simp only [zeroT2] at eb
      simp only [l8_impl_planOf_eq, br_pos c0, gg_pos c1, e0, br_false, mark_eq, w64_nat (n := i + 1) (by omega), e, eb]
      rfl
  · have c0 : ¬ (x.gens.length : Int) < (x.gens.length : Int) := by omega
    have eb := foldP_bare x.gens
    simp only [zeroT2] at eb
    simp only [l8_impl_planOf_eq, br_neg c0, List.take_length, mark_eq, j27_impl_planOf_eq, eb, p_selected, cb_some, Plan.h_eq, planC]
theorem p_impl_PlanOf (nf : Nat) (x : FComp) (h : 32 * zFComp x + 32 < nf) (hb : zFComp x ≤ 1048576) : m_impl_PlanOf nf x = some (planC x) := by
  have hz := planC_z x
  have hf := zFComp_f x
  have hl : x.gens.length ≤ szL zGen x.gens := by unfold szL; omega
  rw [m_impl_PlanOf_eq, p_planOf nf x (by omega) (by omega), cb_some, p_clonePlan nf nf _ (by omega) (by omega) (by omega), cb_some, Plan.h_eq]
theorem p_spec_PlanOf (nf : Nat) (x : FComp) (h : 32 * zFComp x + 32 < nf) (hb : zFComp x ≤ 1048576) : m_spec_PlanOf nf x = some (planC x) := by
  have hf := zFComp_f x
  have hl : x.gens.length ≤ szL zGen x.gens := by unfold szL; omega
  rw [m_spec_PlanOf_eq, mark_eq]
  refine for_loop (fun m i (s : Plan) => l8_spec_PlanOf nf m x i s.kind s.var s.table s.cond.kind s.cond.name s.cond.n s.cond.type.kind s.cond.type.labels s.cond.type.args s.cond.labels s.cond.args s.keys s.args) x.gens.length (fun i => foldP (x.gens.take i)) (some (planC x)) (fun m i hi => ?_) (fun m => ?_) nf (by omega)
  · have c0 : (i : Int) < (x.gens.length : Int) := by omega
    have c1 : 0 ≤ (i : Int) ∧ (i : Int) < (x.gens.length : Int) := by omega
    cases i with
    | zero =>
      have e := foldP_0 x.gens hi Gen.zero
      simp only [l8_spec_PlanOf_eq, decide_eq_true c0, br_true, gg_pos c1, m_spec_l25Scan_eq, cb_some, mark_eq, w64_nat (n := 0) (by omega), e]
      rfl
    | succ i =>
      have e := foldP_s x.gens hi Gen.zero
      have e0 : (((i + 1 : Nat) : Int) == (0 : Int)) = false := by simp; omega
      simp only [l8_spec_PlanOf_eq, decide_eq_true c0, br_true, gg_pos c1, e0, br_false, m_spec_l25Scan_eq, cb_some, Plan.full2, mark_eq, w64_nat (n := i + 1) (by omega), e]
      rfl
  · have c0 : ¬ (x.gens.length : Int) < (x.gens.length : Int) := by omega
    simp only [l8_spec_PlanOf_eq, br_neg c0, List.take_length, mark_eq, j23_spec_PlanOf_eq, Plan.full2, Tm.h_eq, p_l25Select nf _ x.whr (by omega) (by omega), cb_some, Plan.h_eq, planC]
end Go.Q
