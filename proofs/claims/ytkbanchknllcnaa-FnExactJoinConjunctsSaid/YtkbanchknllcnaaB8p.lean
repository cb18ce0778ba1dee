/- Conditions joined: what both sides give. -/
import Derived.Test.YtkbanchknllcnaaB7p
import Derived.Test.YtkbanchknllcnaaB8
import Derived.Test.YtkbanchknllcnaaA2m
set_option linter.unusedVariables false
set_option linter.unusedSimpArgs false
set_option linter.unusedVariables false
set_option linter.unusedSimpArgs false
set_option maxHeartbeats 1000000
namespace Go.Q
def andT (o e : Tm) : Tm := Tm.mk 4 [38] 0 (Ty.mk 0 [] []) [] [o, e]
def trueT : Tm := Tm.mk 3 [] 1 (Ty.mk 0 [] []) [] []
def joinC : List Tm → Tm
  | [] => trueT
  | x :: xs => xs.foldl andT x
theorem Tm.full (s : Tm) : Tm.mk s.kind s.name s.n (Ty.mk s.type.kind s.type.labels s.type.args) s.labels s.args = s := by
  rw [Ty.eta, Tm.eta]
theorem andT_z (o e : Tm) : zTm (andT o e) = 3 + zTm o + zTm e := by
  rw [zTm_f]
  simp [andT, Tm.name, Tm.type, Tm.labels, Tm.args, zTy_f, Ty.labels, Ty.args, szL]
  omega
theorem fold_z : ∀ (xs : List Tm) (o : Tm), zTm (xs.foldl andT o) ≤ zTm o + 4 * szL zTm xs
  | [], o => by simp [szL]
  | x :: xs, o => by
    have h := fold_z xs (andT o x)
    rw [andT_z] at h
    have : szL zTm (x :: xs) = 1 + zTm x + szL zTm xs := by simp [szL]; omega
    simp only [List.foldl_cons]
    omega
theorem joinC_z (xs : List Tm) : zTm (joinC xs) ≤ 4 * szL zTm xs := by
  cases xs with
  | nil => simp [joinC, trueT, zTm_f, Tm.name, Tm.type, Tm.labels, Tm.args, zTy_f, Ty.labels, Ty.args, szL]
  | cons x xs =>
    have h := fold_z xs x
    have : szL zTm (x :: xs) = 1 + zTm x + szL zTm xs := by simp [szL]; omega
    simp only [joinC]; omega
theorem fold_take {β : Type} (f : β → Tm → β) (xs : List Tm) {i : Nat} (h : i < xs.length) (z : Tm) (o : β) : f ((xs.take i).foldl f o) (gt xs (i : Int) z) = (xs.take (i + 1)).foldl f o := by
  rw [← take_gt xs h z, List.foldl_append]; rfl
theorem p_joined (nf : Nat) (xs : List Tm) (h : xs.length + 1 < nf) (hb : xs.length ≤ 16777216) : m_impl_joined nf xs = some (joinC xs) := by
  rw [m_impl_joined_eq]
  cases xs with
  | nil => simp [br_true, m_impl_truth_eq, cb_some, joinC, trueT]
  | cons x xs =>
    have e0 : ((List.length (x :: xs) : Int) == (0 : Int)) = false := by simp; omega
    have hd : List.drop (Int.toNat (1 : Int)) (List.take (Int.toNat (List.length (x :: xs) : Int)) (x :: xs)) = xs := by simp
    have hx : gt (x :: xs) (0 : Int) Tm.zero = x := rfl
    simp only [List.length_cons] at h hb
    rw [e0, br_false, gg_pos (by simp only [List.length_cons]; omega), gg_pos (by simp only [List.length_cons]; omega), mark_eq, hx]
    refine for_loop (fun m i (s : Tm) => l16_impl_joined nf m (x :: xs) i s.kind s.name s.n s.type.kind s.type.labels s.type.args s.labels s.args) xs.length (fun i => (xs.take i).foldl andT x) (some (joinC (x :: xs))) (fun m i hi => ?_) (fun m => ?_) nf (by omega)
    · have c0 : (i : Int) < (xs.length : Int) := by omega
      have c1 : 0 ≤ (i : Int) ∧ (i : Int) < (xs.length : Int) := by omega
      have hs := fold_take andT xs hi Tm.zero x
      simp only [l16_impl_joined_eq, hd, br_pos c0, gg_pos c1, m_impl_opTerm_eq, cb_some, Tm.full, Ty.h_eq, Tm.h_eq, Tm.eta, mark_eq, w64_nat (n := i) (by omega)]
      rw [← hs]
      rfl
    · have c0 : ¬ (xs.length : Int) < (xs.length : Int) := by omega
      simp only [l16_impl_joined_eq, hd, br_neg c0, Tm.full, List.take_length, joinC]
theorem p_impl_JoinConjuncts (nf : Nat) (xs : List Tm) (h : 32 * szL zTm xs + 1 < nf) (hb : 4 * szL zTm xs ≤ 16777216) : m_impl_JoinConjuncts nf xs = some (joinC xs) := by
  have hl : xs.length ≤ szL zTm xs := by unfold szL; omega
  have hz := joinC_z xs
  by_cases h0 : xs = []
  · subst h0
    rw [m_impl_JoinConjuncts_eq, p_joined nf [] (by simp; omega) (by simp), cb_some, p_cloneTerm nf nf _ (by simp [szL] at hz; omega) (by simp [szL] at hz; omega) (by omega), cb_some, Tm.h_eq]
  · have : 1 ≤ xs.length := by cases xs <;> simp_all
    rw [m_impl_JoinConjuncts_eq, p_joined nf xs (by omega) (by omega), cb_some, p_cloneTerm nf nf _ (by omega) (by omega) (by omega), cb_some, Tm.h_eq]
theorem p_spec_JoinConjuncts (nf : Nat) (xs : List Tm) (h : 32 * szL zTm xs + 1 < nf) (hb : 4 * szL zTm xs ≤ 16777216) : m_spec_JoinConjuncts nf xs = some (joinC xs) := by
  have hl : xs.length ≤ szL zTm xs := by unfold szL; omega
  rw [m_spec_JoinConjuncts_eq]
  cases hxs : xs with
  | nil => simp [br_true, m_spec_l7True_eq, cb_some, joinC, trueT]
  | cons x ys =>
    have e0 : ((List.length (x :: ys) : Int) == (0 : Int)) = false := by simp; omega
    have hx : gt (x :: ys) (0 : Int) Tm.zero = x := rfl
    subst hxs
    have hz : ∀ i, i < (x :: ys).length → 1 + zTm (gt (x :: ys) (i : Int) Tm.zero) ≤ szL zTm (x :: ys) := fun i hi => szL_at zTm (x :: ys) hi Tm.zero
    have hz0 := hz 0 (by simp)
    rw [show ((0 : Nat) : Int) = 0 from rfl, hx] at hz0
    simp only [List.length_cons] at hl
    rw [e0, br_false, gg_pos (by simp only [List.length_cons]; omega), hx, p_l7Copy nf nf x (by omega) (by omega) (by omega), cb_some, mark_eq]
    have key := for_from (fun m i (s : Tm) => l16_spec_JoinConjuncts nf m (x :: ys) i s.kind s.name s.n s.type.kind s.type.labels s.type.args s.labels s.args) 1 (ys.length + 1) (fun i => (ys.take (i - 1)).foldl andT x) (some (joinC (x :: ys))) (by omega) (fun m i hi1 hi => ?_) (fun m => ?_) nf (by omega)
    · simpa using key
    · obtain ⟨i, rfl⟩ : ∃ k, i = k + 1 := ⟨i - 1, by omega⟩
      have c0 : ((i + 1 : Nat) : Int) < ((x :: ys).length : Int) := by simp only [List.length_cons]; omega
      have c1 : 0 ≤ ((i + 1 : Nat) : Int) ∧ ((i + 1 : Nat) : Int) < ((x :: ys).length : Int) := by simp only [List.length_cons]; omega
      have hg : gt (x :: ys) ((i + 1 : Nat) : Int) Tm.zero = gt ys (i : Int) Tm.zero := rfl
      have hz1 := hz (i + 1) (by simp only [List.length_cons]; omega)
      rw [hg] at hz1
      have hs := fold_take andT ys (i := i) (by omega) Tm.zero x
      have e := p_l7Copy nf nf (gt ys (i : Int) Tm.zero) (by omega) (by omega) (by omega)
      have i1 : i + 1 - 1 = i := by omega
      have i2 : i + 1 + 1 - 1 = i + 1 := by omega
      simp only [l16_spec_JoinConjuncts_eq, br_pos c0, gg_pos c1, hg, e, m_spec_l7Op_eq, cb_some, Tm.full, Ty.h_eq, Tm.h_eq, Tm.eta, mark_eq, w64_nat (n := i + 1) (by omega), i1, i2]
      rw [← hs]
      rfl
    · have c0 : ¬ ((ys.length + 1 : Nat) : Int) < ((x :: ys).length : Int) := by simp only [List.length_cons]; omega
      have i1 : ys.length + 1 - 1 = ys.length := by omega
      simp only [l16_spec_JoinConjuncts_eq, br_neg c0, Tm.full, i1, List.take_length, joinC]
end Go.Q
