/- How impl and spec count joins. -/
import Derived.Test.YtdjhnobhbnjihaaQd
import Derived.Test.YtdjhnobhbnjihaaProg
import Derived.KernelRfl
set_option linter.unusedVariables false
set_option linter.unusedSimpArgs false
namespace Go.Q
open Go.Proofs
set_option linter.unusedSimpArgs false
set_option linter.unusedVariables false
def ir93 : C := .sq (.rg [.mv 2 (.i 0)]) (.sq (.sq (.rg [.mv 3 (.t 0)]) (.cd (.t 3) (.sq (.rg [.mv 2 (.i 1)]) (.rt)) (.skip))) (.sq (.rg [.mv 2 (.i 0)]) (.rt)))
def ir40 : C := .sq (.rg [.bx 1 (.t 0) (kR 17), .mv 2 (.i 0)]) (.sq (.rg [.fa 5 (.t 1) 17 0 0, .ld 6 (.t 5) kI, .bi 7 .eql (.t 6) (.i 5), .cv (some 8) 93 [((.t 7), .v .bool)], .mv 3 (.t 8)]) (.sq (.sq (.rg [.mv 4 (.i 0)]) (.bk 0 (.lp (.sq (.sq (.rg [.mv 9 (.t 4), .fa 10 (.t 1) 17 5 12, .ld 11 (.t 10) (kL (kR 17)), .ln 12 false (.t 11), .bi 13 .lss (.t 9) (.t 12)]) (.cd (.t 13) (.skip) (.ex 0))) (.sq (.bk 1 (.rg [.mv 16 (.t 3), .fa 17 (.t 1) 17 5 12, .ld 18 (.t 17) (kL (kR 17)), .mv 19 (.t 4), .ia 20 (.t 18) (.t 19) (kR 17), .ld 21 (.t 20) (kR 17), .cv (some 22) 40 [((.t 21), .v (kR 17))], .bi 23 .add (.t 16) (.t 22), .mv 3 (.t 23)])) (.rg [.mv 14 (.t 4), .bi 15 .add (.t 14) (.i 1), .mv 4 (.t 15)])))))) (.sq (.rg [.mv 24 (.t 3), .mv 2 (.t 24)]) (.rt))))
def ir42 : C := .sq (.rg [.bx 1 (.t 0) (kR 17), .mv 2 (.i 0)]) (.sq (.rg [.mv 3 (.i 0)]) (.sq (.sq (.rg [.fa 6 (.t 1) 17 0 0, .ld 7 (.t 6) kI, .bi 8 .eql (.t 7) (.i 5)]) (.cd (.t 8) (.rg [.mv 3 (.i 1)]) (.skip))) (.sq (.sq (.rg [.fa 9 (.t 1) 17 5 12, .ld 10 (.t 9) (kL (kR 17)), .ln 11 false (.t 10), .mv 12 (.i 0)]) (.bk 0 (.lp (.sq (.rg [.bi 13 .lss (.t 12) (.t 11)]) (.sq (.cd (.t 13) (.skip) (.ex 0)) (.sq (.bk 1 (.sq (.rg [.ia 14 (.t 10) (.t 12) (kR 17), .ld 15 (.t 14) (kR 17), .al 5 (kR 17), .st (.t 5) (.t 15) (kR 17)]) (.rg [.mv 16 (.t 3), .ld 17 (.t 5) (kR 17), .cv (some 18) 42 [((.t 17), .v (kR 17))], .bi 19 .add (.t 16) (.t 18), .mv 3 (.t 19)]))) (.rg [.bi 20 .add (.t 12) (.i 1), .mv 12 (.t 20)]))))))) (.sq (.rg [.mv 21 (.t 3), .mv 2 (.t 21)]) (.rt)))))
mutual
def cnt : Plan → Nat
  | .mk k _ _ _ _ a => (if k = 5 then 1 else 0) + cnts a
def cnts : List Plan → Nat
  | [] => 0
  | x :: xs => cnt x + cnts xs
end
theorem cnts_eq : ∀ a : List Plan, cnts a = (a.map cnt).sum
  | [] => rfl
  | x :: xs => by rw [cnts, cnts_eq xs]; rfl
theorem cnt_f (p : Plan) : cnt p = (if p.kind = 5 then 1 else 0) + (p.args.map cnt).sum := by
  cases p; rw [cnt, cnts_eq]; rfl
mutual
theorem cnt_le : ∀ p : Plan, cnt p ≤ zPlan p + 1
  | .mk k v t c ks a => by
    have := cnts_le a
    simp only [cnt, zPlan]
    split <;> omega
theorem cnts_le : ∀ a : List Plan, cnts a ≤ zPlans a
  | [] => Nat.le_refl _
  | x :: xs => by
    have h1 := cnt_le x
    have h2 := cnts_le xs
    simp only [cnts, zPlans]
    omega
end
theorem cnt_bound (p : Plan) (h : zPlan p ≤ 1048576) : cnt p ≤ 1048577 := by have := cnt_le p; omega
def c93 : List SA → Option RA := con1 .bool fun (b : Bool) => .v kI (if b then 1 else 0)
theorem s93 (b : Bool) : Sp Try.prog 93 [.v .bool b] (.v kI (if b then 1 else 0)) := by
  refine Sp_intro [] trivial (N := 4) (vs := [.t 2 (.v kI)]) (c := ir93) Try.func93 (by kernel_rfl) rfl ?_
  unfold ir93
  cases b <;> simp only [go_sem]
def d40 (m : Nat) : List SA → Option RA := con1p (kR 17) (fun (p : Plan) => decide (zPlan p < m) && decide (zPlan p ≤ 1048576)) fun (p : Plan) => .v kI (cnt p : Nat)
theorem s40m : ∀ (m : Nat) (p : Plan), (decide (zPlan p < m) && decide (zPlan p ≤ 1048576)) = true → Sp Try.prog 40 [.v (kR 17) p] (.v kI (cnt p : Nat))
  | 0, p, h => by simp at h
  | m + 1, p, hn => by
    have ih := s40m m
    simp only [Bool.and_eq_true, decide_eq_true_eq] at hn
    refine Sp_intro [(40, d40 m), (93, c93)] ⟨con1p_ok ih, con1_ok s93, trivial⟩ (N := 25) (vs := [.t 2 (.v kI)]) (c := ir40) Try.func40 (by kernel_rfl) rfl ?_
    unfold ir40 c93
    simp only [go_sem]
    have hz := zPlan_f p
    have hb := cnt_f p
    have hle := cnt_bound p hn.2
    refine LP_intro (X := ⟨Try.prog, 25, [(40, d40 m), (93, c93)]⟩) ⟨con1p_ok ih, con1_ok s93, trivial⟩ [1, 2, 3, 4] [[1]] (fun i : Nat => ⟨[(1, .pt [1] 0), (2, .v kI 0), (3, .v kI ((if p.kind = 5 then 1 else 0 : Int) + (pfx cnt p.args i : Nat))), (4, .v kI (i : Int))], [([1], .box (lvs 17 p))]⟩) (fun i => i ≤ p.args.length) (fun i => p.args.length - i) ⟨0, Nat.zero_le _, ?_⟩ (fun i hi => ?_)
    · simp only [go_sem, pfx_zero, Int.natCast_zero, Int.add_zero]
    simp only [go_sem, d40]
    intro _
    obtain ⟨q, hq⟩ : ∃ q : Nat, q = (if p.kind = 5 then 1 else 0) := ⟨_, rfl⟩
    have hk : (if p.kind = 5 then 1 else 0 : Int) = (q : Int) := by rw [hq]; split <;> rfl
    rw [← hq] at hb
    simp only [hk]
    refine ⟨fun hlt => ?_, fun hge => ?_⟩
    · have h1 := pfx_succ cnt p.args hlt (Ki.z (kR 17))
      have h2 := pfx_le cnt p.args (i + 1)
      have h3 := szL_at zPlan p.args hlt (Ki.z (kR 17))
      refine ⟨hlt, by omega, i + 1, hlt, by dsimp only; omega, ?_⟩
      have e : (q : Int) + (pfx cnt p.args i : Nat) + ((cnt (gt p.args (i : Int) (Ki.z (kR 17))) : Nat) : Int) = (q : Int) + (pfx cnt p.args (i + 1) : Nat) := by omega
      simp only [go_sem, hk]
      rw [wrap_nat (by omega), wrap_id (by omega) (by omega), e]
    · have := pfx_all cnt p.args (i := i) (by omega)
      show @Eq Int _ _
      omega
def d42 (m : Nat) : List SA → Option RA := con1p (kR 17) (fun (p : Plan) => decide (zPlan p < m) && decide (zPlan p ≤ 1048576)) fun (p : Plan) => .v kI (cnt p : Nat)
theorem s42m : ∀ (m : Nat) (p : Plan), (decide (zPlan p < m) && decide (zPlan p ≤ 1048576)) = true → Sp Try.prog 42 [.v (kR 17) p] (.v kI (cnt p : Nat))
  | 0, p, h => by simp at h
  | m + 1, p, hn => by
    have ih := s42m m
    simp only [Bool.and_eq_true, decide_eq_true_eq] at hn
    refine Sp_intro [(42, d42 m)] ⟨con1p_ok ih, trivial⟩ (N := 22) (vs := [.t 2 (.v kI)]) (c := ir42) Try.func42 (by kernel_rfl) rfl ?_
    unfold ir42
    simp only [go_sem]
    have hz := zPlan_f p
    have hb := cnt_f p
    have hle := cnt_bound p hn.2
    refine ⟨fun hk _ => ?_, fun hk _ => ?_⟩
    · rw [if_pos hk] at hb
      refine LP_intro (X := ⟨Try.prog, 22, [(42, d42 m)]⟩) ⟨con1p_ok ih, trivial⟩ [2, 3, 10, 11, 12] [] (fun i : Nat => ⟨[(2, .v kI 0), (3, .v kI ((1 : Int) + (pfx cnt p.args i : Nat))), (10, .v (kL (kR 17)) p.args), (11, .v kI (p.args.length : Int)), (12, .v kI (i : Int))], []⟩) (fun i => i ≤ p.args.length) (fun i => p.args.length - i) ⟨0, Nat.zero_le _, ?_⟩ (fun i hi => ?_)
      · simp only [go_sem, pfx_zero, Int.natCast_zero, Int.add_zero]
      simp only [go_sem, d42]
      refine ⟨fun hlt => ?_, fun hge => ?_⟩
      · have h1 := pfx_succ cnt p.args hlt (Ki.z (kR 17))
        have h2 := pfx_le cnt p.args (i + 1)
        have h3 := szL_at zPlan p.args hlt (Ki.z (kR 17))
        refine ⟨hlt, by omega, i + 1, hlt, by dsimp only; omega, ?_⟩
        have e : (1 : Int) + (pfx cnt p.args i : Nat) + ((cnt (gt p.args (i : Int) (Ki.z (kR 17))) : Nat) : Int) = (1 : Int) + (pfx cnt p.args (i + 1) : Nat) := by omega
        simp only [go_sem]
        rw [wrap_nat (by omega), wrap_id (by omega) (by omega), e]
      · have := pfx_all cnt p.args (i := i) (by omega)
        show @Eq Int _ _
        omega
    · rw [if_neg hk] at hb
      refine LP_intro (X := ⟨Try.prog, 22, [(42, d42 m)]⟩) ⟨con1p_ok ih, trivial⟩ [2, 3, 10, 11, 12] [] (fun i : Nat => ⟨[(2, .v kI 0), (3, .v kI ((0 : Int) + (pfx cnt p.args i : Nat))), (10, .v (kL (kR 17)) p.args), (11, .v kI (p.args.length : Int)), (12, .v kI (i : Int))], []⟩) (fun i => i ≤ p.args.length) (fun i => p.args.length - i) ⟨0, Nat.zero_le _, ?_⟩ (fun i hi => ?_)
      · simp only [go_sem, pfx_zero, Int.natCast_zero, Int.add_zero]
      simp only [go_sem, d42]
      refine ⟨fun hlt => ?_, fun hge => ?_⟩
      · have h1 := pfx_succ cnt p.args hlt (Ki.z (kR 17))
        have h2 := pfx_le cnt p.args (i + 1)
        have h3 := szL_at zPlan p.args hlt (Ki.z (kR 17))
        refine ⟨hlt, by omega, i + 1, hlt, by dsimp only; omega, ?_⟩
        have e : (0 : Int) + (pfx cnt p.args i : Nat) + ((cnt (gt p.args (i : Int) (Ki.z (kR 17))) : Nat) : Int) = (0 : Int) + (pfx cnt p.args (i + 1) : Nat) := by omega
        simp only [go_sem]
        rw [wrap_nat (by omega), wrap_id (by omega) (by omega), e]
      · have := pfx_all cnt p.args (i := i) (by omega)
        show @Eq Int _ _
        omega
def c42 : List SA → Option RA := con1p (kR 17) (fun (p : Plan) => decide (zPlan p ≤ 1048576)) fun (p : Plan) => .v kI (cnt p : Nat)
theorem s42 (p : Plan) (h : decide (zPlan p ≤ 1048576) = true) : Sp Try.prog 42 [.v (kR 17) p] (.v kI (cnt p : Nat)) := s42m (zPlan p + 1) p (by simp only [Bool.and_eq_true, decide_eq_true_eq] at h ⊢; omega)
def c40 : List SA → Option RA := con1p (kR 17) (fun (p : Plan) => decide (zPlan p ≤ 1048576)) fun (p : Plan) => .v kI (cnt p : Nat)
theorem s40 (p : Plan) (h : decide (zPlan p ≤ 1048576) = true) : Sp Try.prog 40 [.v (kR 17) p] (.v kI (cnt p : Nat)) := s40m (zPlan p + 1) p (by simp only [Bool.and_eq_true, decide_eq_true_eq] at h ⊢; omega)
end Go.Q
