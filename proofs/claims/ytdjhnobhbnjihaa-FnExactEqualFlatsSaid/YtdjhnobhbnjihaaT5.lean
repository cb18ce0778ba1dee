/- Equal types, terms and plans. -/
import Derived.Test.YtdjhnobhbnjihaaT4
import Derived.Test.YtdjhnobhbnjihaaProg
import Derived.KernelRfl
set_option linter.unusedVariables false
set_option linter.unusedSimpArgs false
namespace Go.Q
open Go.Proofs
set_option linter.unusedSimpArgs false
set_option linter.unusedVariables false
def ir138 : C := .sq (.rg [.bx 2 (.t 0) (kR 0), .bx 3 (.t 1) (kR 0), .mv 4 (.b false)]) (.sq (.rg [.fa 5 (.t 2) 0 0 0, .ld 6 (.t 5) kI, .fa 7 (.t 3) 0 0 0, .ld 8 (.t 7) kI, .bi 9 .eql (.t 6) (.t 8), .mv 10 (.t 9), .g 10 true (.fa 11 (.t 2) 0 1 1), .g 10 true (.ld 12 (.t 11) (kL kS)), .g 10 true (.fa 13 (.t 3) 0 1 1), .g 10 true (.ld 14 (.t 13) (kL kS)), .g 10 true (.cv (some 15) 67 [((.t 12), .v (kL kS)), ((.t 14), .v (kL kS))]), .pk 16 (.t 10) (.t 15) (.b false), .mv 17 (.t 16), .g 17 true (.fa 18 (.t 2) 0 2 2), .g 17 true (.ld 19 (.t 18) (kL (kR 0))), .g 17 true (.fa 20 (.t 3) 0 2 2), .g 17 true (.ld 21 (.t 20) (kL (kR 0))), .g 17 true (.cv (some 22) 161 [((.t 19), .v (kL (kR 0))), ((.t 21), .v (kL (kR 0))), ((.f 138), .fn)]), .pk 23 (.t 17) (.t 22) (.b false), .mv 4 (.t 23)]) (.rt))
def ir161 : C := .sq (.rg [.mv 6 (.b false)]) (.sq (.sq (.rg [.mv 10 (.t 0), .ln 11 false (.t 10), .mv 12 (.t 1), .ln 13 false (.t 12), .bi 14 .neq (.t 11) (.t 13)]) (.cd (.t 14) (.sq (.rg [.mv 6 (.b false)]) (.rt)) (.skip))) (.sq (.sq (.rg [.mv 15 (.t 0), .ln 16 false (.t 15), .mv 17 (.i 0)]) (.bk 0 (.lp (.sq (.rg [.bi 18 .lss (.t 17) (.t 16)]) (.sq (.cd (.t 18) (.skip) (.ex 0)) (.sq (.bk 1 (.sq (.rg [.mv 19 (.t 17), .ia 20 (.t 15) (.t 17) (kR 0), .ld 21 (.t 20) (kR 0), .al 8 (kR 0), .mv 7 (.t 19), .st (.t 8) (.t 21) (kR 0)]) (.sq (.rg [.mv 22 (.t 1), .mv 23 (.t 7), .ia 24 (.t 22) (.t 23) (kR 0), .ld 25 (.t 24) (kR 0), .al 9 (kR 0), .st (.t 9) (.t 25) (kR 0)]) (.sq (.rg [.mv 26 (.t 2), .ld 27 (.t 8) (kR 0), .ld 28 (.t 9) (kR 0), .cf (some 29) (.t 26) [((.t 27), .v (kR 0)), ((.t 28), .v (kR 0))], .un 30 .not (.t 29)]) (.cd (.t 30) (.sq (.rg [.mv 6 (.b false)]) (.rt)) (.skip)))))) (.rg [.bi 31 .add (.t 17) (.i 1), .mv 17 (.t 31)]))))))) (.sq (.rg [.mv 6 (.b true)]) (.rt))))
def ir101 : C := .sq (.rg [.bx 2 (.t 0) (kR 2), .bx 3 (.t 1) (kR 2), .mv 4 (.b false)]) (.sq (.rg [.fa 5 (.t 2) 2 0 0, .ld 6 (.t 5) kI, .fa 7 (.t 3) 2 0 0, .ld 8 (.t 7) kI, .bi 9 .eql (.t 6) (.t 8), .mv 10 (.t 9), .g 10 true (.fa 11 (.t 2) 2 1 1), .g 10 true (.ld 12 (.t 11) kS), .g 10 true (.fa 13 (.t 3) 2 1 1), .g 10 true (.ld 14 (.t 13) kS), .g 10 true (.bi 15 .eql (.t 12) (.t 14)), .pk 16 (.t 10) (.t 15) (.b false), .mv 17 (.t 16), .g 17 true (.fa 18 (.t 2) 2 2 2), .g 17 true (.ld 19 (.t 18) kI), .g 17 true (.fa 20 (.t 3) 2 2 2), .g 17 true (.ld 21 (.t 20) kI), .g 17 true (.bi 22 .eql (.t 19) (.t 21)), .pk 23 (.t 17) (.t 22) (.b false), .mv 24 (.t 23), .g 24 true (.fa 25 (.t 2) 2 3 3), .g 24 true (.ld 26 (.t 25) (kR 0)), .g 24 true (.fa 27 (.t 3) 2 3 3), .g 24 true (.ld 28 (.t 27) (kR 0)), .g 24 true (.cv (some 29) 138 [((.t 26), .v (kR 0)), ((.t 28), .v (kR 0))]), .pk 30 (.t 24) (.t 29) (.b false), .mv 31 (.t 30), .g 31 true (.fa 32 (.t 2) 2 4 6), .g 31 true (.ld 33 (.t 32) (kL kS)), .g 31 true (.fa 34 (.t 3) 2 4 6), .g 31 true (.ld 35 (.t 34) (kL kS)), .g 31 true (.cv (some 36) 67 [((.t 33), .v (kL kS)), ((.t 35), .v (kL kS))]), .pk 37 (.t 31) (.t 36) (.b false), .mv 38 (.t 37), .g 38 true (.fa 39 (.t 2) 2 5 7), .g 38 true (.ld 40 (.t 39) (kL (kR 2))), .g 38 true (.fa 41 (.t 3) 2 5 7), .g 38 true (.ld 42 (.t 41) (kL (kR 2))), .g 38 true (.cv (some 43) 102 [((.t 40), .v (kL (kR 2))), ((.t 42), .v (kL (kR 2))), ((.f 101), .fn)]), .pk 44 (.t 38) (.t 43) (.b false), .mv 4 (.t 44)]) (.rt))
def ir102 : C := .sq (.rg [.mv 6 (.b false)]) (.sq (.sq (.rg [.mv 10 (.t 0), .ln 11 false (.t 10), .mv 12 (.t 1), .ln 13 false (.t 12), .bi 14 .neq (.t 11) (.t 13)]) (.cd (.t 14) (.sq (.rg [.mv 6 (.b false)]) (.rt)) (.skip))) (.sq (.sq (.rg [.mv 15 (.t 0), .ln 16 false (.t 15), .mv 17 (.i 0)]) (.bk 0 (.lp (.sq (.rg [.bi 18 .lss (.t 17) (.t 16)]) (.sq (.cd (.t 18) (.skip) (.ex 0)) (.sq (.bk 1 (.sq (.rg [.mv 19 (.t 17), .ia 20 (.t 15) (.t 17) (kR 2), .ld 21 (.t 20) (kR 2), .al 8 (kR 2), .mv 7 (.t 19), .st (.t 8) (.t 21) (kR 2)]) (.sq (.rg [.mv 22 (.t 1), .mv 23 (.t 7), .ia 24 (.t 22) (.t 23) (kR 2), .ld 25 (.t 24) (kR 2), .al 9 (kR 2), .st (.t 9) (.t 25) (kR 2)]) (.sq (.rg [.mv 26 (.t 2), .ld 27 (.t 8) (kR 2), .ld 28 (.t 9) (kR 2), .cf (some 29) (.t 26) [((.t 27), .v (kR 2)), ((.t 28), .v (kR 2))], .un 30 .not (.t 29)]) (.cd (.t 30) (.sq (.rg [.mv 6 (.b false)]) (.rt)) (.skip)))))) (.rg [.bi 31 .add (.t 17) (.i 1), .mv 17 (.t 31)]))))))) (.sq (.rg [.mv 6 (.b true)]) (.rt))))
def ir137 : C := .sq (.rg [.bx 2 (.t 0) (kR 0), .bx 3 (.t 1) (kR 0), .mv 4 (.b false)]) (.sq (.sq (.rg [.fa 6 (.t 2) 0 0 0, .ld 7 (.t 6) kI, .fa 8 (.t 3) 0 0 0, .ld 9 (.t 8) kI, .bi 10 .neq (.t 7) (.t 9), .mv 11 (.t 10), .g 11 false (.fa 12 (.t 2) 0 1 1), .g 11 false (.ld 13 (.t 12) (kL kS)), .g 11 false (.fa 14 (.t 3) 0 1 1), .g 11 false (.ld 15 (.t 14) (kL kS)), .g 11 false (.cv (some 16) 66 [((.t 13), .v (kL kS)), ((.t 15), .v (kL kS))]), .g 11 false (.un 17 .not (.t 16)), .pk 18 (.t 11) (.b true) (.t 17), .mv 19 (.t 18), .g 19 false (.fa 20 (.t 2) 0 2 2), .g 19 false (.ld 21 (.t 20) (kL (kR 0))), .g 19 false (.ln 22 false (.t 21)), .g 19 false (.fa 23 (.t 3) 0 2 2), .g 19 false (.ld 24 (.t 23) (kL (kR 0))), .g 19 false (.ln 25 false (.t 24)), .g 19 false (.bi 26 .neq (.t 22) (.t 25)), .pk 27 (.t 19) (.b true) (.t 26)]) (.cd (.t 27) (.sq (.rg [.mv 4 (.b false)]) (.rt)) (.skip))) (.sq (.sq (.rg [.mv 5 (.i 0)]) (.bk 0 (.lp (.sq (.sq (.rg [.mv 28 (.t 5), .fa 29 (.t 2) 0 2 2, .ld 30 (.t 29) (kL (kR 0)), .ln 31 false (.t 30), .bi 32 .lss (.t 28) (.t 31)]) (.cd (.t 32) (.skip) (.ex 0))) (.sq (.bk 1 (.sq (.dr [] [.fa 35 (.t 2) 0 2 2, .ld 36 (.t 35) (kL (kR 0)), .mv 37 (.t 5), .ia 38 (.t 36) (.t 37) (kR 0), .ld 39 (.t 38) (kR 0), .fa 40 (.t 3) 0 2 2, .ld 41 (.t 40) (kL (kR 0)), .mv 42 (.t 5), .ia 43 (.t 41) (.t 42) (kR 0), .ld 44 (.t 43) (kR 0)] [.cv (some 45) 137 [((.t 39), .v (kR 0)), ((.t 44), .v (kR 0))], .un 46 .not (.t 45)]) (.cd (.t 46) (.sq (.rg [.mv 4 (.b false)]) (.rt)) (.skip)))) (.rg [.mv 33 (.t 5), .bi 34 .add (.t 33) (.i 1), .mv 5 (.t 34)])))))) (.sq (.rg [.mv 4 (.b true)]) (.rt))))
def ir100 : C := .sq (.rg [.bx 2 (.t 0) (kR 2), .bx 3 (.t 1) (kR 2), .mv 4 (.b false)]) (.sq (.sq (.rg [.fa 6 (.t 2) 2 0 0, .ld 7 (.t 6) kI, .fa 8 (.t 3) 2 0 0, .ld 9 (.t 8) kI, .bi 10 .neq (.t 7) (.t 9), .mv 11 (.t 10), .g 11 false (.fa 12 (.t 2) 2 1 1), .g 11 false (.ld 13 (.t 12) kS), .g 11 false (.fa 14 (.t 3) 2 1 1), .g 11 false (.ld 15 (.t 14) kS), .g 11 false (.bi 16 .neq (.t 13) (.t 15)), .pk 17 (.t 11) (.b true) (.t 16), .mv 18 (.t 17), .g 18 false (.fa 19 (.t 2) 2 2 2), .g 18 false (.ld 20 (.t 19) kI), .g 18 false (.fa 21 (.t 3) 2 2 2), .g 18 false (.ld 22 (.t 21) kI), .g 18 false (.bi 23 .neq (.t 20) (.t 22)), .pk 24 (.t 18) (.b true) (.t 23), .mv 25 (.t 24), .g 25 false (.fa 26 (.t 2) 2 3 3), .g 25 false (.ld 27 (.t 26) (kR 0)), .g 25 false (.fa 28 (.t 3) 2 3 3), .g 25 false (.ld 29 (.t 28) (kR 0)), .g 25 false (.cv (some 30) 137 [((.t 27), .v (kR 0)), ((.t 29), .v (kR 0))]), .g 25 false (.un 31 .not (.t 30)), .pk 32 (.t 25) (.b true) (.t 31), .mv 33 (.t 32), .g 33 false (.fa 34 (.t 2) 2 4 6), .g 33 false (.ld 35 (.t 34) (kL kS)), .g 33 false (.fa 36 (.t 3) 2 4 6), .g 33 false (.ld 37 (.t 36) (kL kS)), .g 33 false (.cv (some 38) 66 [((.t 35), .v (kL kS)), ((.t 37), .v (kL kS))]), .g 33 false (.un 39 .not (.t 38)), .pk 40 (.t 33) (.b true) (.t 39), .mv 41 (.t 40), .g 41 false (.fa 42 (.t 2) 2 5 7), .g 41 false (.ld 43 (.t 42) (kL (kR 2))), .g 41 false (.ln 44 false (.t 43)), .g 41 false (.fa 45 (.t 3) 2 5 7), .g 41 false (.ld 46 (.t 45) (kL (kR 2))), .g 41 false (.ln 47 false (.t 46)), .g 41 false (.bi 48 .neq (.t 44) (.t 47)), .pk 49 (.t 41) (.b true) (.t 48)]) (.cd (.t 49) (.sq (.rg [.mv 4 (.b false)]) (.rt)) (.skip))) (.sq (.sq (.rg [.mv 5 (.i 0)]) (.bk 0 (.lp (.sq (.sq (.rg [.mv 50 (.t 5), .fa 51 (.t 2) 2 5 7, .ld 52 (.t 51) (kL (kR 2)), .ln 53 false (.t 52), .bi 54 .lss (.t 50) (.t 53)]) (.cd (.t 54) (.skip) (.ex 0))) (.sq (.bk 1 (.sq (.dr [] [.fa 57 (.t 2) 2 5 7, .ld 58 (.t 57) (kL (kR 2)), .mv 59 (.t 5), .ia 60 (.t 58) (.t 59) (kR 2), .ld 61 (.t 60) (kR 2), .fa 62 (.t 3) 2 5 7, .ld 63 (.t 62) (kL (kR 2)), .mv 64 (.t 5), .ia 65 (.t 63) (.t 64) (kR 2), .ld 66 (.t 65) (kR 2)] [.cv (some 67) 100 [((.t 61), .v (kR 2)), ((.t 66), .v (kR 2))], .un 68 .not (.t 67)]) (.cd (.t 68) (.sq (.rg [.mv 4 (.b false)]) (.rt)) (.skip)))) (.rg [.mv 55 (.t 5), .bi 56 .add (.t 55) (.i 1), .mv 5 (.t 56)])))))) (.sq (.rg [.mv 4 (.b true)]) (.rt))))
noncomputable def d138 (m : Nat) : List SA → Option RA := con2p (kR 0) (kR 0) (fun (a b : Ty) => decide (4 * (zTy a) + 1 < m)) fun (a b : Ty) => .v .bool (eqb a b)
noncomputable def d161 (m : Nat) : List SA → Option RA := con2fp (kL (kR 0)) (kL (kR 0)) 138 (fun (a b : List Ty) => decide (4 * (szL zTy a) < m)) fun (a b : List Ty) => .v .bool (eqb a b)
set_option maxRecDepth 100000 in
theorem grp138 : ∀ m : Nat, (∀ (a b : Ty), decide (4 * (zTy a) + 1 < m) = true → Sp Try.prog 138 [.v (kR 0) a, .v (kR 0) b] (.v .bool (eqb a b))) ∧ (∀ (a b : List Ty), decide (4 * (szL zTy a) < m) = true → Sp Try.prog 161 [.v (kL (kR 0)) a, .v (kL (kR 0)) b, .fn 138 []] (.v .bool (eqb a b)))
  | 0 => ⟨fun a b h => by simp at h, fun a b h => by simp at h⟩
  | m + 1 => by
    have ih := grp138 m
    refine ⟨fun a b hn => ?_, fun a b hn => ?_⟩
    · skip
      refine Sp_intro [(67, c67), (161, d161 m)] ⟨con2_ok s67, con2fp_ok ih.2, trivial⟩ (N := 24) (vs := [.t 4 (.v .bool)]) (c := ir138) Try.func138 (by kernel_rfl) rfl ?_
      unfold ir138
      simp only [Bool.and_eq_true, decide_eq_true_eq] at hn
      have hf := zTy_f a
      have p0 : 4 * (szL zTy a.args) < m := by omega
      simp only [go_sem, c67, d161, p0, ext_0]
      all_goals simp +contextual
      all_goals (intros; refine eqb_congr ?_; rw [ext_0]; simp [*])
    · skip
      refine Sp_intro [(138, d138 m)] ⟨con2p_ok ih.1, trivial⟩ (N := 32) (vs := [.t 6 (.v .bool)]) (c := ir161) Try.func161 (by kernel_rfl) rfl ?_
      unfold ir161
      simp only [Bool.and_eq_true, decide_eq_true_eq] at hn
      simp only [go_sem, d138]
      intro _ _
      refine ⟨fun h3 h => h3 (by rw [h]), fun h3 _ => ?_⟩
      refine LP_intro (X := ⟨Try.prog, 32, [(138, d138 m)]⟩) ⟨con2p_ok ih.1, trivial⟩ [0, 1, 2, 6, 15, 16, 17] [] (fun i : Nat => ⟨[(0, .v (kL (kR 0)) a), (1, .v (kL (kR 0)) b), (2, .fn 138 []), (6, .v .bool false), (15, .v (kL (kR 0)) a), (16, .v kI (a.length : Int)), (17, .v kI (i : Int))], []⟩) (fun i => i ≤ a.length ∧ ∀ j : Nat, j < i → gt a (j : Int) (Ki.z (kR 0)) = gt b (j : Int) (Ki.z (kR 0))) (fun i => a.length - i) ⟨0, ⟨Nat.zero_le _, fun j hj => absurd hj (Nat.not_lt_zero j)⟩, ?_⟩ (fun i hi => ?_)
      · simp only [go_sem, d138]
        rfl
      obtain ⟨hi1, hi2⟩ := hi
      simp only [go_sem, d138]
      refine ⟨fun hlt => ⟨hlt, by omega, (by have := szL_at zTy a hlt (Ki.z (kR 0)); omega), fun hne h => hne (by rw [h]), fun he => ⟨i + 1, ⟨hlt, below_succ hi2 he⟩, by dsimp only; omega, ?_⟩⟩, fun hge => row_eq (by omega) fun j hj => hi2 j (by omega)⟩
      simp only [go_sem, d138]
      rw [wrap_nat (by omega)]
noncomputable def c138 : List SA → Option RA := con2 (kR 0) (kR 0) fun (a b : Ty) => .v .bool (eqb a b)
theorem s138 (a b : Ty) : Sp Try.prog 138 [.v (kR 0) a, .v (kR 0) b] (.v .bool (eqb a b)) := (grp138 (4 * (zTy a) + 1 + 1)).1 a b (by simp)
noncomputable def c161 : List SA → Option RA := con2f (kL (kR 0)) (kL (kR 0)) 138 fun (a b : List Ty) => .v .bool (eqb a b)
theorem s161 (a b : List Ty) : Sp Try.prog 161 [.v (kL (kR 0)) a, .v (kL (kR 0)) b, .fn 138 []] (.v .bool (eqb a b)) := (grp138 (4 * (szL zTy a) + 1)).2 a b (by simp)
noncomputable def d101 (m : Nat) : List SA → Option RA := con2p (kR 2) (kR 2) (fun (a b : Tm) => decide (4 * (zTm a) + 1 < m)) fun (a b : Tm) => .v .bool (eqb a b)
noncomputable def d102 (m : Nat) : List SA → Option RA := con2fp (kL (kR 2)) (kL (kR 2)) 101 (fun (a b : List Tm) => decide (4 * (szL zTm a) < m)) fun (a b : List Tm) => .v .bool (eqb a b)
set_option maxRecDepth 100000 in
theorem grp101 : ∀ m : Nat, (∀ (a b : Tm), decide (4 * (zTm a) + 1 < m) = true → Sp Try.prog 101 [.v (kR 2) a, .v (kR 2) b] (.v .bool (eqb a b))) ∧ (∀ (a b : List Tm), decide (4 * (szL zTm a) < m) = true → Sp Try.prog 102 [.v (kL (kR 2)) a, .v (kL (kR 2)) b, .fn 101 []] (.v .bool (eqb a b)))
  | 0 => ⟨fun a b h => by simp at h, fun a b h => by simp at h⟩
  | m + 1 => by
    have ih := grp101 m
    refine ⟨fun a b hn => ?_, fun a b hn => ?_⟩
    · skip
      refine Sp_intro [(67, c67), (138, c138), (102, d102 m)] ⟨con2_ok s67, con2_ok s138, con2fp_ok ih.2, trivial⟩ (N := 45) (vs := [.t 4 (.v .bool)]) (c := ir101) Try.func101 (by kernel_rfl) rfl ?_
      unfold ir101
      simp only [Bool.and_eq_true, decide_eq_true_eq] at hn
      have hf := zTm_f a
      have p0 : 4 * (szL zTm a.args) < m := by omega
      simp only [go_sem, c67, c138, d102, p0, ext_2]
      all_goals simp +contextual
      all_goals (intros; refine eqb_congr ?_; rw [ext_2]; simp [*])
    · skip
      refine Sp_intro [(101, d101 m)] ⟨con2p_ok ih.1, trivial⟩ (N := 32) (vs := [.t 6 (.v .bool)]) (c := ir102) Try.func102 (by kernel_rfl) rfl ?_
      unfold ir102
      simp only [Bool.and_eq_true, decide_eq_true_eq] at hn
      simp only [go_sem, d101]
      intro _ _
      refine ⟨fun h3 h => h3 (by rw [h]), fun h3 _ => ?_⟩
      refine LP_intro (X := ⟨Try.prog, 32, [(101, d101 m)]⟩) ⟨con2p_ok ih.1, trivial⟩ [0, 1, 2, 6, 15, 16, 17] [] (fun i : Nat => ⟨[(0, .v (kL (kR 2)) a), (1, .v (kL (kR 2)) b), (2, .fn 101 []), (6, .v .bool false), (15, .v (kL (kR 2)) a), (16, .v kI (a.length : Int)), (17, .v kI (i : Int))], []⟩) (fun i => i ≤ a.length ∧ ∀ j : Nat, j < i → gt a (j : Int) (Ki.z (kR 2)) = gt b (j : Int) (Ki.z (kR 2))) (fun i => a.length - i) ⟨0, ⟨Nat.zero_le _, fun j hj => absurd hj (Nat.not_lt_zero j)⟩, ?_⟩ (fun i hi => ?_)
      · simp only [go_sem, d101]
        rfl
      obtain ⟨hi1, hi2⟩ := hi
      simp only [go_sem, d101]
      refine ⟨fun hlt => ⟨hlt, by omega, (by have := szL_at zTm a hlt (Ki.z (kR 2)); omega), fun hne h => hne (by rw [h]), fun he => ⟨i + 1, ⟨hlt, below_succ hi2 he⟩, by dsimp only; omega, ?_⟩⟩, fun hge => row_eq (by omega) fun j hj => hi2 j (by omega)⟩
      simp only [go_sem, d101]
      rw [wrap_nat (by omega)]
noncomputable def c101 : List SA → Option RA := con2 (kR 2) (kR 2) fun (a b : Tm) => .v .bool (eqb a b)
theorem s101 (a b : Tm) : Sp Try.prog 101 [.v (kR 2) a, .v (kR 2) b] (.v .bool (eqb a b)) := (grp101 (4 * (zTm a) + 1 + 1)).1 a b (by simp)
noncomputable def c102 : List SA → Option RA := con2f (kL (kR 2)) (kL (kR 2)) 101 fun (a b : List Tm) => .v .bool (eqb a b)
theorem s102 (a b : List Tm) : Sp Try.prog 102 [.v (kL (kR 2)) a, .v (kL (kR 2)) b, .fn 101 []] (.v .bool (eqb a b)) := (grp101 (4 * (szL zTm a) + 1)).2 a b (by simp)
noncomputable def d137 (m : Nat) : List SA → Option RA := con2p (kR 0) (kR 0) (fun (a b : Ty) => decide (zTy a < m)) fun (a b : Ty) => .v .bool (eqb a b)
set_option maxRecDepth 100000 in
theorem s137m : ∀ (m : Nat) (a b : Ty), decide (zTy a < m) = true → Sp Try.prog 137 [.v (kR 0) a, .v (kR 0) b] (.v .bool (eqb a b))
  | 0, a, b, h => by simp at h
  | m + 1, a, b, hn => by
    have ih := s137m m
    simp only [decide_eq_true_eq] at hn
    refine Sp_intro [(137, d137 m), (66, c66)] ⟨con2p_ok ih, con2_ok s66, trivial⟩ (N := 47) (vs := [.t 4 (.v .bool)]) (c := ir137) Try.func137 (by kernel_rfl) rfl ?_
    unfold ir137
    simp only [go_sem, d137, c66]
    have hf := zTy_f a
    refine ⟨fun e1 => ⟨fun e2 _ _ => ⟨fun h e => h (by rw [e]), fun el => ?_⟩, fun h e => h (by rw [e])⟩, fun h e => h (by rw [e])⟩
    refine LP_intro (X := ⟨Try.prog, 47, [(137, d137 m), (66, c66)]⟩) ⟨con2p_ok ih, con2_ok s66, trivial⟩ [2, 3, 4, 5] [[2], [3]] (fun i : Nat => ⟨[(2, .pt [2] 0), (3, .pt [3] 0), (4, .v .bool false), (5, .v kI (i : Int))], [([2], .box (lvs 0 a)), ([3], .box (lvs 0 b))]⟩) (fun i => i ≤ a.args.length ∧ ∀ j : Nat, j < i → gt a.args (j : Int) (Ki.z (kR 0)) = gt b.args (j : Int) (Ki.z (kR 0))) (fun i => a.args.length - i) ⟨0, ⟨Nat.zero_le _, fun j hj => absurd hj (Nat.not_lt_zero j)⟩, ?_⟩ (fun i hi => ?_)
    · simp only [go_sem, d137, c66]
      rfl
    obtain ⟨hi1, hi2⟩ := hi
    simp only [go_sem, d137, c66]
    intro _
    refine ⟨fun hlt => ⟨hlt, by omega, (by have := szL_at zTy a.args hlt (Ki.z (kR 0)); omega), fun hne h => hne (by rw [h]), fun he => ⟨i + 1, ⟨hlt, below_succ hi2 he⟩, by dsimp only; omega, ?_⟩⟩, fun hge => (ext_0 _ _).2 ⟨e1, e2, row_eq (by omega) fun j hj => hi2 j (by omega)⟩⟩
    simp only [go_sem, d137, c66]
    rw [wrap_nat (by omega)]
noncomputable def c137 : List SA → Option RA := con2 (kR 0) (kR 0) fun (a b : Ty) => .v .bool (eqb a b)
theorem s137 (a b : Ty) : Sp Try.prog 137 [.v (kR 0) a, .v (kR 0) b] (.v .bool (eqb a b)) := s137m (zTy a + 1) a b (by simp)
noncomputable def d100 (m : Nat) : List SA → Option RA := con2p (kR 2) (kR 2) (fun (a b : Tm) => decide (zTm a < m)) fun (a b : Tm) => .v .bool (eqb a b)
set_option maxRecDepth 100000 in
theorem s100m : ∀ (m : Nat) (a b : Tm), decide (zTm a < m) = true → Sp Try.prog 100 [.v (kR 2) a, .v (kR 2) b] (.v .bool (eqb a b))
  | 0, a, b, h => by simp at h
  | m + 1, a, b, hn => by
    have ih := s100m m
    simp only [decide_eq_true_eq] at hn
    refine Sp_intro [(100, d100 m), (66, c66), (137, c137)] ⟨con2p_ok ih, con2_ok s66, con2_ok s137, trivial⟩ (N := 69) (vs := [.t 4 (.v .bool)]) (c := ir100) Try.func100 (by kernel_rfl) rfl ?_
    unfold ir100
    simp only [go_sem, d100, c66, c137]
    have hf := zTm_f a
    refine ⟨fun e1 => ⟨fun e2 => ⟨fun e3 => ⟨fun e4 => ⟨fun e5 _ _ => ⟨fun h e => h (by rw [e]), fun el => ?_⟩, fun h e => h (by rw [e])⟩, fun h e => h (by rw [e])⟩, fun h e => h (by rw [e])⟩, fun h e => h (by rw [e])⟩, fun h e => h (by rw [e])⟩
    refine LP_intro (X := ⟨Try.prog, 69, [(100, d100 m), (66, c66), (137, c137)]⟩) ⟨con2p_ok ih, con2_ok s66, con2_ok s137, trivial⟩ [2, 3, 4, 5] [[2], [3]] (fun i : Nat => ⟨[(2, .pt [2] 0), (3, .pt [3] 0), (4, .v .bool false), (5, .v kI (i : Int))], [([2], .box (lvs 2 a)), ([3], .box (lvs 2 b))]⟩) (fun i => i ≤ a.args.length ∧ ∀ j : Nat, j < i → gt a.args (j : Int) (Ki.z (kR 2)) = gt b.args (j : Int) (Ki.z (kR 2))) (fun i => a.args.length - i) ⟨0, ⟨Nat.zero_le _, fun j hj => absurd hj (Nat.not_lt_zero j)⟩, ?_⟩ (fun i hi => ?_)
    · simp only [go_sem, d100, c66, c137]
      rfl
    obtain ⟨hi1, hi2⟩ := hi
    simp only [go_sem, d100, c66, c137]
    intro _
    refine ⟨fun hlt => ⟨hlt, by omega, (by have := szL_at zTm a.args hlt (Ki.z (kR 2)); omega), fun hne h => hne (by rw [h]), fun he => ⟨i + 1, ⟨hlt, below_succ hi2 he⟩, by dsimp only; omega, ?_⟩⟩, fun hge => (ext_2 _ _).2 ⟨e1, e2, e3, e4, e5, row_eq (by omega) fun j hj => hi2 j (by omega)⟩⟩
    simp only [go_sem, d100, c66, c137]
    rw [wrap_nat (by omega)]
noncomputable def c100 : List SA → Option RA := con2 (kR 2) (kR 2) fun (a b : Tm) => .v .bool (eqb a b)
theorem s100 (a b : Tm) : Sp Try.prog 100 [.v (kR 2) a, .v (kR 2) b] (.v .bool (eqb a b)) := s100m (zTm a + 1) a b (by simp)
end Go.Q
