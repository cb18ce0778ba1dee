/- Equal plans. -/
import Derived.Test.YtdjhnobhbnjihaaT5
import Derived.Test.YtdjhnobhbnjihaaProg
import Derived.KernelRfl
set_option linter.unusedVariables false
set_option linter.unusedSimpArgs false
namespace Go.Q
open Go.Proofs
set_option linter.unusedSimpArgs false
set_option linter.unusedVariables false
def ir45 : C := .sq (.rg [.bx 2 (.t 0) (kR 17), .bx 3 (.t 1) (kR 17), .mv 4 (.b false)]) (.sq (.rg [.fa 5 (.t 2) 17 0 0, .ld 6 (.t 5) kI, .fa 7 (.t 3) 17 0 0, .ld 8 (.t 7) kI, .bi 9 .eql (.t 6) (.t 8), .mv 10 (.t 9), .g 10 true (.fa 11 (.t 2) 17 1 1), .g 10 true (.ld 12 (.t 11) kS), .g 10 true (.fa 13 (.t 3) 17 1 1), .g 10 true (.ld 14 (.t 13) kS), .g 10 true (.bi 15 .eql (.t 12) (.t 14)), .pk 16 (.t 10) (.t 15) (.b false), .mv 17 (.t 16), .g 17 true (.fa 18 (.t 2) 17 2 2), .g 17 true (.ld 19 (.t 18) kS), .g 17 true (.fa 20 (.t 3) 17 2 2), .g 17 true (.ld 21 (.t 20) kS), .g 17 true (.bi 22 .eql (.t 19) (.t 21)), .pk 23 (.t 17) (.t 22) (.b false), .mv 24 (.t 23), .g 24 true (.fa 25 (.t 2) 17 3 3), .g 24 true (.ld 26 (.t 25) (kR 2)), .g 24 true (.fa 27 (.t 3) 17 3 3), .g 24 true (.ld 28 (.t 27) (kR 2)), .g 24 true (.cv (some 29) 101 [((.t 26), .v (kR 2)), ((.t 28), .v (kR 2))]), .pk 30 (.t 24) (.t 29) (.b false), .mv 31 (.t 30), .g 31 true (.fa 32 (.t 2) 17 4 11), .g 31 true (.ld 33 (.t 32) (kL (kR 2))), .g 31 true (.fa 34 (.t 3) 17 4 11), .g 31 true (.ld 35 (.t 34) (kL (kR 2))), .g 31 true (.cv (some 36) 102 [((.t 33), .v (kL (kR 2))), ((.t 35), .v (kL (kR 2))), ((.f 101), .fn)]), .pk 37 (.t 31) (.t 36) (.b false), .mv 38 (.t 37), .g 38 true (.fa 39 (.t 2) 17 5 12), .g 38 true (.ld 40 (.t 39) (kL (kR 17))), .g 38 true (.fa 41 (.t 3) 17 5 12), .g 38 true (.ld 42 (.t 41) (kL (kR 17))), .g 38 true (.cv (some 43) 103 [((.t 40), .v (kL (kR 17))), ((.t 42), .v (kL (kR 17))), ((.f 45), .fn)]), .pk 44 (.t 38) (.t 43) (.b false), .mv 4 (.t 44)]) (.rt))
def ir103 : C := .sq (.rg [.mv 6 (.b false)]) (.sq (.sq (.rg [.mv 10 (.t 0), .ln 11 false (.t 10), .mv 12 (.t 1), .ln 13 false (.t 12), .bi 14 .neq (.t 11) (.t 13)]) (.cd (.t 14) (.sq (.rg [.mv 6 (.b false)]) (.rt)) (.skip))) (.sq (.sq (.rg [.mv 15 (.t 0), .ln 16 false (.t 15), .mv 17 (.i 0)]) (.bk 0 (.lp (.sq (.rg [.bi 18 .lss (.t 17) (.t 16)]) (.sq (.cd (.t 18) (.skip) (.ex 0)) (.sq (.bk 1 (.sq (.rg [.mv 19 (.t 17), .ia 20 (.t 15) (.t 17) (kR 17), .ld 21 (.t 20) (kR 17), .al 8 (kR 17), .mv 7 (.t 19), .st (.t 8) (.t 21) (kR 17)]) (.sq (.rg [.mv 22 (.t 1), .mv 23 (.t 7), .ia 24 (.t 22) (.t 23) (kR 17), .ld 25 (.t 24) (kR 17), .al 9 (kR 17), .st (.t 9) (.t 25) (kR 17)]) (.sq (.rg [.mv 26 (.t 2), .ld 27 (.t 8) (kR 17), .ld 28 (.t 9) (kR 17), .cf (some 29) (.t 26) [((.t 27), .v (kR 17)), ((.t 28), .v (kR 17))], .un 30 .not (.t 29)]) (.cd (.t 30) (.sq (.rg [.mv 6 (.b false)]) (.rt)) (.skip)))))) (.rg [.bi 31 .add (.t 17) (.i 1), .mv 17 (.t 31)]))))))) (.sq (.rg [.mv 6 (.b true)]) (.rt))))
def ir44 : C := .sq (.rg [.bx 2 (.t 0) (kR 17), .bx 3 (.t 1) (kR 17), .mv 4 (.b false)]) (.sq (.sq (.rg [.fa 7 (.t 2) 17 0 0, .ld 8 (.t 7) kI, .fa 9 (.t 3) 17 0 0, .ld 10 (.t 9) kI, .bi 11 .neq (.t 8) (.t 10), .mv 12 (.t 11), .g 12 false (.fa 13 (.t 2) 17 1 1), .g 12 false (.ld 14 (.t 13) kS), .g 12 false (.fa 15 (.t 3) 17 1 1), .g 12 false (.ld 16 (.t 15) kS), .g 12 false (.bi 17 .neq (.t 14) (.t 16)), .pk 18 (.t 12) (.b true) (.t 17), .mv 19 (.t 18), .g 19 false (.fa 20 (.t 2) 17 2 2), .g 19 false (.ld 21 (.t 20) kS), .g 19 false (.fa 22 (.t 3) 17 2 2), .g 19 false (.ld 23 (.t 22) kS), .g 19 false (.bi 24 .neq (.t 21) (.t 23)), .pk 25 (.t 19) (.b true) (.t 24), .mv 26 (.t 25), .g 26 false (.fa 27 (.t 2) 17 3 3), .g 26 false (.ld 28 (.t 27) (kR 2)), .g 26 false (.fa 29 (.t 3) 17 3 3), .g 26 false (.ld 30 (.t 29) (kR 2)), .g 26 false (.cv (some 31) 100 [((.t 28), .v (kR 2)), ((.t 30), .v (kR 2))]), .g 26 false (.un 32 .not (.t 31)), .pk 33 (.t 26) (.b true) (.t 32), .mv 34 (.t 33), .g 34 false (.fa 35 (.t 2) 17 4 11), .g 34 false (.ld 36 (.t 35) (kL (kR 2))), .g 34 false (.ln 37 false (.t 36)), .g 34 false (.fa 38 (.t 3) 17 4 11), .g 34 false (.ld 39 (.t 38) (kL (kR 2))), .g 34 false (.ln 40 false (.t 39)), .g 34 false (.bi 41 .neq (.t 37) (.t 40)), .pk 42 (.t 34) (.b true) (.t 41), .mv 43 (.t 42), .g 43 false (.fa 44 (.t 2) 17 5 12), .g 43 false (.ld 45 (.t 44) (kL (kR 17))), .g 43 false (.ln 46 false (.t 45)), .g 43 false (.fa 47 (.t 3) 17 5 12), .g 43 false (.ld 48 (.t 47) (kL (kR 17))), .g 43 false (.ln 49 false (.t 48)), .g 43 false (.bi 50 .neq (.t 46) (.t 49)), .pk 51 (.t 43) (.b true) (.t 50)]) (.cd (.t 51) (.sq (.rg [.mv 4 (.b false)]) (.rt)) (.skip))) (.sq (.sq (.rg [.mv 5 (.i 0)]) (.bk 0 (.lp (.sq (.sq (.rg [.mv 52 (.t 5), .fa 53 (.t 2) 17 4 11, .ld 54 (.t 53) (kL (kR 2)), .ln 55 false (.t 54), .bi 56 .lss (.t 52) (.t 55)]) (.cd (.t 56) (.skip) (.ex 0))) (.sq (.bk 1 (.sq (.dr [] [.fa 59 (.t 2) 17 4 11, .ld 60 (.t 59) (kL (kR 2)), .mv 61 (.t 5), .ia 62 (.t 60) (.t 61) (kR 2), .ld 63 (.t 62) (kR 2), .fa 64 (.t 3) 17 4 11, .ld 65 (.t 64) (kL (kR 2)), .mv 66 (.t 5), .ia 67 (.t 65) (.t 66) (kR 2), .ld 68 (.t 67) (kR 2)] [.cv (some 69) 100 [((.t 63), .v (kR 2)), ((.t 68), .v (kR 2))], .un 70 .not (.t 69)]) (.cd (.t 70) (.sq (.rg [.mv 4 (.b false)]) (.rt)) (.skip)))) (.rg [.mv 57 (.t 5), .bi 58 .add (.t 57) (.i 1), .mv 5 (.t 58)])))))) (.sq (.sq (.rg [.mv 6 (.i 0)]) (.bk 2 (.lp (.sq (.sq (.rg [.mv 71 (.t 6), .fa 72 (.t 2) 17 5 12, .ld 73 (.t 72) (kL (kR 17)), .ln 74 false (.t 73), .bi 75 .lss (.t 71) (.t 74)]) (.cd (.t 75) (.skip) (.ex 2))) (.sq (.bk 3 (.sq (.dr [] [.fa 78 (.t 2) 17 5 12, .ld 79 (.t 78) (kL (kR 17)), .mv 80 (.t 6), .ia 81 (.t 79) (.t 80) (kR 17), .ld 82 (.t 81) (kR 17), .fa 83 (.t 3) 17 5 12, .ld 84 (.t 83) (kL (kR 17)), .mv 85 (.t 6), .ia 86 (.t 84) (.t 85) (kR 17), .ld 87 (.t 86) (kR 17)] [.cv (some 88) 44 [((.t 82), .v (kR 17)), ((.t 87), .v (kR 17))], .un 89 .not (.t 88)]) (.cd (.t 89) (.sq (.rg [.mv 4 (.b false)]) (.rt)) (.skip)))) (.rg [.mv 76 (.t 6), .bi 77 .add (.t 76) (.i 1), .mv 6 (.t 77)])))))) (.sq (.rg [.mv 4 (.b true)]) (.rt)))))
def ir9 : C := .sq (.rg [.bx 2 (.t 0) (kR 17), .bx 3 (.t 1) (kR 17), .mv 4 (.b false)]) (.sq (.rg [.mv 5 (.i 1048576)]) (.sq (.rg [.ld 10 (.t 2) (kR 17), .mv 11 (.t 5), .cv (some 12) 39 [((.t 10), .v (kR 17)), ((.t 11), .v kI)], .mv 5 (.t 12)]) (.sq (.sq (.rg [.mv 13 (.t 5), .bi 14 .lss (.t 13) (.i 0)]) (.cd (.t 14) (.sq (.rg [.mv 4 (.b true)]) (.rt)) (.skip))) (.sq (.rg [.ld 15 (.t 3) (kR 17), .mv 16 (.t 5), .cv (some 17) 39 [((.t 15), .v (kR 17)), ((.t 16), .v kI)], .mv 5 (.t 17)]) (.sq (.sq (.rg [.mv 18 (.t 5), .bi 19 .lss (.t 18) (.i 0)]) (.cd (.t 19) (.sq (.rg [.mv 4 (.b true)]) (.rt)) (.skip))) (.sq (.dr [] [.ld 20 (.t 2) (kR 17), .cv (some 21) 41 [((.t 20), .v (kR 17))], .ld 22 (.t 3) (kR 17)] [.cv (some 23) 41 [((.t 22), .v (kR 17))], .cv (some 24) 44 [((.t 21), .v (kR 17)), ((.t 23), .v (kR 17))], .mv 6 (.t 24)]) (.sq (.rg [.ld 25 (.t 2) (kR 17), .cv (some 26) 41 [((.t 25), .v (kR 17))], .al 7 (kR 17), .st (.t 7) (.t 26) (kR 17)]) (.sq (.rg [.ld 27 (.t 3) (kR 17), .cv (some 28) 41 [((.t 27), .v (kR 17))], .al 8 (kR 17), .st (.t 8) (.t 28) (kR 17)]) (.sq (.rg [.ld 29 (.t 7) (kR 17), .ld 30 (.t 8) (kR 17), .cv (some 31) 45 [((.t 29), .v (kR 17)), ((.t 30), .v (kR 17))], .mv 9 (.t 31)]) (.sq (.sq (.rg [.mv 32 (.t 9), .mv 33 (.t 6), .be 34 true (.t 32) (.t 33)]) (.cd (.t 34) (.sq (.rg [.mv 4 (.b false)]) (.rt)) (.skip))) (.sq (.sq (.dr [] [.ld 35 (.t 7) (kR 17), .ld 36 (.t 2) (kR 17), .cv (some 37) 41 [((.t 36), .v (kR 17))]] [.cv (some 38) 43 [((.t 35), .v (kR 17)), ((.t 37), .v (kR 17))], .un 39 .not (.t 38)]) (.cd (.t 39) (.sq (.rg [.mv 4 (.b false)]) (.rt)) (.skip))) (.sq (.sq (.dr [] [.ld 40 (.t 8) (kR 17), .ld 41 (.t 3) (kR 17), .cv (some 42) 41 [((.t 41), .v (kR 17))]] [.cv (some 43) 43 [((.t 40), .v (kR 17)), ((.t 42), .v (kR 17))], .un 44 .not (.t 43)]) (.cd (.t 44) (.sq (.rg [.mv 4 (.b false)]) (.rt)) (.skip))) (.sq (.rg [.mv 4 (.b true)]) (.rt))))))))))))))
noncomputable def d45 (m : Nat) : List SA → Option RA := con2p (kR 17) (kR 17) (fun (a b : Plan) => decide (4 * (zPlan a) + 1 < m)) fun (a b : Plan) => .v .bool (eqb a b)
noncomputable def d103 (m : Nat) : List SA → Option RA := con2fp (kL (kR 17)) (kL (kR 17)) 45 (fun (a b : List Plan) => decide (4 * (szL zPlan a) < m)) fun (a b : List Plan) => .v .bool (eqb a b)
set_option maxRecDepth 100000 in
theorem grp45 : ∀ m : Nat, (∀ (a b : Plan), decide (4 * (zPlan a) + 1 < m) = true → Sp Try.prog 45 [.v (kR 17) a, .v (kR 17) b] (.v .bool (eqb a b))) ∧ (∀ (a b : List Plan), decide (4 * (szL zPlan a) < m) = true → Sp Try.prog 103 [.v (kL (kR 17)) a, .v (kL (kR 17)) b, .fn 45 []] (.v .bool (eqb a b)))
  | 0 => ⟨fun a b h => by simp at h, fun a b h => by simp at h⟩
  | m + 1 => by
    have ih := grp45 m
    refine ⟨fun a b hn => ?_, fun a b hn => ?_⟩
    · skip
      refine Sp_intro [(101, c101), (102, c102), (103, d103 m)] ⟨con2_ok s101, con2f_ok s102, con2fp_ok ih.2, trivial⟩ (N := 45) (vs := [.t 4 (.v .bool)]) (c := ir45) Try.func45 (by kernel_rfl) rfl ?_
      unfold ir45
      simp only [Bool.and_eq_true, decide_eq_true_eq] at hn
      have hf := zPlan_f a
      have p0 : 4 * (szL zPlan a.args) < m := by omega
      simp only [go_sem, c101, c102, d103, p0, ext_17]
      all_goals simp +contextual
      all_goals (intros; refine eqb_congr ?_; rw [ext_17]; simp [*])
    · skip
      refine Sp_intro [(45, d45 m)] ⟨con2p_ok ih.1, trivial⟩ (N := 32) (vs := [.t 6 (.v .bool)]) (c := ir103) Try.func103 (by kernel_rfl) rfl ?_
      unfold ir103
      simp only [Bool.and_eq_true, decide_eq_true_eq] at hn
      simp only [go_sem, d45]
      intro _ _
      refine ⟨fun h3 h => h3 (by rw [h]), fun h3 _ => ?_⟩
      refine LP_intro (X := ⟨Try.prog, 32, [(45, d45 m)]⟩) ⟨con2p_ok ih.1, trivial⟩ [0, 1, 2, 6, 15, 16, 17] [] (fun i : Nat => ⟨[(0, .v (kL (kR 17)) a), (1, .v (kL (kR 17)) b), (2, .fn 45 []), (6, .v .bool false), (15, .v (kL (kR 17)) a), (16, .v kI (a.length : Int)), (17, .v kI (i : Int))], []⟩) (fun i => i ≤ a.length ∧ ∀ j : Nat, j < i → gt a (j : Int) (Ki.z (kR 17)) = gt b (j : Int) (Ki.z (kR 17))) (fun i => a.length - i) ⟨0, ⟨Nat.zero_le _, fun j hj => absurd hj (Nat.not_lt_zero j)⟩, ?_⟩ (fun i hi => ?_)
      · simp only [go_sem, d45]
        rfl
      obtain ⟨hi1, hi2⟩ := hi
      simp only [go_sem, d45]
      refine ⟨fun hlt => ⟨hlt, by omega, (by have := szL_at zPlan a hlt (Ki.z (kR 17)); omega), fun hne h => hne (by rw [h]), fun he => ⟨i + 1, ⟨hlt, below_succ hi2 he⟩, by dsimp only; omega, ?_⟩⟩, fun hge => row_eq (by omega) fun j hj => hi2 j (by omega)⟩
      simp only [go_sem, d45]
      rw [wrap_nat (by omega)]
noncomputable def c45 : List SA → Option RA := con2 (kR 17) (kR 17) fun (a b : Plan) => .v .bool (eqb a b)
theorem s45 (a b : Plan) : Sp Try.prog 45 [.v (kR 17) a, .v (kR 17) b] (.v .bool (eqb a b)) := (grp45 (4 * (zPlan a) + 1 + 1)).1 a b (by simp)
noncomputable def c103 : List SA → Option RA := con2f (kL (kR 17)) (kL (kR 17)) 45 fun (a b : List Plan) => .v .bool (eqb a b)
theorem s103 (a b : List Plan) : Sp Try.prog 103 [.v (kL (kR 17)) a, .v (kL (kR 17)) b, .fn 45 []] (.v .bool (eqb a b)) := (grp45 (4 * (szL zPlan a) + 1)).2 a b (by simp)

noncomputable def d44 (m : Nat) : List SA → Option RA := con2p (kR 17) (kR 17) (fun (a b : Plan) => decide (zPlan a < m)) fun (a b : Plan) => .v .bool (eqb a b)
set_option maxRecDepth 100000 in
theorem s44m : ∀ (m : Nat) (a b : Plan), decide (zPlan a < m) = true → Sp Try.prog 44 [.v (kR 17) a, .v (kR 17) b] (.v .bool (eqb a b))
  | 0, a, b, h => by simp at h
  | m + 1, a, b, hn => by
    have ih := s44m m
    simp only [decide_eq_true_eq] at hn
    refine Sp_intro [(44, d44 m), (100, c100)] ⟨con2p_ok ih, con2_ok s100, trivial⟩ (N := 90) (vs := [.t 4 (.v .bool)]) (c := ir44) Try.func44 (by kernel_rfl) rfl ?_
    unfold ir44
    simp only [go_sem, d44, c100]
    have hf := zPlan_f a
    refine ⟨fun e1 => ⟨fun e2 => ⟨fun e3 => ⟨fun e4 _ _ => ⟨fun ek _ _ => ⟨fun h e => h (by rw [e]), fun el => ?_⟩, fun h e => h (by rw [e])⟩, fun h e => h (by rw [e])⟩, fun h e => h (by rw [e])⟩, fun h e => h (by rw [e])⟩, fun h e => h (by rw [e])⟩
    refine LP_intro (X := ⟨Try.prog, 90, [(44, d44 m), (100, c100)]⟩) ⟨con2p_ok ih, con2_ok s100, trivial⟩ [2, 3, 4, 5] [[2], [3]] (fun i : Nat => ⟨[(2, .pt [2] 0), (3, .pt [3] 0), (4, .v .bool false), (5, .v kI (i : Int))], [([2], .box (lvs 17 a)), ([3], .box (lvs 17 b))]⟩) (fun i => i ≤ a.keys.length ∧ ∀ j : Nat, j < i → gt a.keys (j : Int) (Ki.z (kR 2)) = gt b.keys (j : Int) (Ki.z (kR 2))) (fun i => a.keys.length - i) ⟨0, ⟨Nat.zero_le _, fun j hj => absurd hj (Nat.not_lt_zero j)⟩, ?_⟩ (fun i hi => ?_)
    · simp only [go_sem, d44, c100]
      rfl
    obtain ⟨hi1, hi2⟩ := hi
    simp only [go_sem, d44, c100]
    intro _
    refine ⟨fun hlt => ⟨hlt, by omega, fun hne h => hne (by rw [h]), fun he => ⟨i + 1, ⟨hlt, below_succ hi2 he⟩, by dsimp only; omega, ?_⟩⟩, fun hge => ?_⟩
    · simp only [go_sem, d44, c100]
      rw [wrap_nat (by omega)]
    have e5 : a.keys = b.keys := row_eq (by omega) fun j hj => hi2 j (by omega)
    refine LP_intro (X := ⟨Try.prog, 90, [(44, d44 m), (100, c100)]⟩) ⟨con2p_ok ih, con2_ok s100, trivial⟩ [2, 3, 4, 6] [[2], [3]] (fun i : Nat => ⟨[(2, .pt [2] 0), (3, .pt [3] 0), (4, .v .bool false), (6, .v kI (i : Int))], [([2], .box (lvs 17 a)), ([3], .box (lvs 17 b))]⟩) (fun i => i ≤ a.args.length ∧ ∀ j : Nat, j < i → gt a.args (j : Int) (Ki.z (kR 17)) = gt b.args (j : Int) (Ki.z (kR 17))) (fun i => a.args.length - i) ⟨0, ⟨Nat.zero_le _, fun j hj => absurd hj (Nat.not_lt_zero j)⟩, ?_⟩ (fun i hi => ?_)
    · simp only [go_sem, d44, c100]
      rfl
    obtain ⟨hi1, hi2⟩ := hi
    simp only [go_sem, d44, c100]
    intro _
    refine ⟨fun hlt => ⟨hlt, by omega, (by have := szL_at zPlan a.args hlt (Ki.z (kR 17)); omega), fun hne h => hne (by rw [h]), fun he => ⟨i + 1, ⟨hlt, below_succ hi2 he⟩, by dsimp only; omega, ?_⟩⟩, fun hge => (ext_17 _ _).2 ⟨e1, e2, e3, e4, e5, row_eq (by omega) fun j hj => hi2 j (by omega)⟩⟩
    simp only [go_sem, d44, c100]
    rw [wrap_nat (by omega)]
noncomputable def c44 : List SA → Option RA := con2 (kR 17) (kR 17) fun (a b : Plan) => .v .bool (eqb a b)
theorem s44 (a b : Plan) : Sp Try.prog 44 [.v (kR 17) a, .v (kR 17) b] (.v .bool (eqb a b)) := s44m (zPlan a + 1) a b (by simp)
theorem s9 (a b : Plan) : Sp Try.prog 9 [.v (kR 17) a, .v (kR 17) b] (.v .bool true) := by
  refine Sp_intro [(39, c39), (41, c41), (43, c43), (44, c44), (45, c45)] ⟨con2p_ok s39, con1p_ok s41, con2_ok s43, con2_ok s44, con2_ok s45, trivial⟩ (N := 45) (vs := [.t 4 (.v .bool)]) (c := ir9) Try.func9 (by kernel_rfl) rfl ?_
  unfold ir9
  simp only [go_sem, c39, c41, c43, c44, c45, eqb_self]
  intro h
  obtain ⟨h1, h2⟩ := sz1_nn h
  refine ⟨by omega, fun h3 => ?_⟩
  obtain ⟨h4, h5⟩ := sz1_nn h3
  omega
end Go.Q
