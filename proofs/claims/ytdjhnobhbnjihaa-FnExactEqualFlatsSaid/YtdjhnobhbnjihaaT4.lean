/- Equal rows of flat queries. -/
import Derived.Test.YtdjhnobhbnjihaaT3
import Derived.Test.YtdjhnobhbnjihaaProg
import Derived.KernelRfl
set_option linter.unusedVariables false
set_option linter.unusedSimpArgs false
namespace Go.Q
open Go.Proofs
set_option linter.unusedSimpArgs false
set_option linter.unusedVariables false
def ir107 : C := .sq (.rg [.bx 2 (.t 0) (kR 15), .bx 3 (.t 1) (kR 15), .mv 4 (.b false)]) (.sq (.rg [.fa 5 (.t 2) 15 0 0, .ld 6 (.t 5) (kR 14), .fa 7 (.t 3) 15 0 0, .ld 8 (.t 7) (kR 14), .cv (some 9) 22 [((.t 6), .v (kR 14)), ((.t 8), .v (kR 14))], .mv 10 (.t 9), .g 10 true (.fa 11 (.t 2) 15 1 2), .g 10 true (.ld 12 (.t 11) (kR 14)), .g 10 true (.fa 13 (.t 3) 15 1 2), .g 10 true (.ld 14 (.t 13) (kR 14)), .g 10 true (.cv (some 15) 22 [((.t 12), .v (kR 14)), ((.t 14), .v (kR 14))]), .pk 16 (.t 10) (.t 15) (.b false), .mv 17 (.t 16), .g 17 true (.fa 18 (.t 2) 15 2 4), .g 17 true (.ld 19 (.t 18) (kL (kR 1))), .g 17 true (.fa 20 (.t 3) 15 2 4), .g 17 true (.ld 21 (.t 20) (kL (kR 1))), .g 17 true (.cv (some 22) 79 [((.t 19), .v (kL (kR 1))), ((.t 21), .v (kL (kR 1))), ((.f 80), .fn)]), .pk 23 (.t 17) (.t 22) (.b false), .mv 4 (.t 23)]) (.rt))
def ir106 : C := .sq (.rg [.mv 6 (.b false)]) (.sq (.sq (.rg [.mv 10 (.t 0), .ln 11 false (.t 10), .mv 12 (.t 1), .ln 13 false (.t 12), .bi 14 .neq (.t 11) (.t 13)]) (.cd (.t 14) (.sq (.rg [.mv 6 (.b false)]) (.rt)) (.skip))) (.sq (.sq (.rg [.mv 15 (.t 0), .ln 16 false (.t 15), .mv 17 (.i 0)]) (.bk 0 (.lp (.sq (.rg [.bi 18 .lss (.t 17) (.t 16)]) (.sq (.cd (.t 18) (.skip) (.ex 0)) (.sq (.bk 1 (.sq (.rg [.mv 19 (.t 17), .ia 20 (.t 15) (.t 17) (kR 15), .ld 21 (.t 20) (kR 15), .al 8 (kR 15), .mv 7 (.t 19), .st (.t 8) (.t 21) (kR 15)]) (.sq (.rg [.mv 22 (.t 1), .mv 23 (.t 7), .ia 24 (.t 22) (.t 23) (kR 15), .ld 25 (.t 24) (kR 15), .al 9 (kR 15), .st (.t 9) (.t 25) (kR 15)]) (.sq (.rg [.mv 26 (.t 2), .ld 27 (.t 8) (kR 15), .ld 28 (.t 9) (kR 15), .cf (some 29) (.t 26) [((.t 27), .v (kR 15)), ((.t 28), .v (kR 15))], .un 30 .not (.t 29)]) (.cd (.t 30) (.sq (.rg [.mv 6 (.b false)]) (.rt)) (.skip)))))) (.rg [.bi 31 .add (.t 17) (.i 1), .mv 17 (.t 31)]))))))) (.sq (.rg [.mv 6 (.b true)]) (.rt))))
def ir49 : C := .sq (.rg [.mv 4 (.b false)]) (.sq (.rg [.mv 5 (.t 0), .mv 6 (.t 1), .cv (some 7) 106 [((.t 5), .v (kL (kR 15))), ((.t 6), .v (kL (kR 15))), ((.f 107), .fn)], .mv 4 (.t 7)]) (.rt))
def ir47 : C := .sq (.rg [.mv 4 (.b false)]) (.sq (.sq (.rg [.mv 6 (.t 0), .ln 7 false (.t 6), .mv 8 (.t 1), .ln 9 false (.t 8), .bi 10 .neq (.t 7) (.t 9)]) (.cd (.t 10) (.sq (.rg [.mv 4 (.b false)]) (.rt)) (.skip))) (.sq (.sq (.rg [.mv 5 (.i 0)]) (.bk 0 (.lp (.sq (.sq (.rg [.mv 11 (.t 5), .mv 12 (.t 0), .ln 13 false (.t 12), .bi 14 .lss (.t 11) (.t 13)]) (.cd (.t 14) (.skip) (.ex 0))) (.sq (.bk 1 (.sq (.dr [] [.mv 17 (.t 0), .mv 18 (.t 5), .ia 19 (.t 17) (.t 18) (kR 15), .fa 20 (.t 19) 15 0 0, .ld 21 (.t 20) (kR 14), .mv 22 (.t 1), .mv 23 (.t 5), .ia 24 (.t 22) (.t 23) (kR 15), .fa 25 (.t 24) 15 0 0, .ld 26 (.t 25) (kR 14), .cv (some 27) 20 [((.t 21), .v (kR 14)), ((.t 26), .v (kR 14))], .un 28 .not (.t 27), .mv 29 (.t 28), .g 29 false (.mv 30 (.t 0)), .g 29 false (.mv 31 (.t 5)), .g 29 false (.ia 32 (.t 30) (.t 31) (kR 15)), .g 29 false (.fa 33 (.t 32) 15 1 2), .g 29 false (.ld 34 (.t 33) (kR 14)), .g 29 false (.mv 35 (.t 1)), .g 29 false (.mv 36 (.t 5)), .g 29 false (.ia 37 (.t 35) (.t 36) (kR 15)), .g 29 false (.fa 38 (.t 37) 15 1 2), .g 29 false (.ld 39 (.t 38) (kR 14)), .g 29 false (.cv (some 40) 20 [((.t 34), .v (kR 14)), ((.t 39), .v (kR 14))]), .g 29 false (.un 41 .not (.t 40)), .pk 42 (.t 29) (.b true) (.t 41), .mv 43 (.t 42), .g 43 false (.mv 44 (.t 0)), .g 43 false (.mv 45 (.t 5)), .g 43 false (.ia 46 (.t 44) (.t 45) (kR 15)), .g 43 false (.fa 47 (.t 46) 15 2 4), .g 43 false (.ld 48 (.t 47) (kL (kR 1))), .g 43 false (.mv 49 (.t 1)), .g 43 false (.mv 50 (.t 5)), .g 43 false (.ia 51 (.t 49) (.t 50) (kR 15)), .g 43 false (.fa 52 (.t 51) 15 2 4), .g 43 false (.ld 53 (.t 52) (kL (kR 1)))] [.g 43 false (.cv (some 54) 75 [((.t 48), .v (kL (kR 1))), ((.t 53), .v (kL (kR 1)))]), .g 43 false (.un 55 .not (.t 54)), .pk 56 (.t 43) (.b true) (.t 55)]) (.cd (.t 56) (.sq (.rg [.mv 4 (.b false)]) (.rt)) (.skip)))) (.rg [.mv 15 (.t 5), .bi 16 .add (.t 15) (.i 1), .mv 5 (.t 16)])))))) (.sq (.rg [.mv 4 (.b true)]) (.rt))))
noncomputable def c107 : List SA → Option RA := con2 (kR 15) (kR 15) fun (a b : FRow) => .v .bool (eqb a b)
theorem s107 (a b : FRow) : Sp Try.prog 107 [.v (kR 15) a, .v (kR 15) b] (.v .bool (eqb a b)) := by
  refine Sp_intro [(22, c22), (79, c79)] ⟨con2_ok s22, con2f_ok s79, trivial⟩ (N := 24) (vs := [.t 4 (.v .bool)]) (c := ir107) Try.func107 (by kernel_rfl) rfl ?_
  unfold ir107
  simp only [go_sem, c22, c79, ext_15]
  all_goals simp +contextual
  all_goals (intros; refine eqb_congr ?_; rw [ext_15]; simp [*])
noncomputable def c106 : List SA → Option RA := con2f (kL (kR 15)) (kL (kR 15)) 107 fun (a b : List FRow) => .v .bool (eqb a b)
theorem s106 (a b : List FRow) : Sp Try.prog 106 [.v (kL (kR 15)) a, .v (kL (kR 15)) b, .fn 107 []] (.v .bool (eqb a b)) := by
  refine Sp_intro [(107, c107)] ⟨con2_ok s107, trivial⟩ (N := 32) (vs := [.t 6 (.v .bool)]) (c := ir106) Try.func106 (by kernel_rfl) rfl ?_
  unfold ir106
  simp only [go_sem, c107]
  intro _ _
  refine ⟨fun h3 h => h3 (by rw [h]), fun h3 _ => ?_⟩
  refine LP_intro (X := ⟨Try.prog, 32, [(107, c107)]⟩) ⟨con2_ok s107, trivial⟩ [0, 1, 2, 6, 15, 16, 17] [] (fun i : Nat => ⟨[(0, .v (kL (kR 15)) a), (1, .v (kL (kR 15)) b), (2, .fn 107 []), (6, .v .bool false), (15, .v (kL (kR 15)) a), (16, .v kI (a.length : Int)), (17, .v kI (i : Int))], []⟩) (fun i => i ≤ a.length ∧ ∀ j : Nat, j < i → gt a (j : Int) (Ki.z (kR 15)) = gt b (j : Int) (Ki.z (kR 15))) (fun i => a.length - i) ⟨0, ⟨Nat.zero_le _, fun j hj => absurd hj (Nat.not_lt_zero j)⟩, ?_⟩ (fun i hi => ?_)
  · simp only [go_sem, c107]
    rfl
  obtain ⟨hi1, hi2⟩ := hi
  simp only [go_sem, c107]
  refine ⟨fun hlt => ⟨hlt, by omega, fun hne h => hne (by rw [h]), fun he => ⟨i + 1, ⟨hlt, below_succ hi2 he⟩, by dsimp only; omega, ?_⟩⟩, fun hge => row_eq (by omega) fun j hj => hi2 j (by omega)⟩
  simp only [go_sem, c107]
  rw [wrap_nat (by omega)]
noncomputable def c49 : List SA → Option RA := con2 (kL (kR 15)) (kL (kR 15)) fun (a b : List FRow) => .v .bool (eqb a b)
theorem s49 (a b : List FRow) : Sp Try.prog 49 [.v (kL (kR 15)) a, .v (kL (kR 15)) b] (.v .bool (eqb a b)) := by
  refine Sp_intro [(106, c106)] ⟨con2f_ok s106, trivial⟩ (N := 8) (vs := [.t 4 (.v .bool)]) (c := ir49) Try.func49 (by kernel_rfl) rfl ?_
  unfold ir49
  simp only [go_sem, c106]
noncomputable def c47 : List SA → Option RA := con2 (kL (kR 15)) (kL (kR 15)) fun (a b : List FRow) => .v .bool (eqb a b)
theorem s47 (a b : List FRow) : Sp Try.prog 47 [.v (kL (kR 15)) a, .v (kL (kR 15)) b] (.v .bool (eqb a b)) := by
  refine Sp_intro [(20, c20), (75, c75)] ⟨con2_ok s20, con2_ok s75, trivial⟩ (N := 57) (vs := [.t 4 (.v .bool)]) (c := ir47) Try.func47 (by kernel_rfl) rfl ?_
  unfold ir47
  simp only [go_sem, c20, c75]
  intro _ _
  refine ⟨fun h3 h => h3 (by rw [h]), fun h3 => ?_⟩
  refine LP_intro (X := ⟨Try.prog, 57, [(20, c20), (75, c75)]⟩) ⟨con2_ok s20, con2_ok s75, trivial⟩ [0, 1, 4, 5] [] (fun i : Nat => ⟨[(0, .v (kL (kR 15)) a), (1, .v (kL (kR 15)) b), (4, .v .bool false), (5, .v kI (i : Int))], []⟩) (fun i => i ≤ a.length ∧ ∀ j : Nat, j < i → gt a (j : Int) (Ki.z (kR 15)) = gt b (j : Int) (Ki.z (kR 15))) (fun i => a.length - i) ⟨0, ⟨Nat.zero_le _, fun j hj => absurd hj (Nat.not_lt_zero j)⟩, ?_⟩ (fun i hi => ?_)
  · simp only [go_sem, c20, c75]
    rfl
  obtain ⟨hi1, hi2⟩ := hi
  simp only [go_sem, c20, c75]
  intro _
  refine ⟨fun hlt => ?_, fun hge => row_eq (by omega) fun j hj => hi2 j (by omega)⟩
  have hlt2 : i < b.length := by omega
  refine ⟨hlt, hlt2, fun e1 => ⟨hlt, hlt2, fun e2 => ⟨hlt, hlt2, fun hne h => hne (by rw [h]), fun he => ⟨i + 1, ⟨hlt, below_succ hi2 ((ext_15 _ _).2 ⟨e1, e2, he⟩)⟩, by dsimp only; omega, ?_⟩⟩, fun hne h => hne (by rw [h])⟩, fun hne h => hne (by rw [h])⟩
  simp only [go_sem, c20, c75]
  rw [wrap_nat (by omega)]
end Go.Q
