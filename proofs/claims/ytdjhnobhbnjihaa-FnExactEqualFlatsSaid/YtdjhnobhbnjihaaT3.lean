/- Equal values, by function values. -/
import Derived.Test.YtdjhnobhbnjihaaT2
import Derived.Test.YtdjhnobhbnjihaaT0
import Derived.Test.YtdjhnobhbnjihaaF6
import Derived.Test.YtdjhnobhbnjihaaProg
import Derived.KernelRfl
set_option linter.unusedVariables false
set_option linter.unusedSimpArgs false
namespace Go.Q
open Go.Proofs
set_option linter.unusedSimpArgs false
set_option linter.unusedVariables false
def ir79 : C := .sq (.rg [.mv 6 (.b false)]) (.sq (.sq (.rg [.mv 10 (.t 0), .ln 11 false (.t 10), .mv 12 (.t 1), .ln 13 false (.t 12), .bi 14 .neq (.t 11) (.t 13)]) (.cd (.t 14) (.sq (.rg [.mv 6 (.b false)]) (.rt)) (.skip))) (.sq (.sq (.rg [.mv 15 (.t 0), .ln 16 false (.t 15), .mv 17 (.i 0)]) (.bk 0 (.lp (.sq (.rg [.bi 18 .lss (.t 17) (.t 16)]) (.sq (.cd (.t 18) (.skip) (.ex 0)) (.sq (.bk 1 (.sq (.rg [.mv 19 (.t 17), .ia 20 (.t 15) (.t 17) (kR 1), .ld 21 (.t 20) (kR 1), .al 8 (kR 1), .mv 7 (.t 19), .st (.t 8) (.t 21) (kR 1)]) (.sq (.rg [.mv 22 (.t 1), .mv 23 (.t 7), .ia 24 (.t 22) (.t 23) (kR 1), .ld 25 (.t 24) (kR 1), .al 9 (kR 1), .st (.t 9) (.t 25) (kR 1)]) (.sq (.rg [.mv 26 (.t 2), .ld 27 (.t 8) (kR 1), .ld 28 (.t 9) (kR 1), .cf (some 29) (.t 26) [((.t 27), .v (kR 1)), ((.t 28), .v (kR 1))], .un 30 .not (.t 29)]) (.cd (.t 30) (.sq (.rg [.mv 6 (.b false)]) (.rt)) (.skip)))))) (.rg [.bi 31 .add (.t 17) (.i 1), .mv 17 (.t 31)]))))))) (.sq (.rg [.mv 6 (.b true)]) (.rt))))
def ir78 : C := .sq (.rg [.bx 2 (.t 0) (kR 16), .bx 3 (.t 1) (kR 16), .mv 4 (.b false)]) (.sq (.rg [.fa 5 (.t 2) 16 0 0, .ld 6 (.t 5) kI, .fa 7 (.t 3) 16 0 0, .ld 8 (.t 7) kI, .bi 9 .eql (.t 6) (.t 8), .mv 10 (.t 9), .g 10 true (.fa 11 (.t 2) 16 1 1), .g 10 true (.ld 12 (.t 11) kI), .g 10 true (.fa 13 (.t 3) 16 1 1), .g 10 true (.ld 14 (.t 13) kI), .g 10 true (.bi 15 .eql (.t 12) (.t 14)), .pk 16 (.t 10) (.t 15) (.b false), .mv 17 (.t 16), .g 17 true (.fa 18 (.t 2) 16 2 2), .g 17 true (.ld 19 (.t 18) (kL (kR 1))), .g 17 true (.fa 20 (.t 3) 16 2 2), .g 17 true (.ld 21 (.t 20) (kL (kR 1))), .g 17 true (.cv (some 22) 79 [((.t 19), .v (kL (kR 1))), ((.t 21), .v (kL (kR 1))), ((.f 80), .fn)]), .pk 23 (.t 17) (.t 22) (.b false), .mv 4 (.t 23)]) (.rt))
def ir77 : C := .sq (.rg [.mv 6 (.b false)]) (.sq (.sq (.rg [.mv 10 (.t 0), .ln 11 false (.t 10), .mv 12 (.t 1), .ln 13 false (.t 12), .bi 14 .neq (.t 11) (.t 13)]) (.cd (.t 14) (.sq (.rg [.mv 6 (.b false)]) (.rt)) (.skip))) (.sq (.sq (.rg [.mv 15 (.t 0), .ln 16 false (.t 15), .mv 17 (.i 0)]) (.bk 0 (.lp (.sq (.rg [.bi 18 .lss (.t 17) (.t 16)]) (.sq (.cd (.t 18) (.skip) (.ex 0)) (.sq (.bk 1 (.sq (.rg [.mv 19 (.t 17), .ia 20 (.t 15) (.t 17) (kR 16), .ld 21 (.t 20) (kR 16), .al 8 (kR 16), .mv 7 (.t 19), .st (.t 8) (.t 21) (kR 16)]) (.sq (.rg [.mv 22 (.t 1), .mv 23 (.t 7), .ia 24 (.t 22) (.t 23) (kR 16), .ld 25 (.t 24) (kR 16), .al 9 (kR 16), .st (.t 9) (.t 25) (kR 16)]) (.sq (.rg [.mv 26 (.t 2), .ld 27 (.t 8) (kR 16), .ld 28 (.t 9) (kR 16), .cf (some 29) (.t 26) [((.t 27), .v (kR 16)), ((.t 28), .v (kR 16))], .un 30 .not (.t 29)]) (.cd (.t 30) (.sq (.rg [.mv 6 (.b false)]) (.rt)) (.skip)))))) (.rg [.bi 31 .add (.t 17) (.i 1), .mv 17 (.t 31)]))))))) (.sq (.rg [.mv 6 (.b true)]) (.rt))))
def ir29 : C := .sq (.rg [.mv 4 (.b false)]) (.sq (.rg [.mv 5 (.t 0), .mv 6 (.t 1), .cv (some 7) 77 [((.t 5), .v (kL (kR 16))), ((.t 6), .v (kL (kR 16))), ((.f 78), .fn)], .mv 4 (.t 7)]) (.rt))
def ir75 : C := .sq (.rg [.mv 4 (.b false)]) (.sq (.sq (.rg [.mv 6 (.t 0), .ln 7 false (.t 6), .mv 8 (.t 1), .ln 9 false (.t 8), .bi 10 .neq (.t 7) (.t 9)]) (.cd (.t 10) (.sq (.rg [.mv 4 (.b false)]) (.rt)) (.skip))) (.sq (.sq (.rg [.mv 5 (.i 0)]) (.bk 0 (.lp (.sq (.sq (.rg [.mv 11 (.t 5), .mv 12 (.t 0), .ln 13 false (.t 12), .bi 14 .lss (.t 11) (.t 13)]) (.cd (.t 14) (.skip) (.ex 0))) (.sq (.bk 1 (.sq (.dr [] [.mv 17 (.t 0), .mv 18 (.t 5), .ia 19 (.t 17) (.t 18) (kR 1), .ld 20 (.t 19) (kR 1), .mv 21 (.t 1), .mv 22 (.t 5), .ia 23 (.t 21) (.t 22) (kR 1), .ld 24 (.t 23) (kR 1)] [.cv (some 25) 125 [((.t 20), .v (kR 1)), ((.t 24), .v (kR 1))], .bi 26 .neq (.t 25) (.i 0)]) (.cd (.t 26) (.sq (.rg [.mv 4 (.b false)]) (.rt)) (.skip)))) (.rg [.mv 15 (.t 5), .bi 16 .add (.t 15) (.i 1), .mv 5 (.t 16)])))))) (.sq (.rg [.mv 4 (.b true)]) (.rt))))
def ir27 : C := .sq (.rg [.mv 4 (.b false)]) (.sq (.sq (.rg [.mv 6 (.t 0), .ln 7 false (.t 6), .mv 8 (.t 1), .ln 9 false (.t 8), .bi 10 .neq (.t 7) (.t 9)]) (.cd (.t 10) (.sq (.rg [.mv 4 (.b false)]) (.rt)) (.skip))) (.sq (.sq (.rg [.mv 5 (.i 0)]) (.bk 0 (.lp (.sq (.sq (.rg [.mv 11 (.t 5), .mv 12 (.t 0), .ln 13 false (.t 12), .bi 14 .lss (.t 11) (.t 13)]) (.cd (.t 14) (.skip) (.ex 0))) (.sq (.bk 1 (.sq (.dr [] [.mv 17 (.t 0), .mv 18 (.t 5), .ia 19 (.t 17) (.t 18) (kR 16), .fa 20 (.t 19) 16 0 0, .ld 21 (.t 20) kI, .mv 22 (.t 1), .mv 23 (.t 5), .ia 24 (.t 22) (.t 23) (kR 16), .fa 25 (.t 24) 16 0 0, .ld 26 (.t 25) kI, .bi 27 .neq (.t 21) (.t 26), .mv 28 (.t 27), .g 28 false (.mv 29 (.t 0)), .g 28 false (.mv 30 (.t 5)), .g 28 false (.ia 31 (.t 29) (.t 30) (kR 16)), .g 28 false (.fa 32 (.t 31) 16 1 1), .g 28 false (.ld 33 (.t 32) kI), .g 28 false (.mv 34 (.t 1)), .g 28 false (.mv 35 (.t 5)), .g 28 false (.ia 36 (.t 34) (.t 35) (kR 16)), .g 28 false (.fa 37 (.t 36) 16 1 1), .g 28 false (.ld 38 (.t 37) kI), .g 28 false (.bi 39 .neq (.t 33) (.t 38)), .pk 40 (.t 28) (.b true) (.t 39), .mv 41 (.t 40), .g 41 false (.mv 42 (.t 0)), .g 41 false (.mv 43 (.t 5)), .g 41 false (.ia 44 (.t 42) (.t 43) (kR 16)), .g 41 false (.fa 45 (.t 44) 16 2 2), .g 41 false (.ld 46 (.t 45) (kL (kR 1))), .g 41 false (.mv 47 (.t 1)), .g 41 false (.mv 48 (.t 5)), .g 41 false (.ia 49 (.t 47) (.t 48) (kR 16)), .g 41 false (.fa 50 (.t 49) 16 2 2), .g 41 false (.ld 51 (.t 50) (kL (kR 1)))] [.g 41 false (.cv (some 52) 75 [((.t 46), .v (kL (kR 1))), ((.t 51), .v (kL (kR 1)))]), .g 41 false (.un 53 .not (.t 52)), .pk 54 (.t 41) (.b true) (.t 53)]) (.cd (.t 54) (.sq (.rg [.mv 4 (.b false)]) (.rt)) (.skip)))) (.rg [.mv 15 (.t 5), .bi 16 .add (.t 15) (.i 1), .mv 5 (.t 16)])))))) (.sq (.rg [.mv 4 (.b true)]) (.rt))))
noncomputable def c79 : List SA → Option RA := con2f (kL (kR 1)) (kL (kR 1)) 80 fun (a b : List Val) => .v .bool (eqb a b)
theorem s79 (a b : List Val) : Sp Try.prog 79 [.v (kL (kR 1)) a, .v (kL (kR 1)) b, .fn 80 []] (.v .bool (eqb a b)) := by
  refine Sp_intro [(80, c80)] ⟨con2_ok s80, trivial⟩ (N := 32) (vs := [.t 6 (.v .bool)]) (c := ir79) Try.func79 (by kernel_rfl) rfl ?_
  unfold ir79
  simp only [go_sem, c80]
  intro _ _
  refine ⟨fun h3 h => h3 (by rw [h]), fun h3 _ => ?_⟩
  refine LP_intro (X := ⟨Try.prog, 32, [(80, c80)]⟩) ⟨con2_ok s80, trivial⟩ [0, 1, 2, 6, 15, 16, 17] [] (fun i : Nat => ⟨[(0, .v (kL (kR 1)) a), (1, .v (kL (kR 1)) b), (2, .fn 80 []), (6, .v .bool false), (15, .v (kL (kR 1)) a), (16, .v kI (a.length : Int)), (17, .v kI (i : Int))], []⟩) (fun i => i ≤ a.length ∧ ∀ j : Nat, j < i → gt a (j : Int) (Ki.z (kR 1)) = gt b (j : Int) (Ki.z (kR 1))) (fun i => a.length - i) ⟨0, ⟨Nat.zero_le _, fun j hj => absurd hj (Nat.not_lt_zero j)⟩, ?_⟩ (fun i hi => ?_)
  · simp only [go_sem, c80]
    rfl
  obtain ⟨hi1, hi2⟩ := hi
  simp only [go_sem, c80]
  refine ⟨fun hlt => ⟨hlt, by omega, fun hne h => hne (by rw [h]), fun he => ⟨i + 1, ⟨hlt, below_succ hi2 he⟩, by dsimp only; omega, ?_⟩⟩, fun hge => row_eq (by omega) fun j hj => hi2 j (by omega)⟩
  simp only [go_sem, c80]
  rw [wrap_nat (by omega)]
noncomputable def c78 : List SA → Option RA := con2 (kR 16) (kR 16) fun (a b : NRow) => .v .bool (eqb a b)
theorem s78 (a b : NRow) : Sp Try.prog 78 [.v (kR 16) a, .v (kR 16) b] (.v .bool (eqb a b)) := by
  refine Sp_intro [(79, c79)] ⟨con2f_ok s79, trivial⟩ (N := 24) (vs := [.t 4 (.v .bool)]) (c := ir78) Try.func78 (by kernel_rfl) rfl ?_
  unfold ir78
  simp only [go_sem, c79, ext_16]
  all_goals simp +contextual
  all_goals (intros; refine eqb_congr ?_; rw [ext_16]; simp [*])
noncomputable def c77 : List SA → Option RA := con2f (kL (kR 16)) (kL (kR 16)) 78 fun (a b : List NRow) => .v .bool (eqb a b)
theorem s77 (a b : List NRow) : Sp Try.prog 77 [.v (kL (kR 16)) a, .v (kL (kR 16)) b, .fn 78 []] (.v .bool (eqb a b)) := by
  refine Sp_intro [(78, c78)] ⟨con2_ok s78, trivial⟩ (N := 32) (vs := [.t 6 (.v .bool)]) (c := ir77) Try.func77 (by kernel_rfl) rfl ?_
  unfold ir77
  simp only [go_sem, c78]
  intro _ _
  refine ⟨fun h3 h => h3 (by rw [h]), fun h3 _ => ?_⟩
  refine LP_intro (X := ⟨Try.prog, 32, [(78, c78)]⟩) ⟨con2_ok s78, trivial⟩ [0, 1, 2, 6, 15, 16, 17] [] (fun i : Nat => ⟨[(0, .v (kL (kR 16)) a), (1, .v (kL (kR 16)) b), (2, .fn 78 []), (6, .v .bool false), (15, .v (kL (kR 16)) a), (16, .v kI (a.length : Int)), (17, .v kI (i : Int))], []⟩) (fun i => i ≤ a.length ∧ ∀ j : Nat, j < i → gt a (j : Int) (Ki.z (kR 16)) = gt b (j : Int) (Ki.z (kR 16))) (fun i => a.length - i) ⟨0, ⟨Nat.zero_le _, fun j hj => absurd hj (Nat.not_lt_zero j)⟩, ?_⟩ (fun i hi => ?_)
  · simp only [go_sem, c78]
    rfl
  obtain ⟨hi1, hi2⟩ := hi
  simp only [go_sem, c78]
  refine ⟨fun hlt => ⟨hlt, by omega, fun hne h => hne (by rw [h]), fun he => ⟨i + 1, ⟨hlt, below_succ hi2 he⟩, by dsimp only; omega, ?_⟩⟩, fun hge => row_eq (by omega) fun j hj => hi2 j (by omega)⟩
  simp only [go_sem, c78]
  rw [wrap_nat (by omega)]
noncomputable def c29 : List SA → Option RA := con2 (kL (kR 16)) (kL (kR 16)) fun (a b : List NRow) => .v .bool (eqb a b)
theorem s29 (a b : List NRow) : Sp Try.prog 29 [.v (kL (kR 16)) a, .v (kL (kR 16)) b] (.v .bool (eqb a b)) := by
  refine Sp_intro [(77, c77)] ⟨con2f_ok s77, trivial⟩ (N := 8) (vs := [.t 4 (.v .bool)]) (c := ir29) Try.func29 (by kernel_rfl) rfl ?_
  unfold ir29
  simp only [go_sem, c77]
noncomputable def c75 : List SA → Option RA := con2 (kL (kR 1)) (kL (kR 1)) fun (a b : List Val) => .v .bool (eqb a b)
theorem s75 (a b : List Val) : Sp Try.prog 75 [.v (kL (kR 1)) a, .v (kL (kR 1)) b] (.v .bool (eqb a b)) := by
  refine Sp_intro [(125, c125)] ⟨con2_ok s125, trivial⟩ (N := 27) (vs := [.t 4 (.v .bool)]) (c := ir75) Try.func75 (by kernel_rfl) rfl ?_
  unfold ir75
  simp only [go_sem, c125]
  intro _ _
  refine ⟨fun h3 h => h3 (by rw [h]), fun h3 => ?_⟩
  refine LP_intro (X := ⟨Try.prog, 27, [(125, c125)]⟩) ⟨con2_ok s125, trivial⟩ [0, 1, 4, 5] [] (fun i : Nat => ⟨[(0, .v (kL (kR 1)) a), (1, .v (kL (kR 1)) b), (4, .v .bool false), (5, .v kI (i : Int))], []⟩) (fun i => i ≤ a.length ∧ ∀ j : Nat, j < i → gt a (j : Int) (Ki.z (kR 1)) = gt b (j : Int) (Ki.z (kR 1))) (fun i => a.length - i) ⟨0, ⟨Nat.zero_le _, fun j hj => absurd hj (Nat.not_lt_zero j)⟩, ?_⟩ (fun i hi => ?_)
  · simp only [go_sem, c125]
    rfl
  obtain ⟨hi1, hi2⟩ := hi
  simp only [go_sem, c125]
  intro _
  refine ⟨fun hlt => ⟨hlt, by omega, fun hne h => hne (cmpV_zero.2 (by rw [h])), fun he => ⟨i + 1, ⟨hlt, below_succ hi2 (cmpV_zero.1 he)⟩, by dsimp only; omega, ?_⟩⟩, fun hge => row_eq (by omega) fun j hj => hi2 j (by omega)⟩
  simp only [go_sem, c125]
  rw [wrap_nat (by omega)]
noncomputable def c27 : List SA → Option RA := con2 (kL (kR 16)) (kL (kR 16)) fun (a b : List NRow) => .v .bool (eqb a b)
theorem s27 (a b : List NRow) : Sp Try.prog 27 [.v (kL (kR 16)) a, .v (kL (kR 16)) b] (.v .bool (eqb a b)) := by
  refine Sp_intro [(75, c75)] ⟨con2_ok s75, trivial⟩ (N := 55) (vs := [.t 4 (.v .bool)]) (c := ir27) Try.func27 (by kernel_rfl) rfl ?_
  unfold ir27
  simp only [go_sem, c75]
  intro _ _
  refine ⟨fun h3 h => h3 (by rw [h]), fun h3 => ?_⟩
  refine LP_intro (X := ⟨Try.prog, 55, [(75, c75)]⟩) ⟨con2_ok s75, trivial⟩ [0, 1, 4, 5] [] (fun i : Nat => ⟨[(0, .v (kL (kR 16)) a), (1, .v (kL (kR 16)) b), (4, .v .bool false), (5, .v kI (i : Int))], []⟩) (fun i => i ≤ a.length ∧ ∀ j : Nat, j < i → gt a (j : Int) (Ki.z (kR 16)) = gt b (j : Int) (Ki.z (kR 16))) (fun i => a.length - i) ⟨0, ⟨Nat.zero_le _, fun j hj => absurd hj (Nat.not_lt_zero j)⟩, ?_⟩ (fun i hi => ?_)
  · simp only [go_sem, c75]
    rfl
  obtain ⟨hi1, hi2⟩ := hi
  simp only [go_sem, c75]
  intro _
  refine ⟨fun hlt => ?_, fun hge => row_eq (by omega) fun j hj => hi2 j (by omega)⟩
  have hlt2 : i < b.length := by omega
  refine ⟨hlt, hlt2, fun e1 => ⟨hlt, hlt2, fun e2 => ⟨hlt, hlt2, fun hne h => hne (by rw [h]), fun he => ⟨i + 1, ⟨hlt, below_succ hi2 ((ext_16 _ _).2 ⟨e1, e2, he⟩)⟩, by dsimp only; omega, ?_⟩⟩, fun hne h => hne (by rw [h])⟩, fun hne h => hne (by rw [h])⟩
  simp only [go_sem, c75]
  rw [wrap_nat (by omega)]
end Go.Q
