import Derived.Test.YtdjhnobhbnjihaaQd
import Derived.Test.YtdjhnobhbnjihaaProg
import Derived.KernelRfl
set_option linter.unusedVariables false
set_option linter.unusedSimpArgs false
namespace Go.Q
open Go.Proofs
set_option linter.unusedSimpArgs false
set_option linter.unusedVariables false
def ir14 : C := .sq (.rg [.mv 4 (.i 0)]) (.sq (.rg [.mv 6 (.t 1), .mv 7 (.t 0), .ln 8 false (.t 7), .bi 9 .sub (.t 6) (.t 8), .mv 1 (.t 9)]) (.sq (.sq (.rg [.mv 10 (.t 1), .bi 11 .lss (.t 10) (.i 0)]) (.cd (.t 11) (.sq (.rg [.mv 4 (.i (-1))]) (.rt)) (.skip))) (.sq (.sq (.rg [.mv 5 (.i 0)]) (.bk 0 (.lp (.sq (.sq (.rg [.mv 12 (.t 5), .mv 13 (.t 0), .ln 14 false (.t 13), .bi 15 .lss (.t 12) (.t 14)]) (.cd (.t 15) (.skip) (.ex 0))) (.sq (.bk 1 (.sq (.rg [.mv 18 (.t 1), .mv 19 (.t 0), .mv 20 (.t 5), .ia 21 (.t 19) (.t 20) kS, .ld 22 (.t 21) kS, .ln 23 true (.t 22), .bi 24 .sub (.t 18) (.t 23), .mv 1 (.t 24)]) (.sq (.rg [.mv 25 (.t 1), .bi 26 .lss (.t 25) (.i 0)]) (.cd (.t 26) (.sq (.rg [.mv 4 (.i (-1))]) (.rt)) (.skip))))) (.rg [.mv 16 (.t 5), .bi 17 .add (.t 16) (.i 1), .mv 5 (.t 17)])))))) (.sq (.rg [.mv 27 (.t 1), .mv 4 (.t 27)]) (.rt)))))
noncomputable def c14 : List SA → Option RA := con2p (kL kS) kI (fun (a : List Str) (n : Int) => decide (0 ≤ n) && decide (n ≤ 1048576)) fun (a : List Str) (n : Int) => .v kI (sz1 (szL List.length a : Nat) n)
theorem s14 (a : List Str) (n : Int) (hn : (decide (0 ≤ n) && decide (n ≤ 1048576)) = true) : Sp Try.prog 14 [.v (kL kS) a, .v kI n] (.v kI (sz1 (szL List.length a : Nat) n)) := by
  refine Sp_intro [] trivial (N := 28) (vs := [.t 4 (.v kI)]) (c := ir14) Try.func14 (by kernel_rfl) rfl ?_
  unfold ir14
  simp only [Bool.and_eq_true, decide_eq_true_eq] at hn
  simp only [go_sem]
  intro h
  rw [wrap_id (by omega) (by omega)]
  refine ⟨fun h => sz1_of_neg (by unfold szL; omega), fun h0 => ?_⟩
  refine LP_intro (X := ⟨Try.prog, 28, []⟩) trivial [0, 1, 4, 5] [] (fun i : Nat => ⟨[(0, .v (kL kS) a), (1, .v kI (n - a.length - pfx List.length a i)), (4, .v kI 0), (5, .v kI (i : Int))], []⟩) (fun i => i ≤ a.length ∧ 0 ≤ n - a.length - pfx List.length a i) (fun i => a.length - i) ⟨0, ⟨Nat.zero_le _, by rw [pfx_zero]; omega⟩, ?_⟩ (fun i hi => ?_)
  · simp only [go_sem, pfx_zero, Int.natCast_zero, Int.sub_zero]
  obtain ⟨hi1, hi2⟩ := hi
  simp only [go_sem]
  intro _
  have hsum : szL List.length a = a.length + (a.map List.length).sum := rfl
  refine ⟨fun hlt => ?_, fun hge => ?_⟩
  · refine ⟨hlt, fun hs => ?_⟩
    have h1 := pfx_succ List.length a hlt (Ki.z kS)
    have h2 := pfx_le List.length a (i + 1)
    rw [wrap_id (by omega) (by omega)]
    refine ⟨fun h => sz1_of_neg (by omega), fun h3 => ⟨i + 1, ⟨hlt, by omega⟩, by dsimp only; omega, ?_⟩⟩
    have e : n - (a.length : Int) - (pfx List.length a i : Int) - ((List.length (gt a (i : Int) (Ki.z kS)) : Nat) : Int) = n - (a.length : Int) - (pfx List.length a (i + 1) : Int) := by omega
    simp only [go_sem]
    rw [wrap_nat (by omega), e]
  · have := pfx_all List.length a (i := i) (by omega)
    exact sz1_of_nn (by omega) (by omega)
def ir16 : C := .sq (.rg [.mv 2 (.nl kS)]) (.sq (.rg [.mv 5 (.t 0), .ln 6 false (.t 5), .mk 7 true kS (.t 6), .mv 3 (.t 7)]) (.sq (.sq (.rg [.mv 4 (.i 0)]) (.bk 0 (.lp (.sq (.sq (.rg [.mv 8 (.t 4), .mv 9 (.t 0), .ln 10 false (.t 9), .bi 11 .lss (.t 8) (.t 10)]) (.cd (.t 11) (.skip) (.ex 0))) (.sq (.bk 1 (.rg [.mv 14 (.t 3), .mv 15 (.t 4), .mv 16 (.t 0), .mv 17 (.t 4), .ia 18 (.t 16) (.t 17) kS, .ld 19 (.t 18) kS, .ia 20 (.t 14) (.t 15) kS, .st (.t 20) (.t 19) kS])) (.rg [.mv 12 (.t 4), .bi 13 .add (.t 12) (.i 1), .mv 4 (.t 13)])))))) (.sq (.rg [.mv 21 (.t 3), .mv 2 (.t 21)]) (.rt))))
noncomputable def c16 : List SA → Option RA := con1p (kL kS) (fun (a : List Str) => decide (szL List.length a ≤ 1048576)) fun (a : List Str) => .v (kL kS) a
theorem s16 (a : List Str) (hn : (decide (szL List.length a ≤ 1048576)) = true) : Sp Try.prog 16 [.v (kL kS) a] (.v (kL kS) a) := by
  refine Sp_intro [] trivial (N := 22) (vs := [.t 2 (.v (kL kS))]) (c := ir16) Try.func16 (by kernel_rfl) rfl ?_
  unfold ir16
  simp only [Bool.and_eq_true, decide_eq_true_eq] at hn
  have hsz : a.length ≤ 1048576 := by have : szL List.length a = a.length + (a.map List.length).sum := rfl; omega
  simp only [go_sem]
  intro _
  refine ⟨by omega, ?_⟩
  refine LP_intro (X := ⟨Try.prog, 22, []⟩) trivial [0, 2, 3, 4] [[7]] (fun i : Nat => ⟨[(0, .v (kL kS) a), (2, .nl kS), (3, .sl [7]), (4, .v kI (i : Int))], [([7], .row true false kS (cpy a i (Ki.z kS)))]⟩) (fun i => i ≤ a.length) (fun i => a.length - i) ⟨0, Nat.zero_le _, ?_⟩ (fun i hi => ?_)
  · simp only [go_sem, ← cpy_zero]; rfl
  simp only [go_sem, cpy_len]
  intro _
  refine ⟨fun hlt => ⟨hlt, hlt, hlt, ⟨i + 1, hlt, by dsimp only; omega, ?_⟩⟩, fun hge => cpy_all a _ hge⟩
  simp only [go_sem]
  rw [wrap_nat (by omega), cpy_set a _ _ hlt]
def ir18 : C := .sq (.rg [.mv 4 (.b false)]) (.sq (.sq (.rg [.mv 6 (.t 0), .ln 7 false (.t 6), .mv 8 (.t 1), .ln 9 false (.t 8), .bi 10 .neq (.t 7) (.t 9)]) (.cd (.t 10) (.sq (.rg [.mv 4 (.b false)]) (.rt)) (.skip))) (.sq (.sq (.rg [.mv 5 (.i 0)]) (.bk 0 (.lp (.sq (.sq (.rg [.mv 11 (.t 5), .mv 12 (.t 0), .ln 13 false (.t 12), .bi 14 .lss (.t 11) (.t 13)]) (.cd (.t 14) (.skip) (.ex 0))) (.sq (.bk 1 (.sq (.dr [] [.mv 17 (.t 0), .mv 18 (.t 5), .ia 19 (.t 17) (.t 18) kS, .ld 20 (.t 19) kS, .mv 21 (.t 1), .mv 22 (.t 5), .ia 23 (.t 21) (.t 22) kS, .ld 24 (.t 23) kS] [.bi 25 .neq (.t 20) (.t 24)]) (.cd (.t 25) (.sq (.rg [.mv 4 (.b false)]) (.rt)) (.skip)))) (.rg [.mv 15 (.t 5), .bi 16 .add (.t 15) (.i 1), .mv 5 (.t 16)])))))) (.sq (.rg [.mv 4 (.b true)]) (.rt))))
noncomputable def c18 : List SA → Option RA := con2 (kL kS) (kL kS) fun (a b : List Str) => .v .bool (eqb a b)
theorem s18 (a b : List Str) : Sp Try.prog 18 [.v (kL kS) a, .v (kL kS) b] (.v .bool (eqb a b)) := by
  refine Sp_intro [] trivial (N := 26) (vs := [.t 4 (.v .bool)]) (c := ir18) Try.func18 (by kernel_rfl) rfl ?_
  unfold ir18
  simp only [go_sem]
  intro h1 h2
  refine ⟨fun h3 h => h3 (by rw [h]), fun h3 => ?_⟩
  refine LP_intro (X := ⟨Try.prog, 26, []⟩) trivial [0, 1, 4, 5] [] (fun i : Nat => ⟨[(0, .v (kL kS) a), (1, .v (kL kS) b), (4, .v .bool false), (5, .v kI (i : Int))], []⟩) (fun i => i ≤ a.length ∧ ∀ j : Nat, j < i → gt a (j : Int) (Ki.z kS) = gt b (j : Int) (Ki.z kS)) (fun i => a.length - i) ⟨0, ⟨Nat.zero_le _, fun j hj => absurd hj (Nat.not_lt_zero j)⟩, ?_⟩ (fun i hi => ?_)
  · simp only [go_sem]; rfl
  obtain ⟨hi1, hi2⟩ := hi
  simp only [go_sem]
  intro _
  refine ⟨fun hlt => ⟨hlt, by omega, fun hne h => hne (by rw [h]), fun he => ⟨i + 1, ⟨hlt, below_succ hi2 he⟩, by dsimp only; omega, ?_⟩⟩, fun hge => row_eq (by omega) fun j hj => hi2 j (by omega)⟩
  simp only [go_sem]
  rw [wrap_nat (by omega)]
def ir68 : C := .sq (.rg [.mv 4 (.i 0)]) (.sq (.rg [.mv 5 (.t 1), .mv 6 (.t 0), .ln 7 false (.t 6), .bi 8 .sub (.t 5) (.t 7), .mv 1 (.t 8)]) (.sq (.sq (.rg [.mv 9 (.t 1), .bi 10 .lss (.t 9) (.i 0)]) (.cd (.t 10) (.sq (.rg [.mv 4 (.i (-1))]) (.rt)) (.skip))) (.sq (.rg [.mv 11 (.t 1), .mv 4 (.t 11)]) (.rt))))
noncomputable def c68 : List SA → Option RA := con2p (kL kI) kI (fun (a : List Int) (n : Int) => decide (0 ≤ n) && decide (n ≤ 1048576)) fun (a : List Int) (n : Int) => .v kI (sz1 (List.length a : Nat) n)
theorem s68 (a : List Int) (n : Int) (hn : (decide (0 ≤ n) && decide (n ≤ 1048576)) = true) : Sp Try.prog 68 [.v (kL kI) a, .v kI n] (.v kI (sz1 (List.length a : Nat) n)) := by
  refine Sp_intro [] trivial (N := 12) (vs := [.t 4 (.v kI)]) (c := ir68) Try.func68 (by kernel_rfl) rfl ?_
  unfold ir68
  simp only [Bool.and_eq_true, decide_eq_true_eq] at hn
  simp only [go_sem]
  intro h
  rw [wrap_id (by omega) (by omega)]
  exact ⟨fun h => sz1_of_neg (by omega), fun h => sz1_of_nn (by omega) (by omega)⟩
def ir19 : C := .sq (.rg [.bx 2 (.t 0) (kR 14), .mv 4 (.i 0)]) (.sq (.rg [.fa 5 (.t 2) 14 1 1, .ld 6 (.t 5) (kL kI), .mv 7 (.t 1), .cv (some 8) 68 [((.t 6), .v (kL kI)), ((.t 7), .v kI)], .mv 1 (.t 8)]) (.sq (.sq (.rg [.mv 9 (.t 1), .bi 10 .lss (.t 9) (.i 0)]) (.cd (.t 10) (.sq (.rg [.mv 4 (.i (-1))]) (.rt)) (.skip))) (.sq (.rg [.mv 11 (.t 1), .mv 4 (.t 11)]) (.rt))))
noncomputable def c19 : List SA → Option RA := con2p (kR 14) kI (fun (a : Key) (n : Int) => decide (0 ≤ n) && decide (n ≤ 1048576)) fun (a : Key) (n : Int) => .v kI (sz1 (zKey a : Nat) n)
theorem s19 (a : Key) (n : Int) (hn : (decide (0 ≤ n) && decide (n ≤ 1048576)) = true) : Sp Try.prog 19 [.v (kR 14) a, .v kI n] (.v kI (sz1 (zKey a : Nat) n)) := by
  refine Sp_intro [(68, c68)] ⟨con2p_ok s68, trivial⟩ (N := 12) (vs := [.t 4 (.v kI)]) (c := ir19) Try.func19 (by kernel_rfl) rfl ?_
  unfold ir19 c68
  simp only [Bool.and_eq_true, decide_eq_true_eq] at hn
  simp only [go_sem]
  refine ⟨by omega, fun h => sz1_of_neg (by have := sz1_neg h; have hz := zKey_f a; omega), fun h => ?_⟩
  obtain ⟨g, e⟩ := sz1_nn h
  rw [e] at h ⊢
  clear e
  exact sz1_of_nn (by have hz := zKey_f a; omega) (by omega)
def ir69 : C := .sq (.rg [.mv 2 (.nl kI)]) (.sq (.rg [.mv 5 (.t 0), .ln 6 false (.t 5), .mk 7 true kI (.t 6), .mv 3 (.t 7)]) (.sq (.sq (.rg [.mv 4 (.i 0)]) (.bk 0 (.lp (.sq (.sq (.rg [.mv 8 (.t 4), .mv 9 (.t 0), .ln 10 false (.t 9), .bi 11 .lss (.t 8) (.t 10)]) (.cd (.t 11) (.skip) (.ex 0))) (.sq (.bk 1 (.rg [.mv 14 (.t 3), .mv 15 (.t 4), .mv 16 (.t 0), .mv 17 (.t 4), .ia 18 (.t 16) (.t 17) kI, .ld 19 (.t 18) kI, .ia 20 (.t 14) (.t 15) kI, .st (.t 20) (.t 19) kI])) (.rg [.mv 12 (.t 4), .bi 13 .add (.t 12) (.i 1), .mv 4 (.t 13)])))))) (.sq (.rg [.mv 21 (.t 3), .mv 2 (.t 21)]) (.rt))))
noncomputable def c69 : List SA → Option RA := con1p (kL kI) (fun (a : List Int) => decide (List.length a ≤ 1048576)) fun (a : List Int) => .v (kL kI) a
theorem s69 (a : List Int) (hn : (decide (List.length a ≤ 1048576)) = true) : Sp Try.prog 69 [.v (kL kI) a] (.v (kL kI) a) := by
  refine Sp_intro [] trivial (N := 22) (vs := [.t 2 (.v (kL kI))]) (c := ir69) Try.func69 (by kernel_rfl) rfl ?_
  unfold ir69
  simp only [Bool.and_eq_true, decide_eq_true_eq] at hn
  have hsz : a.length ≤ 1048576 := by omega
  simp only [go_sem]
  intro _
  refine ⟨by omega, ?_⟩
  refine LP_intro (X := ⟨Try.prog, 22, []⟩) trivial [0, 2, 3, 4] [[7]] (fun i : Nat => ⟨[(0, .v (kL kI) a), (2, .nl kI), (3, .sl [7]), (4, .v kI (i : Int))], [([7], .row true false kI (cpy a i (Ki.z kI)))]⟩) (fun i => i ≤ a.length) (fun i => a.length - i) ⟨0, Nat.zero_le _, ?_⟩ (fun i hi => ?_)
  · simp only [go_sem, ← cpy_zero]; rfl
  simp only [go_sem, cpy_len]
  intro _
  refine ⟨fun hlt => ⟨hlt, hlt, hlt, ⟨i + 1, hlt, by dsimp only; omega, ?_⟩⟩, fun hge => cpy_all a _ hge⟩
  simp only [go_sem]
  rw [wrap_nat (by omega), cpy_set a _ _ hlt]
def ir21 : C := .sq (.rg [.bx 1 (.t 0) (kR 14), .al 2 (kR 14)]) (.sq (.rg [.al 3 (kR 14)]) (.sq (.rg [.fa 4 (.t 1) 14 0 0, .ld 5 (.t 4) kI, .fa 6 (.t 3) 14 0 0, .st (.t 6) (.t 5) kI]) (.sq (.rg [.fa 7 (.t 1) 14 1 1, .ld 8 (.t 7) (kL kI), .cv (some 9) 69 [((.t 8), .v (kL kI))], .fa 10 (.t 3) 14 1 1, .st (.t 10) (.t 9) (kL kI)]) (.sq (.rg [.ld 11 (.t 3) (kR 14), .st (.t 2) (.t 11) (kR 14)]) (.rt)))))
noncomputable def c21 : List SA → Option RA := con1p (kR 14) (fun (a : Key) => decide (zKey a ≤ 1048576)) fun (a : Key) => .v (kR 14) a
theorem s21 (a : Key) (hn : (decide (zKey a ≤ 1048576)) = true) : Sp Try.prog 21 [.v (kR 14) a] (.v (kR 14) a) := by
  refine Sp_intro [(69, c69)] ⟨con1p_ok s69, trivial⟩ (N := 12) (vs := [.c 2 (.v (kR 14))]) (c := ir21) Try.func21 (by kernel_rfl) rfl ?_
  unfold ir21 c69
  simp only [Bool.and_eq_true, decide_eq_true_eq] at hn
  have hf := zKey_f a
  have p0 : List.length a.rows ≤ 1048576 := by omega
  simp only [go_sem, p0]
  all_goals omega
def ir71 : C := .sq (.rg [.mv 4 (.b false)]) (.sq (.sq (.rg [.mv 6 (.t 0), .ln 7 false (.t 6), .mv 8 (.t 1), .ln 9 false (.t 8), .bi 10 .neq (.t 7) (.t 9)]) (.cd (.t 10) (.sq (.rg [.mv 4 (.b false)]) (.rt)) (.skip))) (.sq (.sq (.rg [.mv 5 (.i 0)]) (.bk 0 (.lp (.sq (.sq (.rg [.mv 11 (.t 5), .mv 12 (.t 0), .ln 13 false (.t 12), .bi 14 .lss (.t 11) (.t 13)]) (.cd (.t 14) (.skip) (.ex 0))) (.sq (.bk 1 (.sq (.dr [] [.mv 17 (.t 0), .mv 18 (.t 5), .ia 19 (.t 17) (.t 18) kI, .ld 20 (.t 19) kI, .mv 21 (.t 1), .mv 22 (.t 5), .ia 23 (.t 21) (.t 22) kI, .ld 24 (.t 23) kI] [.bi 25 .neq (.t 20) (.t 24)]) (.cd (.t 25) (.sq (.rg [.mv 4 (.b false)]) (.rt)) (.skip)))) (.rg [.mv 15 (.t 5), .bi 16 .add (.t 15) (.i 1), .mv 5 (.t 16)])))))) (.sq (.rg [.mv 4 (.b true)]) (.rt))))
noncomputable def c71 : List SA → Option RA := con2 (kL kI) (kL kI) fun (a b : List Int) => .v .bool (eqb a b)
theorem s71 (a b : List Int) : Sp Try.prog 71 [.v (kL kI) a, .v (kL kI) b] (.v .bool (eqb a b)) := by
  refine Sp_intro [] trivial (N := 26) (vs := [.t 4 (.v .bool)]) (c := ir71) Try.func71 (by kernel_rfl) rfl ?_
  unfold ir71
  simp only [go_sem]
  intro h1 h2
  refine ⟨fun h3 h => h3 (by rw [h]), fun h3 => ?_⟩
  refine LP_intro (X := ⟨Try.prog, 26, []⟩) trivial [0, 1, 4, 5] [] (fun i : Nat => ⟨[(0, .v (kL kI) a), (1, .v (kL kI) b), (4, .v .bool false), (5, .v kI (i : Int))], []⟩) (fun i => i ≤ a.length ∧ ∀ j : Nat, j < i → gt a (j : Int) (Ki.z kI) = gt b (j : Int) (Ki.z kI)) (fun i => a.length - i) ⟨0, ⟨Nat.zero_le _, fun j hj => absurd hj (Nat.not_lt_zero j)⟩, ?_⟩ (fun i hi => ?_)
  · simp only [go_sem]; rfl
  obtain ⟨hi1, hi2⟩ := hi
  simp only [go_sem]
  intro _
  refine ⟨fun hlt => ⟨hlt, by omega, fun hne h => hne (by rw [h]), fun he => ⟨i + 1, ⟨hlt, below_succ hi2 he⟩, by dsimp only; omega, ?_⟩⟩, fun hge => row_eq (by omega) fun j hj => hi2 j (by omega)⟩
  simp only [go_sem]
  rw [wrap_nat (by omega)]
def ir23 : C := .sq (.rg [.bx 2 (.t 0) (kR 14), .bx 3 (.t 1) (kR 14), .mv 4 (.b false)]) (.sq (.sq (.rg [.fa 5 (.t 2) 14 0 0, .ld 6 (.t 5) kI, .fa 7 (.t 3) 14 0 0, .ld 8 (.t 7) kI, .bi 9 .neq (.t 6) (.t 8)]) (.cd (.t 9) (.sq (.rg [.mv 4 (.b false)]) (.rt)) (.skip))) (.sq (.sq (.rg [.fa 10 (.t 2) 14 1 1, .ld 11 (.t 10) (kL kI), .fa 12 (.t 3) 14 1 1, .ld 13 (.t 12) (kL kI), .cv (some 14) 71 [((.t 11), .v (kL kI)), ((.t 13), .v (kL kI))], .un 15 .not (.t 14)]) (.cd (.t 15) (.sq (.rg [.mv 4 (.b false)]) (.rt)) (.skip))) (.sq (.rg [.mv 4 (.b true)]) (.rt))))
noncomputable def c23 : List SA → Option RA := con2 (kR 14) (kR 14) fun (a b : Key) => .v .bool (eqb a b)
theorem s23 (a b : Key) : Sp Try.prog 23 [.v (kR 14) a, .v (kR 14) b] (.v .bool (eqb a b)) := by
  refine Sp_intro [(71, c71)] ⟨con2_ok s71, trivial⟩ (N := 16) (vs := [.t 4 (.v .bool)]) (c := ir23) Try.func23 (by kernel_rfl) rfl ?_
  unfold ir23 c71
  simp only [go_sem, ext_14]
  all_goals simp +contextual
def ir124 : C := .sq (.rg [.mv 4 (.i 0)]) (.sq (.rg [.mv 6 (.t 1), .mv 7 (.t 0), .ln 8 false (.t 7), .bi 9 .sub (.t 6) (.t 8), .mv 1 (.t 9)]) (.sq (.sq (.rg [.mv 10 (.t 1), .bi 11 .lss (.t 10) (.i 0)]) (.cd (.t 11) (.sq (.rg [.mv 4 (.i (-1))]) (.rt)) (.skip))) (.sq (.sq (.rg [.mv 5 (.i 0)]) (.bk 0 (.lp (.sq (.sq (.rg [.mv 12 (.t 5), .mv 13 (.t 0), .ln 14 false (.t 13), .bi 15 .lss (.t 12) (.t 14)]) (.cd (.t 15) (.skip) (.ex 0))) (.sq (.bk 1 (.sq (.rg [.mv 18 (.t 0), .mv 19 (.t 5), .ia 20 (.t 18) (.t 19) (kR 1), .ld 21 (.t 20) (kR 1), .mv 22 (.t 1), .cv (some 23) 149 [((.t 21), .v (kR 1)), ((.t 22), .v kI)], .mv 1 (.t 23)]) (.sq (.rg [.mv 24 (.t 1), .bi 25 .lss (.t 24) (.i 0)]) (.cd (.t 25) (.sq (.rg [.mv 4 (.i (-1))]) (.rt)) (.skip))))) (.rg [.mv 16 (.t 5), .bi 17 .add (.t 16) (.i 1), .mv 5 (.t 17)])))))) (.sq (.rg [.mv 26 (.t 1), .mv 4 (.t 26)]) (.rt)))))
noncomputable def c124 : List SA → Option RA := con2p (kL (kR 1)) kI (fun (a : List Val) (n : Int) => decide (0 ≤ n) && decide (n ≤ 1048576)) fun (a : List Val) (n : Int) => .v kI (sz1 (szL zVal a : Nat) n)
def ir149 : C := .sq (.rg [.bx 2 (.t 0) (kR 1), .mv 4 (.i 0)]) (.sq (.rg [.fa 5 (.t 2) 1 2 2, .ld 6 (.t 5) (kL kS), .mv 7 (.t 1), .cv (some 8) 14 [((.t 6), .v (kL kS)), ((.t 7), .v kI)], .mv 1 (.t 8)]) (.sq (.sq (.rg [.mv 9 (.t 1), .bi 10 .lss (.t 9) (.i 0)]) (.cd (.t 10) (.sq (.rg [.mv 4 (.i (-1))]) (.rt)) (.skip))) (.sq (.rg [.fa 11 (.t 2) 1 3 3, .ld 12 (.t 11) (kL (kR 1)), .mv 13 (.t 1), .cv (some 14) 124 [((.t 12), .v (kL (kR 1))), ((.t 13), .v kI)], .mv 1 (.t 14)]) (.sq (.sq (.rg [.mv 15 (.t 1), .bi 16 .lss (.t 15) (.i 0)]) (.cd (.t 16) (.sq (.rg [.mv 4 (.i (-1))]) (.rt)) (.skip))) (.sq (.rg [.mv 17 (.t 1), .mv 4 (.t 17)]) (.rt))))))
noncomputable def c149 : List SA → Option RA := con2p (kR 1) kI (fun (a : Val) (n : Int) => decide (0 ≤ n) && decide (n ≤ 1048576)) fun (a : Val) (n : Int) => .v kI (sz1 (zVal a : Nat) n)
noncomputable def d124 (m : Nat) : List SA → Option RA := con2p (kL (kR 1)) kI (fun (a : List Val) (n : Int) => decide (4 * (szL zVal a) < m) && (decide (0 ≤ n) && decide (n ≤ 1048576))) fun (a : List Val) (n : Int) => .v kI (sz1 (szL zVal a : Nat) n)
noncomputable def d149 (m : Nat) : List SA → Option RA := con2p (kR 1) kI (fun (a : Val) (n : Int) => decide (4 * (zVal a) + 1 < m) && (decide (0 ≤ n) && decide (n ≤ 1048576))) fun (a : Val) (n : Int) => .v kI (sz1 (zVal a : Nat) n)
theorem grp124_149 : ∀ m : Nat, (∀ (a : List Val) (n : Int), (decide (4 * (szL zVal a) < m) && (decide (0 ≤ n) && decide (n ≤ 1048576))) = true → Sp Try.prog 124 [.v (kL (kR 1)) a, .v kI n] (.v kI (sz1 (szL zVal a : Nat) n))) ∧ (∀ (a : Val) (n : Int), (decide (4 * (zVal a) + 1 < m) && (decide (0 ≤ n) && decide (n ≤ 1048576))) = true → Sp Try.prog 149 [.v (kR 1) a, .v kI n] (.v kI (sz1 (zVal a : Nat) n)))
  | 0 => ⟨fun a n h => by simp at h, fun a n h => by simp at h⟩
  | m + 1 => by
    have ih := grp124_149 m
    refine ⟨fun a n hn => ?_, fun a n hn => ?_⟩
    · refine Sp_intro [(149, d149 m)] ⟨con2p_ok ih.2, trivial⟩ (N := 27) (vs := [.t 4 (.v kI)]) (c := ir124) Try.func124 (by kernel_rfl) rfl ?_
      unfold ir124 d149
      simp only [Bool.and_eq_true, decide_eq_true_eq] at hn
      simp only [go_sem]
      intro h
      rw [wrap_id (by omega) (by omega)]
      refine ⟨fun h => sz1_of_neg (by unfold szL; omega), fun h0 => ?_⟩
      refine LP_intro (X := ⟨Try.prog, 27, [(149, d149 m)]⟩) ⟨con2p_ok ih.2, trivial⟩ [0, 1, 4, 5] [] (fun i : Nat => ⟨[(0, .v (kL (kR 1)) a), (1, .v kI (n - a.length - pfx zVal a i)), (4, .v kI 0), (5, .v kI (i : Int))], []⟩) (fun i => i ≤ a.length ∧ 0 ≤ n - a.length - pfx zVal a i) (fun i => a.length - i) ⟨0, ⟨Nat.zero_le _, by rw [pfx_zero]; omega⟩, ?_⟩ (fun i hi => ?_)
      · simp only [go_sem, pfx_zero, Int.natCast_zero, Int.sub_zero]
      obtain ⟨hi1, hi2⟩ := hi
      simp only [go_sem, d149]
      intro _
      have hsum : szL zVal a = a.length + (a.map zVal).sum := rfl
      refine ⟨fun hlt => ?_, fun hge => ?_⟩
      · have h1 := pfx_succ zVal a hlt (Ki.z (kR 1))
        have h2 := pfx_le zVal a (i + 1)
        have h4 := szL_at zVal a hlt (Ki.z (kR 1))
        refine ⟨hlt, by omega, fun h => sz1_of_neg (by have := sz1_neg h; omega), fun h3 => ?_⟩
        obtain ⟨h5, h6⟩ := sz1_nn h3
        rw [h6] at h3 ⊢
        refine ⟨i + 1, ⟨hlt, by omega⟩, by dsimp only; omega, ?_⟩
        have e : n - (a.length : Int) - (pfx zVal a i : Int) - ((zVal (gt a (i : Int) (Ki.z (kR 1))) : Nat) : Int) = n - (a.length : Int) - (pfx zVal a (i + 1) : Int) := by omega
        simp only [go_sem]
        rw [wrap_nat (by omega), e]
      · have := pfx_all zVal a (i := i) (by omega)
        exact sz1_of_nn (by omega) (by omega)
    · refine Sp_intro [(14, c14), (124, d124 m)] ⟨con2p_ok s14, con2p_ok ih.1, trivial⟩ (N := 18) (vs := [.t 4 (.v kI)]) (c := ir149) Try.func149 (by kernel_rfl) rfl ?_
      unfold ir149 c14 d124
      simp only [Bool.and_eq_true, decide_eq_true_eq] at hn
      have hf := zVal_f a
      have p0 : 4 * (szL zVal a.args) < m := by omega
      simp only [go_sem, p0]
      refine ⟨by omega, fun h => sz1_of_neg (by have := sz1_neg h; have hz := zVal_f a; omega), fun h => ?_⟩
      obtain ⟨g, e⟩ := sz1_nn h
      rw [e] at h ⊢
      clear e
      refine ⟨by omega, fun h => sz1_of_neg (by have := sz1_neg h; have hz := zVal_f a; omega), fun h => ?_⟩
      obtain ⟨g, e⟩ := sz1_nn h
      rw [e] at h ⊢
      clear e
      exact sz1_of_nn (by have hz := zVal_f a; omega) (by omega)
theorem s124 (a : List Val) (n : Int) (hn : (decide (0 ≤ n) && decide (n ≤ 1048576)) = true) : Sp Try.prog 124 [.v (kL (kR 1)) a, .v kI n] (.v kI (sz1 (szL zVal a : Nat) n)) := (grp124_149 (4 * (szL zVal a) + 1)).1 a n (by simp only [Bool.and_eq_true, decide_eq_true_eq] at hn ⊢; omega)
theorem s149 (a : Val) (n : Int) (hn : (decide (0 ≤ n) && decide (n ≤ 1048576)) = true) : Sp Try.prog 149 [.v (kR 1) a, .v kI n] (.v kI (sz1 (zVal a : Nat) n)) := (grp124_149 (4 * (zVal a) + 1 + 1)).2 a n (by simp only [Bool.and_eq_true, decide_eq_true_eq] at hn ⊢; omega)
def ir74 : C := .sq (.rg [.bx 2 (.t 0) (kR 16), .mv 4 (.i 0)]) (.sq (.rg [.fa 5 (.t 2) 16 2 2, .ld 6 (.t 5) (kL (kR 1)), .mv 7 (.t 1), .cv (some 8) 124 [((.t 6), .v (kL (kR 1))), ((.t 7), .v kI)], .mv 1 (.t 8)]) (.sq (.sq (.rg [.mv 9 (.t 1), .bi 10 .lss (.t 9) (.i 0)]) (.cd (.t 10) (.sq (.rg [.mv 4 (.i (-1))]) (.rt)) (.skip))) (.sq (.rg [.mv 11 (.t 1), .mv 4 (.t 11)]) (.rt))))
noncomputable def c74 : List SA → Option RA := con2p (kR 16) kI (fun (a : NRow) (n : Int) => decide (0 ≤ n) && decide (n ≤ 1048576)) fun (a : NRow) (n : Int) => .v kI (sz1 (zNRow a : Nat) n)
theorem s74 (a : NRow) (n : Int) (hn : (decide (0 ≤ n) && decide (n ≤ 1048576)) = true) : Sp Try.prog 74 [.v (kR 16) a, .v kI n] (.v kI (sz1 (zNRow a : Nat) n)) := by
  refine Sp_intro [(124, c124)] ⟨con2p_ok s124, trivial⟩ (N := 12) (vs := [.t 4 (.v kI)]) (c := ir74) Try.func74 (by kernel_rfl) rfl ?_
  unfold ir74 c124
  simp only [Bool.and_eq_true, decide_eq_true_eq] at hn
  simp only [go_sem]
  refine ⟨by omega, fun h => sz1_of_neg (by have := sz1_neg h; have hz := zNRow_f a; omega), fun h => ?_⟩
  obtain ⟨g, e⟩ := sz1_nn h
  rw [e] at h ⊢
  clear e
  exact sz1_of_nn (by have hz := zNRow_f a; omega) (by omega)
def ir26 : C := .sq (.rg [.mv 4 (.i 0)]) (.sq (.rg [.mv 6 (.t 1), .mv 7 (.t 0), .ln 8 false (.t 7), .bi 9 .sub (.t 6) (.t 8), .mv 1 (.t 9)]) (.sq (.sq (.rg [.mv 10 (.t 1), .bi 11 .lss (.t 10) (.i 0)]) (.cd (.t 11) (.sq (.rg [.mv 4 (.i (-1))]) (.rt)) (.skip))) (.sq (.sq (.rg [.mv 5 (.i 0)]) (.bk 0 (.lp (.sq (.sq (.rg [.mv 12 (.t 5), .mv 13 (.t 0), .ln 14 false (.t 13), .bi 15 .lss (.t 12) (.t 14)]) (.cd (.t 15) (.skip) (.ex 0))) (.sq (.bk 1 (.sq (.rg [.mv 18 (.t 0), .mv 19 (.t 5), .ia 20 (.t 18) (.t 19) (kR 16), .ld 21 (.t 20) (kR 16), .mv 22 (.t 1), .cv (some 23) 74 [((.t 21), .v (kR 16)), ((.t 22), .v kI)], .mv 1 (.t 23)]) (.sq (.rg [.mv 24 (.t 1), .bi 25 .lss (.t 24) (.i 0)]) (.cd (.t 25) (.sq (.rg [.mv 4 (.i (-1))]) (.rt)) (.skip))))) (.rg [.mv 16 (.t 5), .bi 17 .add (.t 16) (.i 1), .mv 5 (.t 17)])))))) (.sq (.rg [.mv 26 (.t 1), .mv 4 (.t 26)]) (.rt)))))
noncomputable def c26 : List SA → Option RA := con2p (kL (kR 16)) kI (fun (a : List NRow) (n : Int) => decide (0 ≤ n) && decide (n ≤ 1048576)) fun (a : List NRow) (n : Int) => .v kI (sz1 (szL zNRow a : Nat) n)
theorem s26 (a : List NRow) (n : Int) (hn : (decide (0 ≤ n) && decide (n ≤ 1048576)) = true) : Sp Try.prog 26 [.v (kL (kR 16)) a, .v kI n] (.v kI (sz1 (szL zNRow a : Nat) n)) := by
  refine Sp_intro [(74, c74)] ⟨con2p_ok s74, trivial⟩ (N := 27) (vs := [.t 4 (.v kI)]) (c := ir26) Try.func26 (by kernel_rfl) rfl ?_
  unfold ir26 c74
  simp only [Bool.and_eq_true, decide_eq_true_eq] at hn
  simp only [go_sem]
  intro h
  rw [wrap_id (by omega) (by omega)]
  refine ⟨fun h => sz1_of_neg (by unfold szL; omega), fun h0 => ?_⟩
  refine LP_intro (X := ⟨Try.prog, 27, [(74, c74)]⟩) ⟨con2p_ok s74, trivial⟩ [0, 1, 4, 5] [] (fun i : Nat => ⟨[(0, .v (kL (kR 16)) a), (1, .v kI (n - a.length - pfx zNRow a i)), (4, .v kI 0), (5, .v kI (i : Int))], []⟩) (fun i => i ≤ a.length ∧ 0 ≤ n - a.length - pfx zNRow a i) (fun i => a.length - i) ⟨0, ⟨Nat.zero_le _, by rw [pfx_zero]; omega⟩, ?_⟩ (fun i hi => ?_)
  · simp only [go_sem, pfx_zero, Int.natCast_zero, Int.sub_zero]
  obtain ⟨hi1, hi2⟩ := hi
  simp only [go_sem, c74]
  intro _
  have hsum : szL zNRow a = a.length + (a.map zNRow).sum := rfl
  refine ⟨fun hlt => ?_, fun hge => ?_⟩
  · have h1 := pfx_succ zNRow a hlt (Ki.z (kR 16))
    have h2 := pfx_le zNRow a (i + 1)
    have h4 := szL_at zNRow a hlt (Ki.z (kR 16))
    refine ⟨hlt, by omega, fun h => sz1_of_neg (by have := sz1_neg h; omega), fun h3 => ?_⟩
    obtain ⟨h5, h6⟩ := sz1_nn h3
    rw [h6] at h3 ⊢
    refine ⟨i + 1, ⟨hlt, by omega⟩, by dsimp only; omega, ?_⟩
    have e : n - (a.length : Int) - (pfx zNRow a i : Int) - ((zNRow (gt a (i : Int) (Ki.z (kR 16))) : Nat) : Int) = n - (a.length : Int) - (pfx zNRow a (i + 1) : Int) := by omega
    simp only [go_sem]
    rw [wrap_nat (by omega), e]
  · have := pfx_all zNRow a (i := i) (by omega)
    exact sz1_of_nn (by omega) (by omega)
def ir126 : C := .sq (.rg [.mv 2 (.nl (kR 1))]) (.sq (.rg [.mv 5 (.t 0), .ln 6 false (.t 5), .mk 7 false (kR 1) (.t 6), .mv 3 (.t 7)]) (.sq (.sq (.rg [.mv 4 (.i 0)]) (.bk 0 (.lp (.sq (.sq (.rg [.mv 8 (.t 4), .mv 9 (.t 0), .ln 10 false (.t 9), .bi 11 .lss (.t 8) (.t 10)]) (.cd (.t 11) (.skip) (.ex 0))) (.sq (.bk 1 (.rg [.mv 14 (.t 3), .mv 15 (.t 4), .mv 16 (.t 0), .mv 17 (.t 4), .ia 18 (.t 16) (.t 17) (kR 1), .ld 19 (.t 18) (kR 1), .cv (some 20) 152 [((.t 19), .v (kR 1))], .ia 21 (.t 14) (.t 15) (kR 1), .st (.t 21) (.t 20) (kR 1)])) (.rg [.mv 12 (.t 4), .bi 13 .add (.t 12) (.i 1), .mv 4 (.t 13)])))))) (.sq (.rg [.mv 22 (.t 3), .mv 2 (.t 22)]) (.rt))))
noncomputable def c126 : List SA → Option RA := con1p (kL (kR 1)) (fun (a : List Val) => decide (szL zVal a ≤ 1048576)) fun (a : List Val) => .v (kL (kR 1)) a
def ir152 : C := .sq (.rg [.bx 1 (.t 0) (kR 1), .al 2 (kR 1)]) (.sq (.rg [.al 3 (kR 1)]) (.sq (.rg [.fa 4 (.t 1) 1 0 0, .ld 5 (.t 4) kI, .fa 6 (.t 3) 1 0 0, .st (.t 6) (.t 5) kI]) (.sq (.rg [.fa 7 (.t 1) 1 1 1, .ld 8 (.t 7) kI, .fa 9 (.t 3) 1 1 1, .st (.t 9) (.t 8) kI]) (.sq (.rg [.fa 10 (.t 1) 1 2 2, .ld 11 (.t 10) (kL kS), .cv (some 12) 16 [((.t 11), .v (kL kS))], .fa 13 (.t 3) 1 2 2, .st (.t 13) (.t 12) (kL kS)]) (.sq (.rg [.fa 14 (.t 1) 1 3 3, .ld 15 (.t 14) (kL (kR 1)), .cv (some 16) 126 [((.t 15), .v (kL (kR 1)))], .fa 17 (.t 3) 1 3 3, .st (.t 17) (.t 16) (kL (kR 1))]) (.sq (.rg [.ld 18 (.t 3) (kR 1), .st (.t 2) (.t 18) (kR 1)]) (.rt)))))))
noncomputable def c152 : List SA → Option RA := con1p (kR 1) (fun (a : Val) => decide (zVal a ≤ 1048576)) fun (a : Val) => .v (kR 1) a
noncomputable def d126 (m : Nat) : List SA → Option RA := con1p (kL (kR 1)) (fun (a : List Val) => decide (4 * (szL zVal a) < m) && decide (szL zVal a ≤ 1048576)) fun (a : List Val) => .v (kL (kR 1)) a
noncomputable def d152 (m : Nat) : List SA → Option RA := con1p (kR 1) (fun (a : Val) => decide (4 * (zVal a) + 1 < m) && decide (zVal a ≤ 1048576)) fun (a : Val) => .v (kR 1) a
theorem grp126_152 : ∀ m : Nat, (∀ (a : List Val), (decide (4 * (szL zVal a) < m) && decide (szL zVal a ≤ 1048576)) = true → Sp Try.prog 126 [.v (kL (kR 1)) a] (.v (kL (kR 1)) a)) ∧ (∀ (a : Val), (decide (4 * (zVal a) + 1 < m) && decide (zVal a ≤ 1048576)) = true → Sp Try.prog 152 [.v (kR 1) a] (.v (kR 1) a))
  | 0 => ⟨fun a h => by simp at h, fun a h => by simp at h⟩
  | m + 1 => by
    have ih := grp126_152 m
    refine ⟨fun a hn => ?_, fun a hn => ?_⟩
    · refine Sp_intro [(152, d152 m)] ⟨con1p_ok ih.2, trivial⟩ (N := 23) (vs := [.t 2 (.v (kL (kR 1)))]) (c := ir126) Try.func126 (by kernel_rfl) rfl ?_
      unfold ir126 d152
      simp only [Bool.and_eq_true, decide_eq_true_eq] at hn
      have hsz : a.length ≤ 1048576 := by have : szL zVal a = a.length + (a.map zVal).sum := rfl; omega
      simp only [go_sem]
      intro _
      refine ⟨by omega, ?_⟩
      refine LP_intro (X := ⟨Try.prog, 23, [(152, d152 m)]⟩) ⟨con1p_ok ih.2, trivial⟩ [0, 2, 3, 4] [[7]] (fun i : Nat => ⟨[(0, .v (kL (kR 1)) a), (2, .nl (kR 1)), (3, .sl [7]), (4, .v kI (i : Int))], [([7], .row false false (kR 1) (cpy a i (Ki.z (kR 1))))]⟩) (fun i => i ≤ a.length) (fun i => a.length - i) ⟨0, Nat.zero_le _, ?_⟩ (fun i hi => ?_)
      · simp only [go_sem, ← cpy_zero]; rfl
      simp only [go_sem, cpy_len, d152]
      intro _
      refine ⟨fun hlt => ⟨hlt, (by have := szL_at zVal a hlt (Ki.z (kR 1)); have : szL zVal a ≤ 1048576 := (by omega); omega), hlt, hlt, ⟨i + 1, hlt, by dsimp only; omega, ?_⟩⟩, fun hge => cpy_all a _ hge⟩
      simp only [go_sem]
      rw [wrap_nat (by omega), cpy_set a _ _ hlt]
    · refine Sp_intro [(16, c16), (126, d126 m)] ⟨con1p_ok s16, con1p_ok ih.1, trivial⟩ (N := 19) (vs := [.c 2 (.v (kR 1))]) (c := ir152) Try.func152 (by kernel_rfl) rfl ?_
      unfold ir152 c16 d126
      simp only [Bool.and_eq_true, decide_eq_true_eq] at hn
      have hf := zVal_f a
      have p0 : szL List.length a.labels ≤ 1048576 := by omega
      have p1 : 4 * (szL zVal a.args) < m := by omega
      have p2 : szL zVal a.args ≤ 1048576 := by omega
      simp only [go_sem, p0, p1, p2]
      all_goals omega
theorem s126 (a : List Val) (hn : (decide (szL zVal a ≤ 1048576)) = true) : Sp Try.prog 126 [.v (kL (kR 1)) a] (.v (kL (kR 1)) a) := (grp126_152 (4 * (szL zVal a) + 1)).1 a (by simp only [Bool.and_eq_true, decide_eq_true_eq] at hn ⊢; omega)
theorem s152 (a : Val) (hn : (decide (zVal a ≤ 1048576)) = true) : Sp Try.prog 152 [.v (kR 1) a] (.v (kR 1) a) := (grp126_152 (4 * (zVal a) + 1 + 1)).2 a (by simp only [Bool.and_eq_true, decide_eq_true_eq] at hn ⊢; omega)
def ir76 : C := .sq (.rg [.bx 1 (.t 0) (kR 16), .al 2 (kR 16)]) (.sq (.rg [.al 3 (kR 16)]) (.sq (.rg [.fa 4 (.t 1) 16 0 0, .ld 5 (.t 4) kI, .fa 6 (.t 3) 16 0 0, .st (.t 6) (.t 5) kI]) (.sq (.rg [.fa 7 (.t 1) 16 1 1, .ld 8 (.t 7) kI, .fa 9 (.t 3) 16 1 1, .st (.t 9) (.t 8) kI]) (.sq (.rg [.fa 10 (.t 1) 16 2 2, .ld 11 (.t 10) (kL (kR 1)), .cv (some 12) 126 [((.t 11), .v (kL (kR 1)))], .fa 13 (.t 3) 16 2 2, .st (.t 13) (.t 12) (kL (kR 1))]) (.sq (.rg [.ld 14 (.t 3) (kR 16), .st (.t 2) (.t 14) (kR 16)]) (.rt))))))
noncomputable def c76 : List SA → Option RA := con1p (kR 16) (fun (a : NRow) => decide (zNRow a ≤ 1048576)) fun (a : NRow) => .v (kR 16) a
theorem s76 (a : NRow) (hn : (decide (zNRow a ≤ 1048576)) = true) : Sp Try.prog 76 [.v (kR 16) a] (.v (kR 16) a) := by
  refine Sp_intro [(126, c126)] ⟨con1p_ok s126, trivial⟩ (N := 15) (vs := [.c 2 (.v (kR 16))]) (c := ir76) Try.func76 (by kernel_rfl) rfl ?_
  unfold ir76 c126
  simp only [Bool.and_eq_true, decide_eq_true_eq] at hn
  have hf := zNRow_f a
  have p0 : szL zVal a.cols ≤ 1048576 := by omega
  simp only [go_sem, p0]
  all_goals omega
def ir28 : C := .sq (.rg [.mv 2 (.nl (kR 16))]) (.sq (.rg [.mv 5 (.t 0), .ln 6 false (.t 5), .mk 7 false (kR 16) (.t 6), .mv 3 (.t 7)]) (.sq (.sq (.rg [.mv 4 (.i 0)]) (.bk 0 (.lp (.sq (.sq (.rg [.mv 8 (.t 4), .mv 9 (.t 0), .ln 10 false (.t 9), .bi 11 .lss (.t 8) (.t 10)]) (.cd (.t 11) (.skip) (.ex 0))) (.sq (.bk 1 (.rg [.mv 14 (.t 3), .mv 15 (.t 4), .mv 16 (.t 0), .mv 17 (.t 4), .ia 18 (.t 16) (.t 17) (kR 16), .ld 19 (.t 18) (kR 16), .cv (some 20) 76 [((.t 19), .v (kR 16))], .ia 21 (.t 14) (.t 15) (kR 16), .st (.t 21) (.t 20) (kR 16)])) (.rg [.mv 12 (.t 4), .bi 13 .add (.t 12) (.i 1), .mv 4 (.t 13)])))))) (.sq (.rg [.mv 22 (.t 3), .mv 2 (.t 22)]) (.rt))))
noncomputable def c28 : List SA → Option RA := con1p (kL (kR 16)) (fun (a : List NRow) => decide (szL zNRow a ≤ 1048576)) fun (a : List NRow) => .v (kL (kR 16)) a
theorem s28 (a : List NRow) (hn : (decide (szL zNRow a ≤ 1048576)) = true) : Sp Try.prog 28 [.v (kL (kR 16)) a] (.v (kL (kR 16)) a) := by
  refine Sp_intro [(76, c76)] ⟨con1p_ok s76, trivial⟩ (N := 23) (vs := [.t 2 (.v (kL (kR 16)))]) (c := ir28) Try.func28 (by kernel_rfl) rfl ?_
  unfold ir28 c76
  simp only [Bool.and_eq_true, decide_eq_true_eq] at hn
  have hsz : a.length ≤ 1048576 := by have : szL zNRow a = a.length + (a.map zNRow).sum := rfl; omega
  simp only [go_sem]
  intro _
  refine ⟨by omega, ?_⟩
  refine LP_intro (X := ⟨Try.prog, 23, [(76, c76)]⟩) ⟨con1p_ok s76, trivial⟩ [0, 2, 3, 4] [[7]] (fun i : Nat => ⟨[(0, .v (kL (kR 16)) a), (2, .nl (kR 16)), (3, .sl [7]), (4, .v kI (i : Int))], [([7], .row false false (kR 16) (cpy a i (Ki.z (kR 16))))]⟩) (fun i => i ≤ a.length) (fun i => a.length - i) ⟨0, Nat.zero_le _, ?_⟩ (fun i hi => ?_)
  · simp only [go_sem, ← cpy_zero]; rfl
  simp only [go_sem, cpy_len, c76]
  intro _
  refine ⟨fun hlt => ⟨hlt, (by have := szL_at zNRow a hlt (Ki.z (kR 16)); have : szL zNRow a ≤ 1048576 := (by omega); omega), hlt, hlt, ⟨i + 1, hlt, by dsimp only; omega, ?_⟩⟩, fun hge => cpy_all a _ hge⟩
  simp only [go_sem]
  rw [wrap_nat (by omega), cpy_set a _ _ hlt]
def ir128 : C := .sq (.rg [.mv 4 (.b false)]) (.sq (.sq (.rg [.mv 6 (.t 0), .ln 7 false (.t 6), .mv 8 (.t 1), .ln 9 false (.t 8), .bi 10 .neq (.t 7) (.t 9)]) (.cd (.t 10) (.sq (.rg [.mv 4 (.b false)]) (.rt)) (.skip))) (.sq (.sq (.rg [.mv 5 (.i 0)]) (.bk 0 (.lp (.sq (.sq (.rg [.mv 11 (.t 5), .mv 12 (.t 0), .ln 13 false (.t 12), .bi 14 .lss (.t 11) (.t 13)]) (.cd (.t 14) (.skip) (.ex 0))) (.sq (.bk 1 (.sq (.dr [] [.mv 17 (.t 0), .mv 18 (.t 5), .ia 19 (.t 17) (.t 18) (kR 1), .ld 20 (.t 19) (kR 1), .mv 21 (.t 1), .mv 22 (.t 5), .ia 23 (.t 21) (.t 22) (kR 1), .ld 24 (.t 23) (kR 1)] [.cv (some 25) 156 [((.t 20), .v (kR 1)), ((.t 24), .v (kR 1))], .un 26 .not (.t 25)]) (.cd (.t 26) (.sq (.rg [.mv 4 (.b false)]) (.rt)) (.skip)))) (.rg [.mv 15 (.t 5), .bi 16 .add (.t 15) (.i 1), .mv 5 (.t 16)])))))) (.sq (.rg [.mv 4 (.b true)]) (.rt))))
noncomputable def c128 : List SA → Option RA := con2 (kL (kR 1)) (kL (kR 1)) fun (a b : List Val) => .v .bool (eqb a b)
def ir156 : C := .sq (.rg [.bx 2 (.t 0) (kR 1), .bx 3 (.t 1) (kR 1), .mv 4 (.b false)]) (.sq (.sq (.rg [.fa 5 (.t 2) 1 0 0, .ld 6 (.t 5) kI, .fa 7 (.t 3) 1 0 0, .ld 8 (.t 7) kI, .bi 9 .neq (.t 6) (.t 8)]) (.cd (.t 9) (.sq (.rg [.mv 4 (.b false)]) (.rt)) (.skip))) (.sq (.sq (.rg [.fa 10 (.t 2) 1 1 1, .ld 11 (.t 10) kI, .fa 12 (.t 3) 1 1 1, .ld 13 (.t 12) kI, .bi 14 .neq (.t 11) (.t 13)]) (.cd (.t 14) (.sq (.rg [.mv 4 (.b false)]) (.rt)) (.skip))) (.sq (.sq (.rg [.fa 15 (.t 2) 1 2 2, .ld 16 (.t 15) (kL kS), .fa 17 (.t 3) 1 2 2, .ld 18 (.t 17) (kL kS), .cv (some 19) 18 [((.t 16), .v (kL kS)), ((.t 18), .v (kL kS))], .un 20 .not (.t 19)]) (.cd (.t 20) (.sq (.rg [.mv 4 (.b false)]) (.rt)) (.skip))) (.sq (.sq (.rg [.fa 21 (.t 2) 1 3 3, .ld 22 (.t 21) (kL (kR 1)), .fa 23 (.t 3) 1 3 3, .ld 24 (.t 23) (kL (kR 1)), .cv (some 25) 128 [((.t 22), .v (kL (kR 1))), ((.t 24), .v (kL (kR 1)))], .un 26 .not (.t 25)]) (.cd (.t 26) (.sq (.rg [.mv 4 (.b false)]) (.rt)) (.skip))) (.sq (.rg [.mv 4 (.b true)]) (.rt))))))
noncomputable def c156 : List SA → Option RA := con2 (kR 1) (kR 1) fun (a b : Val) => .v .bool (eqb a b)
noncomputable def d128 (m : Nat) : List SA → Option RA := con2p (kL (kR 1)) (kL (kR 1)) (fun (a b : List Val) => decide (4 * (szL zVal a) < m)) fun (a b : List Val) => .v .bool (eqb a b)
noncomputable def d156 (m : Nat) : List SA → Option RA := con2p (kR 1) (kR 1) (fun (a b : Val) => decide (4 * (zVal a) + 1 < m)) fun (a b : Val) => .v .bool (eqb a b)
theorem grp128_156 : ∀ m : Nat, (∀ (a b : List Val), (decide (4 * (szL zVal a) < m)) = true → Sp Try.prog 128 [.v (kL (kR 1)) a, .v (kL (kR 1)) b] (.v .bool (eqb a b))) ∧ (∀ (a b : Val), (decide (4 * (zVal a) + 1 < m)) = true → Sp Try.prog 156 [.v (kR 1) a, .v (kR 1) b] (.v .bool (eqb a b)))
  | 0 => ⟨fun a b h => by simp at h, fun a b h => by simp at h⟩
  | m + 1 => by
    have ih := grp128_156 m
    refine ⟨fun a b hn => ?_, fun a b hn => ?_⟩
    · refine Sp_intro [(156, d156 m)] ⟨con2p_ok ih.2, trivial⟩ (N := 27) (vs := [.t 4 (.v .bool)]) (c := ir128) Try.func128 (by kernel_rfl) rfl ?_
      unfold ir128 d156
      simp only [Bool.and_eq_true, decide_eq_true_eq] at hn
      simp only [go_sem]
      intro h1 h2
      refine ⟨fun h3 h => h3 (by rw [h]), fun h3 => ?_⟩
      refine LP_intro (X := ⟨Try.prog, 27, [(156, d156 m)]⟩) ⟨con2p_ok ih.2, trivial⟩ [0, 1, 4, 5] [] (fun i : Nat => ⟨[(0, .v (kL (kR 1)) a), (1, .v (kL (kR 1)) b), (4, .v .bool false), (5, .v kI (i : Int))], []⟩) (fun i => i ≤ a.length ∧ ∀ j : Nat, j < i → gt a (j : Int) (Ki.z (kR 1)) = gt b (j : Int) (Ki.z (kR 1))) (fun i => a.length - i) ⟨0, ⟨Nat.zero_le _, fun j hj => absurd hj (Nat.not_lt_zero j)⟩, ?_⟩ (fun i hi => ?_)
      · simp only [go_sem]; rfl
      obtain ⟨hi1, hi2⟩ := hi
      simp only [go_sem, d156]
      intro _
      refine ⟨fun hlt => ⟨hlt, by omega, (by have := szL_at zVal a hlt (Ki.z (kR 1)); omega), fun hne h => hne (by rw [h]), fun he => ⟨i + 1, ⟨hlt, below_succ hi2 he⟩, by dsimp only; omega, ?_⟩⟩, fun hge => row_eq (by omega) fun j hj => hi2 j (by omega)⟩
      simp only [go_sem]
      rw [wrap_nat (by omega)]
    · refine Sp_intro [(18, c18), (128, d128 m)] ⟨con2_ok s18, con2p_ok ih.1, trivial⟩ (N := 27) (vs := [.t 4 (.v .bool)]) (c := ir156) Try.func156 (by kernel_rfl) rfl ?_
      unfold ir156 c18 d128
      simp only [Bool.and_eq_true, decide_eq_true_eq] at hn
      have hf := zVal_f a
      have p0 : 4 * (szL zVal a.args) < m := by omega
      simp only [go_sem, p0, ext_1]
      all_goals simp +contextual
theorem s128 (a b : List Val) : Sp Try.prog 128 [.v (kL (kR 1)) a, .v (kL (kR 1)) b] (.v .bool (eqb a b)) := (grp128_156 (4 * (szL zVal a) + 1)).1 a b (by simp only [Bool.and_eq_true, decide_eq_true_eq]; omega)
theorem s156 (a b : Val) : Sp Try.prog 156 [.v (kR 1) a, .v (kR 1) b] (.v .bool (eqb a b)) := (grp128_156 (4 * (zVal a) + 1 + 1)).2 a b (by simp only [Bool.and_eq_true, decide_eq_true_eq]; omega)
def ir81 : C := .sq (.rg [.bx 2 (.t 0) (kR 16), .bx 3 (.t 1) (kR 16), .mv 4 (.b false)]) (.sq (.sq (.rg [.fa 5 (.t 2) 16 0 0, .ld 6 (.t 5) kI, .fa 7 (.t 3) 16 0 0, .ld 8 (.t 7) kI, .bi 9 .neq (.t 6) (.t 8)]) (.cd (.t 9) (.sq (.rg [.mv 4 (.b false)]) (.rt)) (.skip))) (.sq (.sq (.rg [.fa 10 (.t 2) 16 1 1, .ld 11 (.t 10) kI, .fa 12 (.t 3) 16 1 1, .ld 13 (.t 12) kI, .bi 14 .neq (.t 11) (.t 13)]) (.cd (.t 14) (.sq (.rg [.mv 4 (.b false)]) (.rt)) (.skip))) (.sq (.sq (.rg [.fa 15 (.t 2) 16 2 2, .ld 16 (.t 15) (kL (kR 1)), .fa 17 (.t 3) 16 2 2, .ld 18 (.t 17) (kL (kR 1)), .cv (some 19) 128 [((.t 16), .v (kL (kR 1))), ((.t 18), .v (kL (kR 1)))], .un 20 .not (.t 19)]) (.cd (.t 20) (.sq (.rg [.mv 4 (.b false)]) (.rt)) (.skip))) (.sq (.rg [.mv 4 (.b true)]) (.rt)))))
noncomputable def c81 : List SA → Option RA := con2 (kR 16) (kR 16) fun (a b : NRow) => .v .bool (eqb a b)
theorem s81 (a b : NRow) : Sp Try.prog 81 [.v (kR 16) a, .v (kR 16) b] (.v .bool (eqb a b)) := by
  refine Sp_intro [(128, c128)] ⟨con2_ok s128, trivial⟩ (N := 21) (vs := [.t 4 (.v .bool)]) (c := ir81) Try.func81 (by kernel_rfl) rfl ?_
  unfold ir81 c128
  simp only [go_sem, ext_16]
  all_goals simp +contextual
def ir30 : C := .sq (.rg [.mv 4 (.b false)]) (.sq (.sq (.rg [.mv 6 (.t 0), .ln 7 false (.t 6), .mv 8 (.t 1), .ln 9 false (.t 8), .bi 10 .neq (.t 7) (.t 9)]) (.cd (.t 10) (.sq (.rg [.mv 4 (.b false)]) (.rt)) (.skip))) (.sq (.sq (.rg [.mv 5 (.i 0)]) (.bk 0 (.lp (.sq (.sq (.rg [.mv 11 (.t 5), .mv 12 (.t 0), .ln 13 false (.t 12), .bi 14 .lss (.t 11) (.t 13)]) (.cd (.t 14) (.skip) (.ex 0))) (.sq (.bk 1 (.sq (.dr [] [.mv 17 (.t 0), .mv 18 (.t 5), .ia 19 (.t 17) (.t 18) (kR 16), .ld 20 (.t 19) (kR 16), .mv 21 (.t 1), .mv 22 (.t 5), .ia 23 (.t 21) (.t 22) (kR 16), .ld 24 (.t 23) (kR 16)] [.cv (some 25) 81 [((.t 20), .v (kR 16)), ((.t 24), .v (kR 16))], .un 26 .not (.t 25)]) (.cd (.t 26) (.sq (.rg [.mv 4 (.b false)]) (.rt)) (.skip)))) (.rg [.mv 15 (.t 5), .bi 16 .add (.t 15) (.i 1), .mv 5 (.t 16)])))))) (.sq (.rg [.mv 4 (.b true)]) (.rt))))
noncomputable def c30 : List SA → Option RA := con2 (kL (kR 16)) (kL (kR 16)) fun (a b : List NRow) => .v .bool (eqb a b)
theorem s30 (a b : List NRow) : Sp Try.prog 30 [.v (kL (kR 16)) a, .v (kL (kR 16)) b] (.v .bool (eqb a b)) := by
  refine Sp_intro [(81, c81)] ⟨con2_ok s81, trivial⟩ (N := 27) (vs := [.t 4 (.v .bool)]) (c := ir30) Try.func30 (by kernel_rfl) rfl ?_
  unfold ir30 c81
  simp only [go_sem]
  intro h1 h2
  refine ⟨fun h3 h => h3 (by rw [h]), fun h3 => ?_⟩
  refine LP_intro (X := ⟨Try.prog, 27, [(81, c81)]⟩) ⟨con2_ok s81, trivial⟩ [0, 1, 4, 5] [] (fun i : Nat => ⟨[(0, .v (kL (kR 16)) a), (1, .v (kL (kR 16)) b), (4, .v .bool false), (5, .v kI (i : Int))], []⟩) (fun i => i ≤ a.length ∧ ∀ j : Nat, j < i → gt a (j : Int) (Ki.z (kR 16)) = gt b (j : Int) (Ki.z (kR 16))) (fun i => a.length - i) ⟨0, ⟨Nat.zero_le _, fun j hj => absurd hj (Nat.not_lt_zero j)⟩, ?_⟩ (fun i hi => ?_)
  · simp only [go_sem]; rfl
  obtain ⟨hi1, hi2⟩ := hi
  simp only [go_sem, c81]
  intro _
  refine ⟨fun hlt => ⟨hlt, by omega, fun hne h => hne (by rw [h]), fun he => ⟨i + 1, ⟨hlt, below_succ hi2 he⟩, by dsimp only; omega, ?_⟩⟩, fun hge => row_eq (by omega) fun j hj => hi2 j (by omega)⟩
  simp only [go_sem]
  rw [wrap_nat (by omega)]
def ir83 : C := .sq (.rg [.bx 2 (.t 0) (kR 3), .mv 4 (.i 0)]) (.sq (.rg [.mv 5 (.t 1), .fa 6 (.t 2) 3 0 0, .ld 7 (.t 6) kS, .ln 8 true (.t 7), .bi 9 .sub (.t 5) (.t 8), .mv 1 (.t 9)]) (.sq (.sq (.rg [.mv 10 (.t 1), .bi 11 .lss (.t 10) (.i 0)]) (.cd (.t 11) (.sq (.rg [.mv 4 (.i (-1))]) (.rt)) (.skip))) (.sq (.rg [.mv 12 (.t 1), .fa 13 (.t 2) 3 1 1, .ld 14 (.t 13) kS, .ln 15 true (.t 14), .bi 16 .sub (.t 12) (.t 15), .mv 1 (.t 16)]) (.sq (.sq (.rg [.mv 17 (.t 1), .bi 18 .lss (.t 17) (.i 0)]) (.cd (.t 18) (.sq (.rg [.mv 4 (.i (-1))]) (.rt)) (.skip))) (.sq (.rg [.mv 19 (.t 1), .mv 4 (.t 19)]) (.rt))))))
noncomputable def c83 : List SA → Option RA := con2p (kR 3) kI (fun (a : Gen) (n : Int) => decide (0 ≤ n) && decide (n ≤ 1048576)) fun (a : Gen) (n : Int) => .v kI (sz1 (zGen a : Nat) n)
theorem s83 (a : Gen) (n : Int) (hn : (decide (0 ≤ n) && decide (n ≤ 1048576)) = true) : Sp Try.prog 83 [.v (kR 3) a, .v kI n] (.v kI (sz1 (zGen a : Nat) n)) := by
  refine Sp_intro [] trivial (N := 20) (vs := [.t 4 (.v kI)]) (c := ir83) Try.func83 (by kernel_rfl) rfl ?_
  unfold ir83
  simp only [Bool.and_eq_true, decide_eq_true_eq] at hn
  simp only [go_sem]
  intro hl
  rw [wrap_id (by omega) (by omega)]
  refine ⟨fun h => sz1_of_neg (by have hz := zGen_f a; omega), fun g => ?_⟩
  intro hl
  rw [wrap_id (by omega) (by omega)]
  refine ⟨fun h => sz1_of_neg (by have hz := zGen_f a; omega), fun g => ?_⟩
  exact sz1_of_nn (by have hz := zGen_f a; omega) (by omega)
def ir32 : C := .sq (.rg [.mv 4 (.i 0)]) (.sq (.rg [.mv 6 (.t 1), .mv 7 (.t 0), .ln 8 false (.t 7), .bi 9 .sub (.t 6) (.t 8), .mv 1 (.t 9)]) (.sq (.sq (.rg [.mv 10 (.t 1), .bi 11 .lss (.t 10) (.i 0)]) (.cd (.t 11) (.sq (.rg [.mv 4 (.i (-1))]) (.rt)) (.skip))) (.sq (.sq (.rg [.mv 5 (.i 0)]) (.bk 0 (.lp (.sq (.sq (.rg [.mv 12 (.t 5), .mv 13 (.t 0), .ln 14 false (.t 13), .bi 15 .lss (.t 12) (.t 14)]) (.cd (.t 15) (.skip) (.ex 0))) (.sq (.bk 1 (.sq (.rg [.mv 18 (.t 0), .mv 19 (.t 5), .ia 20 (.t 18) (.t 19) (kR 3), .ld 21 (.t 20) (kR 3), .mv 22 (.t 1), .cv (some 23) 83 [((.t 21), .v (kR 3)), ((.t 22), .v kI)], .mv 1 (.t 23)]) (.sq (.rg [.mv 24 (.t 1), .bi 25 .lss (.t 24) (.i 0)]) (.cd (.t 25) (.sq (.rg [.mv 4 (.i (-1))]) (.rt)) (.skip))))) (.rg [.mv 16 (.t 5), .bi 17 .add (.t 16) (.i 1), .mv 5 (.t 17)])))))) (.sq (.rg [.mv 26 (.t 1), .mv 4 (.t 26)]) (.rt)))))
noncomputable def c32 : List SA → Option RA := con2p (kL (kR 3)) kI (fun (a : List Gen) (n : Int) => decide (0 ≤ n) && decide (n ≤ 1048576)) fun (a : List Gen) (n : Int) => .v kI (sz1 (szL zGen a : Nat) n)
theorem s32 (a : List Gen) (n : Int) (hn : (decide (0 ≤ n) && decide (n ≤ 1048576)) = true) : Sp Try.prog 32 [.v (kL (kR 3)) a, .v kI n] (.v kI (sz1 (szL zGen a : Nat) n)) := by
  refine Sp_intro [(83, c83)] ⟨con2p_ok s83, trivial⟩ (N := 27) (vs := [.t 4 (.v kI)]) (c := ir32) Try.func32 (by kernel_rfl) rfl ?_
  unfold ir32 c83
  simp only [Bool.and_eq_true, decide_eq_true_eq] at hn
  simp only [go_sem]
  intro h
  rw [wrap_id (by omega) (by omega)]
  refine ⟨fun h => sz1_of_neg (by unfold szL; omega), fun h0 => ?_⟩
  refine LP_intro (X := ⟨Try.prog, 27, [(83, c83)]⟩) ⟨con2p_ok s83, trivial⟩ [0, 1, 4, 5] [] (fun i : Nat => ⟨[(0, .v (kL (kR 3)) a), (1, .v kI (n - a.length - pfx zGen a i)), (4, .v kI 0), (5, .v kI (i : Int))], []⟩) (fun i => i ≤ a.length ∧ 0 ≤ n - a.length - pfx zGen a i) (fun i => a.length - i) ⟨0, ⟨Nat.zero_le _, by rw [pfx_zero]; omega⟩, ?_⟩ (fun i hi => ?_)
  · simp only [go_sem, pfx_zero, Int.natCast_zero, Int.sub_zero]
  obtain ⟨hi1, hi2⟩ := hi
  simp only [go_sem, c83]
  intro _
  have hsum : szL zGen a = a.length + (a.map zGen).sum := rfl
  refine ⟨fun hlt => ?_, fun hge => ?_⟩
  · have h1 := pfx_succ zGen a hlt (Ki.z (kR 3))
    have h2 := pfx_le zGen a (i + 1)
    have h4 := szL_at zGen a hlt (Ki.z (kR 3))
    refine ⟨hlt, by omega, fun h => sz1_of_neg (by have := sz1_neg h; omega), fun h3 => ?_⟩
    obtain ⟨h5, h6⟩ := sz1_nn h3
    rw [h6] at h3 ⊢
    refine ⟨i + 1, ⟨hlt, by omega⟩, by dsimp only; omega, ?_⟩
    have e : n - (a.length : Int) - (pfx zGen a i : Int) - ((zGen (gt a (i : Int) (Ki.z (kR 3))) : Nat) : Int) = n - (a.length : Int) - (pfx zGen a (i + 1) : Int) := by omega
    simp only [go_sem]
    rw [wrap_nat (by omega), e]
  · have := pfx_all zGen a (i := i) (by omega)
    exact sz1_of_nn (by omega) (by omega)
def ir86 : C := .sq (.rg [.bx 1 (.t 0) (kR 3), .al 2 (kR 3)]) (.sq (.rg [.al 3 (kR 3)]) (.sq (.rg [.fa 4 (.t 1) 3 0 0, .ld 5 (.t 4) kS, .fa 6 (.t 3) 3 0 0, .st (.t 6) (.t 5) kS]) (.sq (.rg [.fa 7 (.t 1) 3 1 1, .ld 8 (.t 7) kS, .fa 9 (.t 3) 3 1 1, .st (.t 9) (.t 8) kS]) (.sq (.rg [.ld 10 (.t 3) (kR 3), .st (.t 2) (.t 10) (kR 3)]) (.rt)))))
noncomputable def c86 : List SA → Option RA := con1p (kR 3) (fun (a : Gen) => decide (zGen a ≤ 1048576)) fun (a : Gen) => .v (kR 3) a
theorem s86 (a : Gen) (hn : (decide (zGen a ≤ 1048576)) = true) : Sp Try.prog 86 [.v (kR 3) a] (.v (kR 3) a) := by
  refine Sp_intro [] trivial (N := 11) (vs := [.c 2 (.v (kR 3))]) (c := ir86) Try.func86 (by kernel_rfl) rfl ?_
  unfold ir86
  simp only [Bool.and_eq_true, decide_eq_true_eq] at hn
  simp only [go_sem]
  all_goals omega
def ir35 : C := .sq (.rg [.mv 2 (.nl (kR 3))]) (.sq (.rg [.mv 5 (.t 0), .ln 6 false (.t 5), .mk 7 false (kR 3) (.t 6), .mv 3 (.t 7)]) (.sq (.sq (.rg [.mv 4 (.i 0)]) (.bk 0 (.lp (.sq (.sq (.rg [.mv 8 (.t 4), .mv 9 (.t 0), .ln 10 false (.t 9), .bi 11 .lss (.t 8) (.t 10)]) (.cd (.t 11) (.skip) (.ex 0))) (.sq (.bk 1 (.rg [.mv 14 (.t 3), .mv 15 (.t 4), .mv 16 (.t 0), .mv 17 (.t 4), .ia 18 (.t 16) (.t 17) (kR 3), .ld 19 (.t 18) (kR 3), .cv (some 20) 86 [((.t 19), .v (kR 3))], .ia 21 (.t 14) (.t 15) (kR 3), .st (.t 21) (.t 20) (kR 3)])) (.rg [.mv 12 (.t 4), .bi 13 .add (.t 12) (.i 1), .mv 4 (.t 13)])))))) (.sq (.rg [.mv 22 (.t 3), .mv 2 (.t 22)]) (.rt))))
noncomputable def c35 : List SA → Option RA := con1p (kL (kR 3)) (fun (a : List Gen) => decide (szL zGen a ≤ 1048576)) fun (a : List Gen) => .v (kL (kR 3)) a
theorem s35 (a : List Gen) (hn : (decide (szL zGen a ≤ 1048576)) = true) : Sp Try.prog 35 [.v (kL (kR 3)) a] (.v (kL (kR 3)) a) := by
  refine Sp_intro [(86, c86)] ⟨con1p_ok s86, trivial⟩ (N := 23) (vs := [.t 2 (.v (kL (kR 3)))]) (c := ir35) Try.func35 (by kernel_rfl) rfl ?_
  unfold ir35 c86
  simp only [Bool.and_eq_true, decide_eq_true_eq] at hn
  have hsz : a.length ≤ 1048576 := by have : szL zGen a = a.length + (a.map zGen).sum := rfl; omega
  simp only [go_sem]
  intro _
  refine ⟨by omega, ?_⟩
  refine LP_intro (X := ⟨Try.prog, 23, [(86, c86)]⟩) ⟨con1p_ok s86, trivial⟩ [0, 2, 3, 4] [[7]] (fun i : Nat => ⟨[(0, .v (kL (kR 3)) a), (2, .nl (kR 3)), (3, .sl [7]), (4, .v kI (i : Int))], [([7], .row false false (kR 3) (cpy a i (Ki.z (kR 3))))]⟩) (fun i => i ≤ a.length) (fun i => a.length - i) ⟨0, Nat.zero_le _, ?_⟩ (fun i hi => ?_)
  · simp only [go_sem, ← cpy_zero]; rfl
  simp only [go_sem, cpy_len, c86]
  intro _
  refine ⟨fun hlt => ⟨hlt, (by have := szL_at zGen a hlt (Ki.z (kR 3)); have : szL zGen a ≤ 1048576 := (by omega); omega), hlt, hlt, ⟨i + 1, hlt, by dsimp only; omega, ?_⟩⟩, fun hge => cpy_all a _ hge⟩
  simp only [go_sem]
  rw [wrap_nat (by omega), cpy_set a _ _ hlt]
def ir89 : C := .sq (.rg [.bx 2 (.t 0) (kR 3), .bx 3 (.t 1) (kR 3), .mv 4 (.b false)]) (.sq (.sq (.rg [.fa 5 (.t 2) 3 0 0, .ld 6 (.t 5) kS, .fa 7 (.t 3) 3 0 0, .ld 8 (.t 7) kS, .bi 9 .neq (.t 6) (.t 8)]) (.cd (.t 9) (.sq (.rg [.mv 4 (.b false)]) (.rt)) (.skip))) (.sq (.sq (.rg [.fa 10 (.t 2) 3 1 1, .ld 11 (.t 10) kS, .fa 12 (.t 3) 3 1 1, .ld 13 (.t 12) kS, .bi 14 .neq (.t 11) (.t 13)]) (.cd (.t 14) (.sq (.rg [.mv 4 (.b false)]) (.rt)) (.skip))) (.sq (.rg [.mv 4 (.b true)]) (.rt))))
noncomputable def c89 : List SA → Option RA := con2 (kR 3) (kR 3) fun (a b : Gen) => .v .bool (eqb a b)
theorem s89 (a b : Gen) : Sp Try.prog 89 [.v (kR 3) a, .v (kR 3) b] (.v .bool (eqb a b)) := by
  refine Sp_intro [] trivial (N := 15) (vs := [.t 4 (.v .bool)]) (c := ir89) Try.func89 (by kernel_rfl) rfl ?_
  unfold ir89
  simp only [go_sem, ext_3]
  all_goals simp +contextual
def ir38 : C := .sq (.rg [.mv 4 (.b false)]) (.sq (.sq (.rg [.mv 6 (.t 0), .ln 7 false (.t 6), .mv 8 (.t 1), .ln 9 false (.t 8), .bi 10 .neq (.t 7) (.t 9)]) (.cd (.t 10) (.sq (.rg [.mv 4 (.b false)]) (.rt)) (.skip))) (.sq (.sq (.rg [.mv 5 (.i 0)]) (.bk 0 (.lp (.sq (.sq (.rg [.mv 11 (.t 5), .mv 12 (.t 0), .ln 13 false (.t 12), .bi 14 .lss (.t 11) (.t 13)]) (.cd (.t 14) (.skip) (.ex 0))) (.sq (.bk 1 (.sq (.dr [] [.mv 17 (.t 0), .mv 18 (.t 5), .ia 19 (.t 17) (.t 18) (kR 3), .ld 20 (.t 19) (kR 3), .mv 21 (.t 1), .mv 22 (.t 5), .ia 23 (.t 21) (.t 22) (kR 3), .ld 24 (.t 23) (kR 3)] [.cv (some 25) 89 [((.t 20), .v (kR 3)), ((.t 24), .v (kR 3))], .un 26 .not (.t 25)]) (.cd (.t 26) (.sq (.rg [.mv 4 (.b false)]) (.rt)) (.skip)))) (.rg [.mv 15 (.t 5), .bi 16 .add (.t 15) (.i 1), .mv 5 (.t 16)])))))) (.sq (.rg [.mv 4 (.b true)]) (.rt))))
noncomputable def c38 : List SA → Option RA := con2 (kL (kR 3)) (kL (kR 3)) fun (a b : List Gen) => .v .bool (eqb a b)
theorem s38 (a b : List Gen) : Sp Try.prog 38 [.v (kL (kR 3)) a, .v (kL (kR 3)) b] (.v .bool (eqb a b)) := by
  refine Sp_intro [(89, c89)] ⟨con2_ok s89, trivial⟩ (N := 27) (vs := [.t 4 (.v .bool)]) (c := ir38) Try.func38 (by kernel_rfl) rfl ?_
  unfold ir38 c89
  simp only [go_sem]
  intro h1 h2
  refine ⟨fun h3 h => h3 (by rw [h]), fun h3 => ?_⟩
  refine LP_intro (X := ⟨Try.prog, 27, [(89, c89)]⟩) ⟨con2_ok s89, trivial⟩ [0, 1, 4, 5] [] (fun i : Nat => ⟨[(0, .v (kL (kR 3)) a), (1, .v (kL (kR 3)) b), (4, .v .bool false), (5, .v kI (i : Int))], []⟩) (fun i => i ≤ a.length ∧ ∀ j : Nat, j < i → gt a (j : Int) (Ki.z (kR 3)) = gt b (j : Int) (Ki.z (kR 3))) (fun i => a.length - i) ⟨0, ⟨Nat.zero_le _, fun j hj => absurd hj (Nat.not_lt_zero j)⟩, ?_⟩ (fun i hi => ?_)
  · simp only [go_sem]; rfl
  obtain ⟨hi1, hi2⟩ := hi
  simp only [go_sem, c89]
  intro _
  refine ⟨fun hlt => ⟨hlt, by omega, fun hne h => hne (by rw [h]), fun he => ⟨i + 1, ⟨hlt, below_succ hi2 he⟩, by dsimp only; omega, ?_⟩⟩, fun hge => row_eq (by omega) fun j hj => hi2 j (by omega)⟩
  simp only [go_sem]
  rw [wrap_nat (by omega)]
def ir134 : C := .sq (.rg [.bx 2 (.t 0) (kR 0), .mv 4 (.i 0)]) (.sq (.rg [.fa 5 (.t 2) 0 1 1, .ld 6 (.t 5) (kL kS), .mv 7 (.t 1), .cv (some 8) 14 [((.t 6), .v (kL kS)), ((.t 7), .v kI)], .mv 1 (.t 8)]) (.sq (.sq (.rg [.mv 9 (.t 1), .bi 10 .lss (.t 9) (.i 0)]) (.cd (.t 10) (.sq (.rg [.mv 4 (.i (-1))]) (.rt)) (.skip))) (.sq (.rg [.fa 11 (.t 2) 0 2 2, .ld 12 (.t 11) (kL (kR 0)), .mv 13 (.t 1), .cv (some 14) 158 [((.t 12), .v (kL (kR 0))), ((.t 13), .v kI)], .mv 1 (.t 14)]) (.sq (.sq (.rg [.mv 15 (.t 1), .bi 16 .lss (.t 15) (.i 0)]) (.cd (.t 16) (.sq (.rg [.mv 4 (.i (-1))]) (.rt)) (.skip))) (.sq (.rg [.mv 17 (.t 1), .mv 4 (.t 17)]) (.rt))))))
noncomputable def c134 : List SA → Option RA := con2p (kR 0) kI (fun (a : Ty) (n : Int) => decide (0 ≤ n) && decide (n ≤ 1048576)) fun (a : Ty) (n : Int) => .v kI (sz1 (zTy a : Nat) n)
def ir158 : C := .sq (.rg [.mv 4 (.i 0)]) (.sq (.rg [.mv 6 (.t 1), .mv 7 (.t 0), .ln 8 false (.t 7), .bi 9 .sub (.t 6) (.t 8), .mv 1 (.t 9)]) (.sq (.sq (.rg [.mv 10 (.t 1), .bi 11 .lss (.t 10) (.i 0)]) (.cd (.t 11) (.sq (.rg [.mv 4 (.i (-1))]) (.rt)) (.skip))) (.sq (.sq (.rg [.mv 5 (.i 0)]) (.bk 0 (.lp (.sq (.sq (.rg [.mv 12 (.t 5), .mv 13 (.t 0), .ln 14 false (.t 13), .bi 15 .lss (.t 12) (.t 14)]) (.cd (.t 15) (.skip) (.ex 0))) (.sq (.bk 1 (.sq (.rg [.mv 18 (.t 0), .mv 19 (.t 5), .ia 20 (.t 18) (.t 19) (kR 0), .ld 21 (.t 20) (kR 0), .mv 22 (.t 1), .cv (some 23) 134 [((.t 21), .v (kR 0)), ((.t 22), .v kI)], .mv 1 (.t 23)]) (.sq (.rg [.mv 24 (.t 1), .bi 25 .lss (.t 24) (.i 0)]) (.cd (.t 25) (.sq (.rg [.mv 4 (.i (-1))]) (.rt)) (.skip))))) (.rg [.mv 16 (.t 5), .bi 17 .add (.t 16) (.i 1), .mv 5 (.t 17)])))))) (.sq (.rg [.mv 26 (.t 1), .mv 4 (.t 26)]) (.rt)))))
noncomputable def c158 : List SA → Option RA := con2p (kL (kR 0)) kI (fun (a : List Ty) (n : Int) => decide (0 ≤ n) && decide (n ≤ 1048576)) fun (a : List Ty) (n : Int) => .v kI (sz1 (szL zTy a : Nat) n)
noncomputable def d134 (m : Nat) : List SA → Option RA := con2p (kR 0) kI (fun (a : Ty) (n : Int) => decide (4 * (zTy a) + 1 < m) && (decide (0 ≤ n) && decide (n ≤ 1048576))) fun (a : Ty) (n : Int) => .v kI (sz1 (zTy a : Nat) n)
noncomputable def d158 (m : Nat) : List SA → Option RA := con2p (kL (kR 0)) kI (fun (a : List Ty) (n : Int) => decide (4 * (szL zTy a) < m) && (decide (0 ≤ n) && decide (n ≤ 1048576))) fun (a : List Ty) (n : Int) => .v kI (sz1 (szL zTy a : Nat) n)
theorem grp134_158 : ∀ m : Nat, (∀ (a : Ty) (n : Int), (decide (4 * (zTy a) + 1 < m) && (decide (0 ≤ n) && decide (n ≤ 1048576))) = true → Sp Try.prog 134 [.v (kR 0) a, .v kI n] (.v kI (sz1 (zTy a : Nat) n))) ∧ (∀ (a : List Ty) (n : Int), (decide (4 * (szL zTy a) < m) && (decide (0 ≤ n) && decide (n ≤ 1048576))) = true → Sp Try.prog 158 [.v (kL (kR 0)) a, .v kI n] (.v kI (sz1 (szL zTy a : Nat) n)))
  | 0 => ⟨fun a n h => by simp at h, fun a n h => by simp at h⟩
  | m + 1 => by
    have ih := grp134_158 m
    refine ⟨fun a n hn => ?_, fun a n hn => ?_⟩
    · refine Sp_intro [(14, c14), (158, d158 m)] ⟨con2p_ok s14, con2p_ok ih.2, trivial⟩ (N := 18) (vs := [.t 4 (.v kI)]) (c := ir134) Try.func134 (by kernel_rfl) rfl ?_
      unfold ir134 c14 d158
      simp only [Bool.and_eq_true, decide_eq_true_eq] at hn
      have hf := zTy_f a
      have p0 : 4 * (szL zTy a.args) < m := by omega
      simp only [go_sem, p0]
      refine ⟨by omega, fun h => sz1_of_neg (by have := sz1_neg h; have hz := zTy_f a; omega), fun h => ?_⟩
      obtain ⟨g, e⟩ := sz1_nn h
      rw [e] at h ⊢
      clear e
      refine ⟨by omega, fun h => sz1_of_neg (by have := sz1_neg h; have hz := zTy_f a; omega), fun h => ?_⟩
      obtain ⟨g, e⟩ := sz1_nn h
      rw [e] at h ⊢
      clear e
      exact sz1_of_nn (by have hz := zTy_f a; omega) (by omega)
    · refine Sp_intro [(134, d134 m)] ⟨con2p_ok ih.1, trivial⟩ (N := 27) (vs := [.t 4 (.v kI)]) (c := ir158) Try.func158 (by kernel_rfl) rfl ?_
      unfold ir158 d134
      simp only [Bool.and_eq_true, decide_eq_true_eq] at hn
      simp only [go_sem]
      intro h
      rw [wrap_id (by omega) (by omega)]
      refine ⟨fun h => sz1_of_neg (by unfold szL; omega), fun h0 => ?_⟩
      refine LP_intro (X := ⟨Try.prog, 27, [(134, d134 m)]⟩) ⟨con2p_ok ih.1, trivial⟩ [0, 1, 4, 5] [] (fun i : Nat => ⟨[(0, .v (kL (kR 0)) a), (1, .v kI (n - a.length - pfx zTy a i)), (4, .v kI 0), (5, .v kI (i : Int))], []⟩) (fun i => i ≤ a.length ∧ 0 ≤ n - a.length - pfx zTy a i) (fun i => a.length - i) ⟨0, ⟨Nat.zero_le _, by rw [pfx_zero]; omega⟩, ?_⟩ (fun i hi => ?_)
      · simp only [go_sem, pfx_zero, Int.natCast_zero, Int.sub_zero]
      obtain ⟨hi1, hi2⟩ := hi
      simp only [go_sem, d134]
      intro _
      have hsum : szL zTy a = a.length + (a.map zTy).sum := rfl
      refine ⟨fun hlt => ?_, fun hge => ?_⟩
      · have h1 := pfx_succ zTy a hlt (Ki.z (kR 0))
        have h2 := pfx_le zTy a (i + 1)
        have h4 := szL_at zTy a hlt (Ki.z (kR 0))
        refine ⟨hlt, by omega, fun h => sz1_of_neg (by have := sz1_neg h; omega), fun h3 => ?_⟩
        obtain ⟨h5, h6⟩ := sz1_nn h3
        rw [h6] at h3 ⊢
        refine ⟨i + 1, ⟨hlt, by omega⟩, by dsimp only; omega, ?_⟩
        have e : n - (a.length : Int) - (pfx zTy a i : Int) - ((zTy (gt a (i : Int) (Ki.z (kR 0))) : Nat) : Int) = n - (a.length : Int) - (pfx zTy a (i + 1) : Int) := by omega
        simp only [go_sem]
        rw [wrap_nat (by omega), e]
      · have := pfx_all zTy a (i := i) (by omega)
        exact sz1_of_nn (by omega) (by omega)
theorem s134 (a : Ty) (n : Int) (hn : (decide (0 ≤ n) && decide (n ≤ 1048576)) = true) : Sp Try.prog 134 [.v (kR 0) a, .v kI n] (.v kI (sz1 (zTy a : Nat) n)) := (grp134_158 (4 * (zTy a) + 1 + 1)).1 a n (by simp only [Bool.and_eq_true, decide_eq_true_eq] at hn ⊢; omega)
theorem s158 (a : List Ty) (n : Int) (hn : (decide (0 ≤ n) && decide (n ≤ 1048576)) = true) : Sp Try.prog 158 [.v (kL (kR 0)) a, .v kI n] (.v kI (sz1 (szL zTy a : Nat) n)) := (grp134_158 (4 * (szL zTy a) + 1)).2 a n (by simp only [Bool.and_eq_true, decide_eq_true_eq] at hn ⊢; omega)
def ir90 : C := .sq (.rg [.bx 2 (.t 0) (kR 2), .mv 4 (.i 0)]) (.sq (.rg [.mv 5 (.t 1), .fa 6 (.t 2) 2 1 1, .ld 7 (.t 6) kS, .ln 8 true (.t 7), .bi 9 .sub (.t 5) (.t 8), .mv 1 (.t 9)]) (.sq (.sq (.rg [.mv 10 (.t 1), .bi 11 .lss (.t 10) (.i 0)]) (.cd (.t 11) (.sq (.rg [.mv 4 (.i (-1))]) (.rt)) (.skip))) (.sq (.rg [.fa 12 (.t 2) 2 3 3, .ld 13 (.t 12) (kR 0), .mv 14 (.t 1), .cv (some 15) 134 [((.t 13), .v (kR 0)), ((.t 14), .v kI)], .mv 1 (.t 15)]) (.sq (.sq (.rg [.mv 16 (.t 1), .bi 17 .lss (.t 16) (.i 0)]) (.cd (.t 17) (.sq (.rg [.mv 4 (.i (-1))]) (.rt)) (.skip))) (.sq (.rg [.fa 18 (.t 2) 2 4 6, .ld 19 (.t 18) (kL kS), .mv 20 (.t 1), .cv (some 21) 14 [((.t 19), .v (kL kS)), ((.t 20), .v kI)], .mv 1 (.t 21)]) (.sq (.sq (.rg [.mv 22 (.t 1), .bi 23 .lss (.t 22) (.i 0)]) (.cd (.t 23) (.sq (.rg [.mv 4 (.i (-1))]) (.rt)) (.skip))) (.sq (.rg [.fa 24 (.t 2) 2 5 7, .ld 25 (.t 24) (kL (kR 2)), .mv 26 (.t 1), .cv (some 27) 91 [((.t 25), .v (kL (kR 2))), ((.t 26), .v kI)], .mv 1 (.t 27)]) (.sq (.sq (.rg [.mv 28 (.t 1), .bi 29 .lss (.t 28) (.i 0)]) (.cd (.t 29) (.sq (.rg [.mv 4 (.i (-1))]) (.rt)) (.skip))) (.sq (.rg [.mv 30 (.t 1), .mv 4 (.t 30)]) (.rt))))))))))
noncomputable def c90 : List SA → Option RA := con2p (kR 2) kI (fun (a : Tm) (n : Int) => decide (0 ≤ n) && decide (n ≤ 1048576)) fun (a : Tm) (n : Int) => .v kI (sz1 (zTm a : Nat) n)
def ir91 : C := .sq (.rg [.mv 4 (.i 0)]) (.sq (.rg [.mv 6 (.t 1), .mv 7 (.t 0), .ln 8 false (.t 7), .bi 9 .sub (.t 6) (.t 8), .mv 1 (.t 9)]) (.sq (.sq (.rg [.mv 10 (.t 1), .bi 11 .lss (.t 10) (.i 0)]) (.cd (.t 11) (.sq (.rg [.mv 4 (.i (-1))]) (.rt)) (.skip))) (.sq (.sq (.rg [.mv 5 (.i 0)]) (.bk 0 (.lp (.sq (.sq (.rg [.mv 12 (.t 5), .mv 13 (.t 0), .ln 14 false (.t 13), .bi 15 .lss (.t 12) (.t 14)]) (.cd (.t 15) (.skip) (.ex 0))) (.sq (.bk 1 (.sq (.rg [.mv 18 (.t 0), .mv 19 (.t 5), .ia 20 (.t 18) (.t 19) (kR 2), .ld 21 (.t 20) (kR 2), .mv 22 (.t 1), .cv (some 23) 90 [((.t 21), .v (kR 2)), ((.t 22), .v kI)], .mv 1 (.t 23)]) (.sq (.rg [.mv 24 (.t 1), .bi 25 .lss (.t 24) (.i 0)]) (.cd (.t 25) (.sq (.rg [.mv 4 (.i (-1))]) (.rt)) (.skip))))) (.rg [.mv 16 (.t 5), .bi 17 .add (.t 16) (.i 1), .mv 5 (.t 17)])))))) (.sq (.rg [.mv 26 (.t 1), .mv 4 (.t 26)]) (.rt)))))
noncomputable def c91 : List SA → Option RA := con2p (kL (kR 2)) kI (fun (a : List Tm) (n : Int) => decide (0 ≤ n) && decide (n ≤ 1048576)) fun (a : List Tm) (n : Int) => .v kI (sz1 (szL zTm a : Nat) n)
noncomputable def d90 (m : Nat) : List SA → Option RA := con2p (kR 2) kI (fun (a : Tm) (n : Int) => decide (4 * (zTm a) + 1 < m) && (decide (0 ≤ n) && decide (n ≤ 1048576))) fun (a : Tm) (n : Int) => .v kI (sz1 (zTm a : Nat) n)
noncomputable def d91 (m : Nat) : List SA → Option RA := con2p (kL (kR 2)) kI (fun (a : List Tm) (n : Int) => decide (4 * (szL zTm a) < m) && (decide (0 ≤ n) && decide (n ≤ 1048576))) fun (a : List Tm) (n : Int) => .v kI (sz1 (szL zTm a : Nat) n)
theorem grp90_91 : ∀ m : Nat, (∀ (a : Tm) (n : Int), (decide (4 * (zTm a) + 1 < m) && (decide (0 ≤ n) && decide (n ≤ 1048576))) = true → Sp Try.prog 90 [.v (kR 2) a, .v kI n] (.v kI (sz1 (zTm a : Nat) n))) ∧ (∀ (a : List Tm) (n : Int), (decide (4 * (szL zTm a) < m) && (decide (0 ≤ n) && decide (n ≤ 1048576))) = true → Sp Try.prog 91 [.v (kL (kR 2)) a, .v kI n] (.v kI (sz1 (szL zTm a : Nat) n)))
  | 0 => ⟨fun a n h => by simp at h, fun a n h => by simp at h⟩
  | m + 1 => by
    have ih := grp90_91 m
    refine ⟨fun a n hn => ?_, fun a n hn => ?_⟩
    · refine Sp_intro [(134, c134), (14, c14), (91, d91 m)] ⟨con2p_ok s134, con2p_ok s14, con2p_ok ih.2, trivial⟩ (N := 31) (vs := [.t 4 (.v kI)]) (c := ir90) Try.func90 (by kernel_rfl) rfl ?_
      unfold ir90 c134 c14 d91
      simp only [Bool.and_eq_true, decide_eq_true_eq] at hn
      have hf := zTm_f a
      have p0 : 4 * (szL zTm a.args) < m := by omega
      simp only [go_sem, p0]
      intro hl
      rw [wrap_id (by omega) (by omega)]
      refine ⟨fun h => sz1_of_neg (by have hz := zTm_f a; omega), fun g => ?_⟩
      refine ⟨by omega, fun h => sz1_of_neg (by have := sz1_neg h; have hz := zTm_f a; omega), fun h => ?_⟩
      obtain ⟨g, e⟩ := sz1_nn h
      rw [e] at h ⊢
      clear e
      refine ⟨by omega, fun h => sz1_of_neg (by have := sz1_neg h; have hz := zTm_f a; omega), fun h => ?_⟩
      obtain ⟨g, e⟩ := sz1_nn h
      rw [e] at h ⊢
      clear e
      refine ⟨by omega, fun h => sz1_of_neg (by have := sz1_neg h; have hz := zTm_f a; omega), fun h => ?_⟩
      obtain ⟨g, e⟩ := sz1_nn h
      rw [e] at h ⊢
      clear e
      exact sz1_of_nn (by have hz := zTm_f a; omega) (by omega)
    · refine Sp_intro [(90, d90 m)] ⟨con2p_ok ih.1, trivial⟩ (N := 27) (vs := [.t 4 (.v kI)]) (c := ir91) Try.func91 (by kernel_rfl) rfl ?_
      unfold ir91 d90
      simp only [Bool.and_eq_true, decide_eq_true_eq] at hn
      simp only [go_sem]
      intro h
      rw [wrap_id (by omega) (by omega)]
      refine ⟨fun h => sz1_of_neg (by unfold szL; omega), fun h0 => ?_⟩
      refine LP_intro (X := ⟨Try.prog, 27, [(90, d90 m)]⟩) ⟨con2p_ok ih.1, trivial⟩ [0, 1, 4, 5] [] (fun i : Nat => ⟨[(0, .v (kL (kR 2)) a), (1, .v kI (n - a.length - pfx zTm a i)), (4, .v kI 0), (5, .v kI (i : Int))], []⟩) (fun i => i ≤ a.length ∧ 0 ≤ n - a.length - pfx zTm a i) (fun i => a.length - i) ⟨0, ⟨Nat.zero_le _, by rw [pfx_zero]; omega⟩, ?_⟩ (fun i hi => ?_)
      · simp only [go_sem, pfx_zero, Int.natCast_zero, Int.sub_zero]
      obtain ⟨hi1, hi2⟩ := hi
      simp only [go_sem, d90]
      intro _
      have hsum : szL zTm a = a.length + (a.map zTm).sum := rfl
      refine ⟨fun hlt => ?_, fun hge => ?_⟩
      · have h1 := pfx_succ zTm a hlt (Ki.z (kR 2))
        have h2 := pfx_le zTm a (i + 1)
        have h4 := szL_at zTm a hlt (Ki.z (kR 2))
        refine ⟨hlt, by omega, fun h => sz1_of_neg (by have := sz1_neg h; omega), fun h3 => ?_⟩
        obtain ⟨h5, h6⟩ := sz1_nn h3
        rw [h6] at h3 ⊢
        refine ⟨i + 1, ⟨hlt, by omega⟩, by dsimp only; omega, ?_⟩
        have e : n - (a.length : Int) - (pfx zTm a i : Int) - ((zTm (gt a (i : Int) (Ki.z (kR 2))) : Nat) : Int) = n - (a.length : Int) - (pfx zTm a (i + 1) : Int) := by omega
        simp only [go_sem]
        rw [wrap_nat (by omega), e]
      · have := pfx_all zTm a (i := i) (by omega)
        exact sz1_of_nn (by omega) (by omega)
theorem s90 (a : Tm) (n : Int) (hn : (decide (0 ≤ n) && decide (n ≤ 1048576)) = true) : Sp Try.prog 90 [.v (kR 2) a, .v kI n] (.v kI (sz1 (zTm a : Nat) n)) := (grp90_91 (4 * (zTm a) + 1 + 1)).1 a n (by simp only [Bool.and_eq_true, decide_eq_true_eq] at hn ⊢; omega)
theorem s91 (a : List Tm) (n : Int) (hn : (decide (0 ≤ n) && decide (n ≤ 1048576)) = true) : Sp Try.prog 91 [.v (kL (kR 2)) a, .v kI n] (.v kI (sz1 (szL zTm a : Nat) n)) := (grp90_91 (4 * (szL zTm a) + 1)).2 a n (by simp only [Bool.and_eq_true, decide_eq_true_eq] at hn ⊢; omega)
def ir39 : C := .sq (.rg [.bx 2 (.t 0) (kR 17), .mv 4 (.i 0)]) (.sq (.rg [.mv 5 (.t 1), .fa 6 (.t 2) 17 1 1, .ld 7 (.t 6) kS, .ln 8 true (.t 7), .bi 9 .sub (.t 5) (.t 8), .mv 1 (.t 9)]) (.sq (.sq (.rg [.mv 10 (.t 1), .bi 11 .lss (.t 10) (.i 0)]) (.cd (.t 11) (.sq (.rg [.mv 4 (.i (-1))]) (.rt)) (.skip))) (.sq (.rg [.mv 12 (.t 1), .fa 13 (.t 2) 17 2 2, .ld 14 (.t 13) kS, .ln 15 true (.t 14), .bi 16 .sub (.t 12) (.t 15), .mv 1 (.t 16)]) (.sq (.sq (.rg [.mv 17 (.t 1), .bi 18 .lss (.t 17) (.i 0)]) (.cd (.t 18) (.sq (.rg [.mv 4 (.i (-1))]) (.rt)) (.skip))) (.sq (.rg [.fa 19 (.t 2) 17 3 3, .ld 20 (.t 19) (kR 2), .mv 21 (.t 1), .cv (some 22) 90 [((.t 20), .v (kR 2)), ((.t 21), .v kI)], .mv 1 (.t 22)]) (.sq (.sq (.rg [.mv 23 (.t 1), .bi 24 .lss (.t 23) (.i 0)]) (.cd (.t 24) (.sq (.rg [.mv 4 (.i (-1))]) (.rt)) (.skip))) (.sq (.rg [.fa 25 (.t 2) 17 4 11, .ld 26 (.t 25) (kL (kR 2)), .mv 27 (.t 1), .cv (some 28) 91 [((.t 26), .v (kL (kR 2))), ((.t 27), .v kI)], .mv 1 (.t 28)]) (.sq (.sq (.rg [.mv 29 (.t 1), .bi 30 .lss (.t 29) (.i 0)]) (.cd (.t 30) (.sq (.rg [.mv 4 (.i (-1))]) (.rt)) (.skip))) (.sq (.rg [.fa 31 (.t 2) 17 5 12, .ld 32 (.t 31) (kL (kR 17)), .mv 33 (.t 1), .cv (some 34) 92 [((.t 32), .v (kL (kR 17))), ((.t 33), .v kI)], .mv 1 (.t 34)]) (.sq (.sq (.rg [.mv 35 (.t 1), .bi 36 .lss (.t 35) (.i 0)]) (.cd (.t 36) (.sq (.rg [.mv 4 (.i (-1))]) (.rt)) (.skip))) (.sq (.rg [.mv 37 (.t 1), .mv 4 (.t 37)]) (.rt))))))))))))
noncomputable def c39 : List SA → Option RA := con2p (kR 17) kI (fun (a : Plan) (n : Int) => decide (0 ≤ n) && decide (n ≤ 1048576)) fun (a : Plan) (n : Int) => .v kI (sz1 (zPlan a : Nat) n)
def ir92 : C := .sq (.rg [.mv 4 (.i 0)]) (.sq (.rg [.mv 6 (.t 1), .mv 7 (.t 0), .ln 8 false (.t 7), .bi 9 .sub (.t 6) (.t 8), .mv 1 (.t 9)]) (.sq (.sq (.rg [.mv 10 (.t 1), .bi 11 .lss (.t 10) (.i 0)]) (.cd (.t 11) (.sq (.rg [.mv 4 (.i (-1))]) (.rt)) (.skip))) (.sq (.sq (.rg [.mv 5 (.i 0)]) (.bk 0 (.lp (.sq (.sq (.rg [.mv 12 (.t 5), .mv 13 (.t 0), .ln 14 false (.t 13), .bi 15 .lss (.t 12) (.t 14)]) (.cd (.t 15) (.skip) (.ex 0))) (.sq (.bk 1 (.sq (.rg [.mv 18 (.t 0), .mv 19 (.t 5), .ia 20 (.t 18) (.t 19) (kR 17), .ld 21 (.t 20) (kR 17), .mv 22 (.t 1), .cv (some 23) 39 [((.t 21), .v (kR 17)), ((.t 22), .v kI)], .mv 1 (.t 23)]) (.sq (.rg [.mv 24 (.t 1), .bi 25 .lss (.t 24) (.i 0)]) (.cd (.t 25) (.sq (.rg [.mv 4 (.i (-1))]) (.rt)) (.skip))))) (.rg [.mv 16 (.t 5), .bi 17 .add (.t 16) (.i 1), .mv 5 (.t 17)])))))) (.sq (.rg [.mv 26 (.t 1), .mv 4 (.t 26)]) (.rt)))))
noncomputable def c92 : List SA → Option RA := con2p (kL (kR 17)) kI (fun (a : List Plan) (n : Int) => decide (0 ≤ n) && decide (n ≤ 1048576)) fun (a : List Plan) (n : Int) => .v kI (sz1 (szL zPlan a : Nat) n)
noncomputable def d39 (m : Nat) : List SA → Option RA := con2p (kR 17) kI (fun (a : Plan) (n : Int) => decide (4 * (zPlan a) + 1 < m) && (decide (0 ≤ n) && decide (n ≤ 1048576))) fun (a : Plan) (n : Int) => .v kI (sz1 (zPlan a : Nat) n)
noncomputable def d92 (m : Nat) : List SA → Option RA := con2p (kL (kR 17)) kI (fun (a : List Plan) (n : Int) => decide (4 * (szL zPlan a) < m) && (decide (0 ≤ n) && decide (n ≤ 1048576))) fun (a : List Plan) (n : Int) => .v kI (sz1 (szL zPlan a : Nat) n)
theorem grp39_92 : ∀ m : Nat, (∀ (a : Plan) (n : Int), (decide (4 * (zPlan a) + 1 < m) && (decide (0 ≤ n) && decide (n ≤ 1048576))) = true → Sp Try.prog 39 [.v (kR 17) a, .v kI n] (.v kI (sz1 (zPlan a : Nat) n))) ∧ (∀ (a : List Plan) (n : Int), (decide (4 * (szL zPlan a) < m) && (decide (0 ≤ n) && decide (n ≤ 1048576))) = true → Sp Try.prog 92 [.v (kL (kR 17)) a, .v kI n] (.v kI (sz1 (szL zPlan a : Nat) n)))
  | 0 => ⟨fun a n h => by simp at h, fun a n h => by simp at h⟩
  | m + 1 => by
    have ih := grp39_92 m
    refine ⟨fun a n hn => ?_, fun a n hn => ?_⟩
    · refine Sp_intro [(90, c90), (91, c91), (92, d92 m)] ⟨con2p_ok s90, con2p_ok s91, con2p_ok ih.2, trivial⟩ (N := 38) (vs := [.t 4 (.v kI)]) (c := ir39) Try.func39 (by kernel_rfl) rfl ?_
      unfold ir39 c90 c91 d92
      simp only [Bool.and_eq_true, decide_eq_true_eq] at hn
      have hf := zPlan_f a
      have p0 : 4 * (szL zPlan a.args) < m := by omega
      simp only [go_sem, p0]
      intro hl
      rw [wrap_id (by omega) (by omega)]
      refine ⟨fun h => sz1_of_neg (by have hz := zPlan_f a; omega), fun g => ?_⟩
      intro hl
      rw [wrap_id (by omega) (by omega)]
      refine ⟨fun h => sz1_of_neg (by have hz := zPlan_f a; omega), fun g => ?_⟩
      refine ⟨by omega, fun h => sz1_of_neg (by have := sz1_neg h; have hz := zPlan_f a; omega), fun h => ?_⟩
      obtain ⟨g, e⟩ := sz1_nn h
      rw [e] at h ⊢
      clear e
      refine ⟨by omega, fun h => sz1_of_neg (by have := sz1_neg h; have hz := zPlan_f a; omega), fun h => ?_⟩
      obtain ⟨g, e⟩ := sz1_nn h
      rw [e] at h ⊢
      clear e
      refine ⟨by omega, fun h => sz1_of_neg (by have := sz1_neg h; have hz := zPlan_f a; omega), fun h => ?_⟩
      obtain ⟨g, e⟩ := sz1_nn h
      rw [e] at h ⊢
      clear e
      exact sz1_of_nn (by have hz := zPlan_f a; omega) (by omega)
    · refine Sp_intro [(39, d39 m)] ⟨con2p_ok ih.1, trivial⟩ (N := 27) (vs := [.t 4 (.v kI)]) (c := ir92) Try.func92 (by kernel_rfl) rfl ?_
      unfold ir92 d39
      simp only [Bool.and_eq_true, decide_eq_true_eq] at hn
      simp only [go_sem]
      intro h
      rw [wrap_id (by omega) (by omega)]
      refine ⟨fun h => sz1_of_neg (by unfold szL; omega), fun h0 => ?_⟩
      refine LP_intro (X := ⟨Try.prog, 27, [(39, d39 m)]⟩) ⟨con2p_ok ih.1, trivial⟩ [0, 1, 4, 5] [] (fun i : Nat => ⟨[(0, .v (kL (kR 17)) a), (1, .v kI (n - a.length - pfx zPlan a i)), (4, .v kI 0), (5, .v kI (i : Int))], []⟩) (fun i => i ≤ a.length ∧ 0 ≤ n - a.length - pfx zPlan a i) (fun i => a.length - i) ⟨0, ⟨Nat.zero_le _, by rw [pfx_zero]; omega⟩, ?_⟩ (fun i hi => ?_)
      · simp only [go_sem, pfx_zero, Int.natCast_zero, Int.sub_zero]
      obtain ⟨hi1, hi2⟩ := hi
      simp only [go_sem, d39]
      intro _
      have hsum : szL zPlan a = a.length + (a.map zPlan).sum := rfl
      refine ⟨fun hlt => ?_, fun hge => ?_⟩
      · have h1 := pfx_succ zPlan a hlt (Ki.z (kR 17))
        have h2 := pfx_le zPlan a (i + 1)
        have h4 := szL_at zPlan a hlt (Ki.z (kR 17))
        refine ⟨hlt, by omega, fun h => sz1_of_neg (by have := sz1_neg h; omega), fun h3 => ?_⟩
        obtain ⟨h5, h6⟩ := sz1_nn h3
        rw [h6] at h3 ⊢
        refine ⟨i + 1, ⟨hlt, by omega⟩, by dsimp only; omega, ?_⟩
        have e : n - (a.length : Int) - (pfx zPlan a i : Int) - ((zPlan (gt a (i : Int) (Ki.z (kR 17))) : Nat) : Int) = n - (a.length : Int) - (pfx zPlan a (i + 1) : Int) := by omega
        simp only [go_sem]
        rw [wrap_nat (by omega), e]
      · have := pfx_all zPlan a (i := i) (by omega)
        exact sz1_of_nn (by omega) (by omega)
theorem s39 (a : Plan) (n : Int) (hn : (decide (0 ≤ n) && decide (n ≤ 1048576)) = true) : Sp Try.prog 39 [.v (kR 17) a, .v kI n] (.v kI (sz1 (zPlan a : Nat) n)) := (grp39_92 (4 * (zPlan a) + 1 + 1)).1 a n (by simp only [Bool.and_eq_true, decide_eq_true_eq] at hn ⊢; omega)
theorem s92 (a : List Plan) (n : Int) (hn : (decide (0 ≤ n) && decide (n ≤ 1048576)) = true) : Sp Try.prog 92 [.v (kL (kR 17)) a, .v kI n] (.v kI (sz1 (szL zPlan a : Nat) n)) := (grp39_92 (4 * (szL zPlan a) + 1)).2 a n (by simp only [Bool.and_eq_true, decide_eq_true_eq] at hn ⊢; omega)
def ir135 : C := .sq (.rg [.bx 1 (.t 0) (kR 0), .al 2 (kR 0)]) (.sq (.rg [.al 3 (kR 0)]) (.sq (.rg [.fa 4 (.t 1) 0 0 0, .ld 5 (.t 4) kI, .fa 6 (.t 3) 0 0 0, .st (.t 6) (.t 5) kI]) (.sq (.rg [.fa 7 (.t 1) 0 1 1, .ld 8 (.t 7) (kL kS), .cv (some 9) 16 [((.t 8), .v (kL kS))], .fa 10 (.t 3) 0 1 1, .st (.t 10) (.t 9) (kL kS)]) (.sq (.rg [.fa 11 (.t 1) 0 2 2, .ld 12 (.t 11) (kL (kR 0)), .cv (some 13) 159 [((.t 12), .v (kL (kR 0)))], .fa 14 (.t 3) 0 2 2, .st (.t 14) (.t 13) (kL (kR 0))]) (.sq (.rg [.ld 15 (.t 3) (kR 0), .st (.t 2) (.t 15) (kR 0)]) (.rt))))))
noncomputable def c135 : List SA → Option RA := con1p (kR 0) (fun (a : Ty) => decide (zTy a ≤ 1048576)) fun (a : Ty) => .v (kR 0) a
def ir159 : C := .sq (.rg [.mv 2 (.nl (kR 0))]) (.sq (.rg [.mv 5 (.t 0), .ln 6 false (.t 5), .mk 7 false (kR 0) (.t 6), .mv 3 (.t 7)]) (.sq (.sq (.rg [.mv 4 (.i 0)]) (.bk 0 (.lp (.sq (.sq (.rg [.mv 8 (.t 4), .mv 9 (.t 0), .ln 10 false (.t 9), .bi 11 .lss (.t 8) (.t 10)]) (.cd (.t 11) (.skip) (.ex 0))) (.sq (.bk 1 (.rg [.mv 14 (.t 3), .mv 15 (.t 4), .mv 16 (.t 0), .mv 17 (.t 4), .ia 18 (.t 16) (.t 17) (kR 0), .ld 19 (.t 18) (kR 0), .cv (some 20) 135 [((.t 19), .v (kR 0))], .ia 21 (.t 14) (.t 15) (kR 0), .st (.t 21) (.t 20) (kR 0)])) (.rg [.mv 12 (.t 4), .bi 13 .add (.t 12) (.i 1), .mv 4 (.t 13)])))))) (.sq (.rg [.mv 22 (.t 3), .mv 2 (.t 22)]) (.rt))))
noncomputable def c159 : List SA → Option RA := con1p (kL (kR 0)) (fun (a : List Ty) => decide (szL zTy a ≤ 1048576)) fun (a : List Ty) => .v (kL (kR 0)) a
noncomputable def d135 (m : Nat) : List SA → Option RA := con1p (kR 0) (fun (a : Ty) => decide (4 * (zTy a) + 1 < m) && decide (zTy a ≤ 1048576)) fun (a : Ty) => .v (kR 0) a
noncomputable def d159 (m : Nat) : List SA → Option RA := con1p (kL (kR 0)) (fun (a : List Ty) => decide (4 * (szL zTy a) < m) && decide (szL zTy a ≤ 1048576)) fun (a : List Ty) => .v (kL (kR 0)) a
theorem grp135_159 : ∀ m : Nat, (∀ (a : Ty), (decide (4 * (zTy a) + 1 < m) && decide (zTy a ≤ 1048576)) = true → Sp Try.prog 135 [.v (kR 0) a] (.v (kR 0) a)) ∧ (∀ (a : List Ty), (decide (4 * (szL zTy a) < m) && decide (szL zTy a ≤ 1048576)) = true → Sp Try.prog 159 [.v (kL (kR 0)) a] (.v (kL (kR 0)) a))
  | 0 => ⟨fun a h => by simp at h, fun a h => by simp at h⟩
  | m + 1 => by
    have ih := grp135_159 m
    refine ⟨fun a hn => ?_, fun a hn => ?_⟩
    · refine Sp_intro [(16, c16), (159, d159 m)] ⟨con1p_ok s16, con1p_ok ih.2, trivial⟩ (N := 16) (vs := [.c 2 (.v (kR 0))]) (c := ir135) Try.func135 (by kernel_rfl) rfl ?_
      unfold ir135 c16 d159
      simp only [Bool.and_eq_true, decide_eq_true_eq] at hn
      have hf := zTy_f a
      have p0 : szL List.length a.labels ≤ 1048576 := by omega
      have p1 : 4 * (szL zTy a.args) < m := by omega
      have p2 : szL zTy a.args ≤ 1048576 := by omega
      simp only [go_sem, p0, p1, p2]
      all_goals omega
    · refine Sp_intro [(135, d135 m)] ⟨con1p_ok ih.1, trivial⟩ (N := 23) (vs := [.t 2 (.v (kL (kR 0)))]) (c := ir159) Try.func159 (by kernel_rfl) rfl ?_
      unfold ir159 d135
      simp only [Bool.and_eq_true, decide_eq_true_eq] at hn
      have hsz : a.length ≤ 1048576 := by have : szL zTy a = a.length + (a.map zTy).sum := rfl; omega
      simp only [go_sem]
      intro _
      refine ⟨by omega, ?_⟩
      refine LP_intro (X := ⟨Try.prog, 23, [(135, d135 m)]⟩) ⟨con1p_ok ih.1, trivial⟩ [0, 2, 3, 4] [[7]] (fun i : Nat => ⟨[(0, .v (kL (kR 0)) a), (2, .nl (kR 0)), (3, .sl [7]), (4, .v kI (i : Int))], [([7], .row false false (kR 0) (cpy a i (Ki.z (kR 0))))]⟩) (fun i => i ≤ a.length) (fun i => a.length - i) ⟨0, Nat.zero_le _, ?_⟩ (fun i hi => ?_)
      · simp only [go_sem, ← cpy_zero]; rfl
      simp only [go_sem, cpy_len, d135]
      intro _
      refine ⟨fun hlt => ⟨hlt, (by have := szL_at zTy a hlt (Ki.z (kR 0)); have : szL zTy a ≤ 1048576 := (by omega); omega), hlt, hlt, ⟨i + 1, hlt, by dsimp only; omega, ?_⟩⟩, fun hge => cpy_all a _ hge⟩
      simp only [go_sem]
      rw [wrap_nat (by omega), cpy_set a _ _ hlt]
theorem s135 (a : Ty) (hn : (decide (zTy a ≤ 1048576)) = true) : Sp Try.prog 135 [.v (kR 0) a] (.v (kR 0) a) := (grp135_159 (4 * (zTy a) + 1 + 1)).1 a (by simp only [Bool.and_eq_true, decide_eq_true_eq] at hn ⊢; omega)
theorem s159 (a : List Ty) (hn : (decide (szL zTy a ≤ 1048576)) = true) : Sp Try.prog 159 [.v (kL (kR 0)) a] (.v (kL (kR 0)) a) := (grp135_159 (4 * (szL zTy a) + 1)).2 a (by simp only [Bool.and_eq_true, decide_eq_true_eq] at hn ⊢; omega)
def ir94 : C := .sq (.rg [.bx 1 (.t 0) (kR 2), .al 2 (kR 2)]) (.sq (.rg [.al 3 (kR 2)]) (.sq (.rg [.fa 4 (.t 1) 2 0 0, .ld 5 (.t 4) kI, .fa 6 (.t 3) 2 0 0, .st (.t 6) (.t 5) kI]) (.sq (.rg [.fa 7 (.t 1) 2 1 1, .ld 8 (.t 7) kS, .fa 9 (.t 3) 2 1 1, .st (.t 9) (.t 8) kS]) (.sq (.rg [.fa 10 (.t 1) 2 2 2, .ld 11 (.t 10) kI, .fa 12 (.t 3) 2 2 2, .st (.t 12) (.t 11) kI]) (.sq (.rg [.fa 13 (.t 1) 2 3 3, .ld 14 (.t 13) (kR 0), .cv (some 15) 135 [((.t 14), .v (kR 0))], .fa 16 (.t 3) 2 3 3, .st (.t 16) (.t 15) (kR 0)]) (.sq (.rg [.fa 17 (.t 1) 2 4 6, .ld 18 (.t 17) (kL kS), .cv (some 19) 16 [((.t 18), .v (kL kS))], .fa 20 (.t 3) 2 4 6, .st (.t 20) (.t 19) (kL kS)]) (.sq (.rg [.fa 21 (.t 1) 2 5 7, .ld 22 (.t 21) (kL (kR 2)), .cv (some 23) 95 [((.t 22), .v (kL (kR 2)))], .fa 24 (.t 3) 2 5 7, .st (.t 24) (.t 23) (kL (kR 2))]) (.sq (.rg [.ld 25 (.t 3) (kR 2), .st (.t 2) (.t 25) (kR 2)]) (.rt)))))))))
noncomputable def c94 : List SA → Option RA := con1p (kR 2) (fun (a : Tm) => decide (zTm a ≤ 1048576)) fun (a : Tm) => .v (kR 2) a
def ir95 : C := .sq (.rg [.mv 2 (.nl (kR 2))]) (.sq (.rg [.mv 5 (.t 0), .ln 6 false (.t 5), .mk 7 false (kR 2) (.t 6), .mv 3 (.t 7)]) (.sq (.sq (.rg [.mv 4 (.i 0)]) (.bk 0 (.lp (.sq (.sq (.rg [.mv 8 (.t 4), .mv 9 (.t 0), .ln 10 false (.t 9), .bi 11 .lss (.t 8) (.t 10)]) (.cd (.t 11) (.skip) (.ex 0))) (.sq (.bk 1 (.rg [.mv 14 (.t 3), .mv 15 (.t 4), .mv 16 (.t 0), .mv 17 (.t 4), .ia 18 (.t 16) (.t 17) (kR 2), .ld 19 (.t 18) (kR 2), .cv (some 20) 94 [((.t 19), .v (kR 2))], .ia 21 (.t 14) (.t 15) (kR 2), .st (.t 21) (.t 20) (kR 2)])) (.rg [.mv 12 (.t 4), .bi 13 .add (.t 12) (.i 1), .mv 4 (.t 13)])))))) (.sq (.rg [.mv 22 (.t 3), .mv 2 (.t 22)]) (.rt))))
noncomputable def c95 : List SA → Option RA := con1p (kL (kR 2)) (fun (a : List Tm) => decide (szL zTm a ≤ 1048576)) fun (a : List Tm) => .v (kL (kR 2)) a
noncomputable def d94 (m : Nat) : List SA → Option RA := con1p (kR 2) (fun (a : Tm) => decide (4 * (zTm a) + 1 < m) && decide (zTm a ≤ 1048576)) fun (a : Tm) => .v (kR 2) a
noncomputable def d95 (m : Nat) : List SA → Option RA := con1p (kL (kR 2)) (fun (a : List Tm) => decide (4 * (szL zTm a) < m) && decide (szL zTm a ≤ 1048576)) fun (a : List Tm) => .v (kL (kR 2)) a
theorem grp94_95 : ∀ m : Nat, (∀ (a : Tm), (decide (4 * (zTm a) + 1 < m) && decide (zTm a ≤ 1048576)) = true → Sp Try.prog 94 [.v (kR 2) a] (.v (kR 2) a)) ∧ (∀ (a : List Tm), (decide (4 * (szL zTm a) < m) && decide (szL zTm a ≤ 1048576)) = true → Sp Try.prog 95 [.v (kL (kR 2)) a] (.v (kL (kR 2)) a))
  | 0 => ⟨fun a h => by simp at h, fun a h => by simp at h⟩
  | m + 1 => by
    have ih := grp94_95 m
    refine ⟨fun a hn => ?_, fun a hn => ?_⟩
    · refine Sp_intro [(135, c135), (16, c16), (95, d95 m)] ⟨con1p_ok s135, con1p_ok s16, con1p_ok ih.2, trivial⟩ (N := 26) (vs := [.c 2 (.v (kR 2))]) (c := ir94) Try.func94 (by kernel_rfl) rfl ?_
      unfold ir94 c135 c16 d95
      simp only [Bool.and_eq_true, decide_eq_true_eq] at hn
      have hf := zTm_f a
      have p0 : zTy a.type ≤ 1048576 := by omega
      have p1 : szL List.length a.labels ≤ 1048576 := by omega
      have p2 : 4 * (szL zTm a.args) < m := by omega
      have p3 : szL zTm a.args ≤ 1048576 := by omega
      simp only [go_sem, p0, p1, p2, p3]
      all_goals omega
    · refine Sp_intro [(94, d94 m)] ⟨con1p_ok ih.1, trivial⟩ (N := 23) (vs := [.t 2 (.v (kL (kR 2)))]) (c := ir95) Try.func95 (by kernel_rfl) rfl ?_
      unfold ir95 d94
      simp only [Bool.and_eq_true, decide_eq_true_eq] at hn
      have hsz : a.length ≤ 1048576 := by have : szL zTm a = a.length + (a.map zTm).sum := rfl; omega
      simp only [go_sem]
      intro _
      refine ⟨by omega, ?_⟩
      refine LP_intro (X := ⟨Try.prog, 23, [(94, d94 m)]⟩) ⟨con1p_ok ih.1, trivial⟩ [0, 2, 3, 4] [[7]] (fun i : Nat => ⟨[(0, .v (kL (kR 2)) a), (2, .nl (kR 2)), (3, .sl [7]), (4, .v kI (i : Int))], [([7], .row false false (kR 2) (cpy a i (Ki.z (kR 2))))]⟩) (fun i => i ≤ a.length) (fun i => a.length - i) ⟨0, Nat.zero_le _, ?_⟩ (fun i hi => ?_)
      · simp only [go_sem, ← cpy_zero]; rfl
      simp only [go_sem, cpy_len, d94]
      intro _
      refine ⟨fun hlt => ⟨hlt, (by have := szL_at zTm a hlt (Ki.z (kR 2)); have : szL zTm a ≤ 1048576 := (by omega); omega), hlt, hlt, ⟨i + 1, hlt, by dsimp only; omega, ?_⟩⟩, fun hge => cpy_all a _ hge⟩
      simp only [go_sem]
      rw [wrap_nat (by omega), cpy_set a _ _ hlt]
theorem s94 (a : Tm) (hn : (decide (zTm a ≤ 1048576)) = true) : Sp Try.prog 94 [.v (kR 2) a] (.v (kR 2) a) := (grp94_95 (4 * (zTm a) + 1 + 1)).1 a (by simp only [Bool.and_eq_true, decide_eq_true_eq] at hn ⊢; omega)
theorem s95 (a : List Tm) (hn : (decide (szL zTm a ≤ 1048576)) = true) : Sp Try.prog 95 [.v (kL (kR 2)) a] (.v (kL (kR 2)) a) := (grp94_95 (4 * (szL zTm a) + 1)).2 a (by simp only [Bool.and_eq_true, decide_eq_true_eq] at hn ⊢; omega)
def ir41 : C := .sq (.rg [.bx 1 (.t 0) (kR 17), .al 2 (kR 17)]) (.sq (.rg [.al 3 (kR 17)]) (.sq (.rg [.fa 4 (.t 1) 17 0 0, .ld 5 (.t 4) kI, .fa 6 (.t 3) 17 0 0, .st (.t 6) (.t 5) kI]) (.sq (.rg [.fa 7 (.t 1) 17 1 1, .ld 8 (.t 7) kS, .fa 9 (.t 3) 17 1 1, .st (.t 9) (.t 8) kS]) (.sq (.rg [.fa 10 (.t 1) 17 2 2, .ld 11 (.t 10) kS, .fa 12 (.t 3) 17 2 2, .st (.t 12) (.t 11) kS]) (.sq (.rg [.fa 13 (.t 1) 17 3 3, .ld 14 (.t 13) (kR 2), .cv (some 15) 94 [((.t 14), .v (kR 2))], .fa 16 (.t 3) 17 3 3, .st (.t 16) (.t 15) (kR 2)]) (.sq (.rg [.fa 17 (.t 1) 17 4 11, .ld 18 (.t 17) (kL (kR 2)), .cv (some 19) 95 [((.t 18), .v (kL (kR 2)))], .fa 20 (.t 3) 17 4 11, .st (.t 20) (.t 19) (kL (kR 2))]) (.sq (.rg [.fa 21 (.t 1) 17 5 12, .ld 22 (.t 21) (kL (kR 17)), .cv (some 23) 96 [((.t 22), .v (kL (kR 17)))], .fa 24 (.t 3) 17 5 12, .st (.t 24) (.t 23) (kL (kR 17))]) (.sq (.rg [.ld 25 (.t 3) (kR 17), .st (.t 2) (.t 25) (kR 17)]) (.rt)))))))))
noncomputable def c41 : List SA → Option RA := con1p (kR 17) (fun (a : Plan) => decide (zPlan a ≤ 1048576)) fun (a : Plan) => .v (kR 17) a
def ir96 : C := .sq (.rg [.mv 2 (.nl (kR 17))]) (.sq (.rg [.mv 5 (.t 0), .ln 6 false (.t 5), .mk 7 false (kR 17) (.t 6), .mv 3 (.t 7)]) (.sq (.sq (.rg [.mv 4 (.i 0)]) (.bk 0 (.lp (.sq (.sq (.rg [.mv 8 (.t 4), .mv 9 (.t 0), .ln 10 false (.t 9), .bi 11 .lss (.t 8) (.t 10)]) (.cd (.t 11) (.skip) (.ex 0))) (.sq (.bk 1 (.rg [.mv 14 (.t 3), .mv 15 (.t 4), .mv 16 (.t 0), .mv 17 (.t 4), .ia 18 (.t 16) (.t 17) (kR 17), .ld 19 (.t 18) (kR 17), .cv (some 20) 41 [((.t 19), .v (kR 17))], .ia 21 (.t 14) (.t 15) (kR 17), .st (.t 21) (.t 20) (kR 17)])) (.rg [.mv 12 (.t 4), .bi 13 .add (.t 12) (.i 1), .mv 4 (.t 13)])))))) (.sq (.rg [.mv 22 (.t 3), .mv 2 (.t 22)]) (.rt))))
noncomputable def c96 : List SA → Option RA := con1p (kL (kR 17)) (fun (a : List Plan) => decide (szL zPlan a ≤ 1048576)) fun (a : List Plan) => .v (kL (kR 17)) a
noncomputable def d41 (m : Nat) : List SA → Option RA := con1p (kR 17) (fun (a : Plan) => decide (4 * (zPlan a) + 1 < m) && decide (zPlan a ≤ 1048576)) fun (a : Plan) => .v (kR 17) a
noncomputable def d96 (m : Nat) : List SA → Option RA := con1p (kL (kR 17)) (fun (a : List Plan) => decide (4 * (szL zPlan a) < m) && decide (szL zPlan a ≤ 1048576)) fun (a : List Plan) => .v (kL (kR 17)) a
theorem grp41_96 : ∀ m : Nat, (∀ (a : Plan), (decide (4 * (zPlan a) + 1 < m) && decide (zPlan a ≤ 1048576)) = true → Sp Try.prog 41 [.v (kR 17) a] (.v (kR 17) a)) ∧ (∀ (a : List Plan), (decide (4 * (szL zPlan a) < m) && decide (szL zPlan a ≤ 1048576)) = true → Sp Try.prog 96 [.v (kL (kR 17)) a] (.v (kL (kR 17)) a))
  | 0 => ⟨fun a h => by simp at h, fun a h => by simp at h⟩
  | m + 1 => by
    have ih := grp41_96 m
    refine ⟨fun a hn => ?_, fun a hn => ?_⟩
    · refine Sp_intro [(94, c94), (95, c95), (96, d96 m)] ⟨con1p_ok s94, con1p_ok s95, con1p_ok ih.2, trivial⟩ (N := 26) (vs := [.c 2 (.v (kR 17))]) (c := ir41) Try.func41 (by kernel_rfl) rfl ?_
      unfold ir41 c94 c95 d96
      simp only [Bool.and_eq_true, decide_eq_true_eq] at hn
      have hf := zPlan_f a
      have p0 : zTm a.cond ≤ 1048576 := by omega
      have p1 : szL zTm a.keys ≤ 1048576 := by omega
      have p2 : 4 * (szL zPlan a.args) < m := by omega
      have p3 : szL zPlan a.args ≤ 1048576 := by omega
      simp only [go_sem, p0, p1, p2, p3]
      all_goals omega
    · refine Sp_intro [(41, d41 m)] ⟨con1p_ok ih.1, trivial⟩ (N := 23) (vs := [.t 2 (.v (kL (kR 17)))]) (c := ir96) Try.func96 (by kernel_rfl) rfl ?_
      unfold ir96 d41
      simp only [Bool.and_eq_true, decide_eq_true_eq] at hn
      have hsz : a.length ≤ 1048576 := by have : szL zPlan a = a.length + (a.map zPlan).sum := rfl; omega
      simp only [go_sem]
      intro _
      refine ⟨by omega, ?_⟩
      refine LP_intro (X := ⟨Try.prog, 23, [(41, d41 m)]⟩) ⟨con1p_ok ih.1, trivial⟩ [0, 2, 3, 4] [[7]] (fun i : Nat => ⟨[(0, .v (kL (kR 17)) a), (2, .nl (kR 17)), (3, .sl [7]), (4, .v kI (i : Int))], [([7], .row false false (kR 17) (cpy a i (Ki.z (kR 17))))]⟩) (fun i => i ≤ a.length) (fun i => a.length - i) ⟨0, Nat.zero_le _, ?_⟩ (fun i hi => ?_)
      · simp only [go_sem, ← cpy_zero]; rfl
      simp only [go_sem, cpy_len, d41]
      intro _
      refine ⟨fun hlt => ⟨hlt, (by have := szL_at zPlan a hlt (Ki.z (kR 17)); have : szL zPlan a ≤ 1048576 := (by omega); omega), hlt, hlt, ⟨i + 1, hlt, by dsimp only; omega, ?_⟩⟩, fun hge => cpy_all a _ hge⟩
      simp only [go_sem]
      rw [wrap_nat (by omega), cpy_set a _ _ hlt]
theorem s41 (a : Plan) (hn : (decide (zPlan a ≤ 1048576)) = true) : Sp Try.prog 41 [.v (kR 17) a] (.v (kR 17) a) := (grp41_96 (4 * (zPlan a) + 1 + 1)).1 a (by simp only [Bool.and_eq_true, decide_eq_true_eq] at hn ⊢; omega)
theorem s96 (a : List Plan) (hn : (decide (szL zPlan a ≤ 1048576)) = true) : Sp Try.prog 96 [.v (kL (kR 17)) a] (.v (kL (kR 17)) a) := (grp41_96 (4 * (szL zPlan a) + 1)).2 a (by simp only [Bool.and_eq_true, decide_eq_true_eq] at hn ⊢; omega)
def ir136 : C := .sq (.rg [.bx 2 (.t 0) (kR 0), .bx 3 (.t 1) (kR 0), .mv 4 (.b false)]) (.sq (.sq (.rg [.fa 5 (.t 2) 0 0 0, .ld 6 (.t 5) kI, .fa 7 (.t 3) 0 0 0, .ld 8 (.t 7) kI, .bi 9 .neq (.t 6) (.t 8)]) (.cd (.t 9) (.sq (.rg [.mv 4 (.b false)]) (.rt)) (.skip))) (.sq (.sq (.rg [.fa 10 (.t 2) 0 1 1, .ld 11 (.t 10) (kL kS), .fa 12 (.t 3) 0 1 1, .ld 13 (.t 12) (kL kS), .cv (some 14) 18 [((.t 11), .v (kL kS)), ((.t 13), .v (kL kS))], .un 15 .not (.t 14)]) (.cd (.t 15) (.sq (.rg [.mv 4 (.b false)]) (.rt)) (.skip))) (.sq (.sq (.rg [.fa 16 (.t 2) 0 2 2, .ld 17 (.t 16) (kL (kR 0)), .fa 18 (.t 3) 0 2 2, .ld 19 (.t 18) (kL (kR 0)), .cv (some 20) 160 [((.t 17), .v (kL (kR 0))), ((.t 19), .v (kL (kR 0)))], .un 21 .not (.t 20)]) (.cd (.t 21) (.sq (.rg [.mv 4 (.b false)]) (.rt)) (.skip))) (.sq (.rg [.mv 4 (.b true)]) (.rt)))))
noncomputable def c136 : List SA → Option RA := con2 (kR 0) (kR 0) fun (a b : Ty) => .v .bool (eqb a b)
def ir160 : C := .sq (.rg [.mv 4 (.b false)]) (.sq (.sq (.rg [.mv 6 (.t 0), .ln 7 false (.t 6), .mv 8 (.t 1), .ln 9 false (.t 8), .bi 10 .neq (.t 7) (.t 9)]) (.cd (.t 10) (.sq (.rg [.mv 4 (.b false)]) (.rt)) (.skip))) (.sq (.sq (.rg [.mv 5 (.i 0)]) (.bk 0 (.lp (.sq (.sq (.rg [.mv 11 (.t 5), .mv 12 (.t 0), .ln 13 false (.t 12), .bi 14 .lss (.t 11) (.t 13)]) (.cd (.t 14) (.skip) (.ex 0))) (.sq (.bk 1 (.sq (.dr [] [.mv 17 (.t 0), .mv 18 (.t 5), .ia 19 (.t 17) (.t 18) (kR 0), .ld 20 (.t 19) (kR 0), .mv 21 (.t 1), .mv 22 (.t 5), .ia 23 (.t 21) (.t 22) (kR 0), .ld 24 (.t 23) (kR 0)] [.cv (some 25) 136 [((.t 20), .v (kR 0)), ((.t 24), .v (kR 0))], .un 26 .not (.t 25)]) (.cd (.t 26) (.sq (.rg [.mv 4 (.b false)]) (.rt)) (.skip)))) (.rg [.mv 15 (.t 5), .bi 16 .add (.t 15) (.i 1), .mv 5 (.t 16)])))))) (.sq (.rg [.mv 4 (.b true)]) (.rt))))
noncomputable def c160 : List SA → Option RA := con2 (kL (kR 0)) (kL (kR 0)) fun (a b : List Ty) => .v .bool (eqb a b)
noncomputable def d136 (m : Nat) : List SA → Option RA := con2p (kR 0) (kR 0) (fun (a b : Ty) => decide (4 * (zTy a) + 1 < m)) fun (a b : Ty) => .v .bool (eqb a b)
noncomputable def d160 (m : Nat) : List SA → Option RA := con2p (kL (kR 0)) (kL (kR 0)) (fun (a b : List Ty) => decide (4 * (szL zTy a) < m)) fun (a b : List Ty) => .v .bool (eqb a b)
theorem grp136_160 : ∀ m : Nat, (∀ (a b : Ty), (decide (4 * (zTy a) + 1 < m)) = true → Sp Try.prog 136 [.v (kR 0) a, .v (kR 0) b] (.v .bool (eqb a b))) ∧ (∀ (a b : List Ty), (decide (4 * (szL zTy a) < m)) = true → Sp Try.prog 160 [.v (kL (kR 0)) a, .v (kL (kR 0)) b] (.v .bool (eqb a b)))
  | 0 => ⟨fun a b h => by simp at h, fun a b h => by simp at h⟩
  | m + 1 => by
    have ih := grp136_160 m
    refine ⟨fun a b hn => ?_, fun a b hn => ?_⟩
    · refine Sp_intro [(18, c18), (160, d160 m)] ⟨con2_ok s18, con2p_ok ih.2, trivial⟩ (N := 22) (vs := [.t 4 (.v .bool)]) (c := ir136) Try.func136 (by kernel_rfl) rfl ?_
      unfold ir136 c18 d160
      simp only [Bool.and_eq_true, decide_eq_true_eq] at hn
      have hf := zTy_f a
      have p0 : 4 * (szL zTy a.args) < m := by omega
      simp only [go_sem, p0, ext_0]
      all_goals simp +contextual
    · refine Sp_intro [(136, d136 m)] ⟨con2p_ok ih.1, trivial⟩ (N := 27) (vs := [.t 4 (.v .bool)]) (c := ir160) Try.func160 (by kernel_rfl) rfl ?_
      unfold ir160 d136
      simp only [Bool.and_eq_true, decide_eq_true_eq] at hn
      simp only [go_sem]
      intro h1 h2
      refine ⟨fun h3 h => h3 (by rw [h]), fun h3 => ?_⟩
      refine LP_intro (X := ⟨Try.prog, 27, [(136, d136 m)]⟩) ⟨con2p_ok ih.1, trivial⟩ [0, 1, 4, 5] [] (fun i : Nat => ⟨[(0, .v (kL (kR 0)) a), (1, .v (kL (kR 0)) b), (4, .v .bool false), (5, .v kI (i : Int))], []⟩) (fun i => i ≤ a.length ∧ ∀ j : Nat, j < i → gt a (j : Int) (Ki.z (kR 0)) = gt b (j : Int) (Ki.z (kR 0))) (fun i => a.length - i) ⟨0, ⟨Nat.zero_le _, fun j hj => absurd hj (Nat.not_lt_zero j)⟩, ?_⟩ (fun i hi => ?_)
      · simp only [go_sem]; rfl
      obtain ⟨hi1, hi2⟩ := hi
      simp only [go_sem, d136]
      intro _
      refine ⟨fun hlt => ⟨hlt, by omega, (by have := szL_at zTy a hlt (Ki.z (kR 0)); omega), fun hne h => hne (by rw [h]), fun he => ⟨i + 1, ⟨hlt, below_succ hi2 he⟩, by dsimp only; omega, ?_⟩⟩, fun hge => row_eq (by omega) fun j hj => hi2 j (by omega)⟩
      simp only [go_sem]
      rw [wrap_nat (by omega)]
theorem s136 (a b : Ty) : Sp Try.prog 136 [.v (kR 0) a, .v (kR 0) b] (.v .bool (eqb a b)) := (grp136_160 (4 * (zTy a) + 1 + 1)).1 a b (by simp only [Bool.and_eq_true, decide_eq_true_eq]; omega)
theorem s160 (a b : List Ty) : Sp Try.prog 160 [.v (kL (kR 0)) a, .v (kL (kR 0)) b] (.v .bool (eqb a b)) := (grp136_160 (4 * (szL zTy a) + 1)).2 a b (by simp only [Bool.and_eq_true, decide_eq_true_eq]; omega)
def ir97 : C := .sq (.rg [.bx 2 (.t 0) (kR 2), .bx 3 (.t 1) (kR 2), .mv 4 (.b false)]) (.sq (.sq (.rg [.fa 5 (.t 2) 2 0 0, .ld 6 (.t 5) kI, .fa 7 (.t 3) 2 0 0, .ld 8 (.t 7) kI, .bi 9 .neq (.t 6) (.t 8)]) (.cd (.t 9) (.sq (.rg [.mv 4 (.b false)]) (.rt)) (.skip))) (.sq (.sq (.rg [.fa 10 (.t 2) 2 1 1, .ld 11 (.t 10) kS, .fa 12 (.t 3) 2 1 1, .ld 13 (.t 12) kS, .bi 14 .neq (.t 11) (.t 13)]) (.cd (.t 14) (.sq (.rg [.mv 4 (.b false)]) (.rt)) (.skip))) (.sq (.sq (.rg [.fa 15 (.t 2) 2 2 2, .ld 16 (.t 15) kI, .fa 17 (.t 3) 2 2 2, .ld 18 (.t 17) kI, .bi 19 .neq (.t 16) (.t 18)]) (.cd (.t 19) (.sq (.rg [.mv 4 (.b false)]) (.rt)) (.skip))) (.sq (.sq (.rg [.fa 20 (.t 2) 2 3 3, .ld 21 (.t 20) (kR 0), .fa 22 (.t 3) 2 3 3, .ld 23 (.t 22) (kR 0), .cv (some 24) 136 [((.t 21), .v (kR 0)), ((.t 23), .v (kR 0))], .un 25 .not (.t 24)]) (.cd (.t 25) (.sq (.rg [.mv 4 (.b false)]) (.rt)) (.skip))) (.sq (.sq (.rg [.fa 26 (.t 2) 2 4 6, .ld 27 (.t 26) (kL kS), .fa 28 (.t 3) 2 4 6, .ld 29 (.t 28) (kL kS), .cv (some 30) 18 [((.t 27), .v (kL kS)), ((.t 29), .v (kL kS))], .un 31 .not (.t 30)]) (.cd (.t 31) (.sq (.rg [.mv 4 (.b false)]) (.rt)) (.skip))) (.sq (.sq (.rg [.fa 32 (.t 2) 2 5 7, .ld 33 (.t 32) (kL (kR 2)), .fa 34 (.t 3) 2 5 7, .ld 35 (.t 34) (kL (kR 2)), .cv (some 36) 98 [((.t 33), .v (kL (kR 2))), ((.t 35), .v (kL (kR 2)))], .un 37 .not (.t 36)]) (.cd (.t 37) (.sq (.rg [.mv 4 (.b false)]) (.rt)) (.skip))) (.sq (.rg [.mv 4 (.b true)]) (.rt))))))))
noncomputable def c97 : List SA → Option RA := con2 (kR 2) (kR 2) fun (a b : Tm) => .v .bool (eqb a b)
def ir98 : C := .sq (.rg [.mv 4 (.b false)]) (.sq (.sq (.rg [.mv 6 (.t 0), .ln 7 false (.t 6), .mv 8 (.t 1), .ln 9 false (.t 8), .bi 10 .neq (.t 7) (.t 9)]) (.cd (.t 10) (.sq (.rg [.mv 4 (.b false)]) (.rt)) (.skip))) (.sq (.sq (.rg [.mv 5 (.i 0)]) (.bk 0 (.lp (.sq (.sq (.rg [.mv 11 (.t 5), .mv 12 (.t 0), .ln 13 false (.t 12), .bi 14 .lss (.t 11) (.t 13)]) (.cd (.t 14) (.skip) (.ex 0))) (.sq (.bk 1 (.sq (.dr [] [.mv 17 (.t 0), .mv 18 (.t 5), .ia 19 (.t 17) (.t 18) (kR 2), .ld 20 (.t 19) (kR 2), .mv 21 (.t 1), .mv 22 (.t 5), .ia 23 (.t 21) (.t 22) (kR 2), .ld 24 (.t 23) (kR 2)] [.cv (some 25) 97 [((.t 20), .v (kR 2)), ((.t 24), .v (kR 2))], .un 26 .not (.t 25)]) (.cd (.t 26) (.sq (.rg [.mv 4 (.b false)]) (.rt)) (.skip)))) (.rg [.mv 15 (.t 5), .bi 16 .add (.t 15) (.i 1), .mv 5 (.t 16)])))))) (.sq (.rg [.mv 4 (.b true)]) (.rt))))
noncomputable def c98 : List SA → Option RA := con2 (kL (kR 2)) (kL (kR 2)) fun (a b : List Tm) => .v .bool (eqb a b)
noncomputable def d97 (m : Nat) : List SA → Option RA := con2p (kR 2) (kR 2) (fun (a b : Tm) => decide (4 * (zTm a) + 1 < m)) fun (a b : Tm) => .v .bool (eqb a b)
noncomputable def d98 (m : Nat) : List SA → Option RA := con2p (kL (kR 2)) (kL (kR 2)) (fun (a b : List Tm) => decide (4 * (szL zTm a) < m)) fun (a b : List Tm) => .v .bool (eqb a b)
theorem grp97_98 : ∀ m : Nat, (∀ (a b : Tm), (decide (4 * (zTm a) + 1 < m)) = true → Sp Try.prog 97 [.v (kR 2) a, .v (kR 2) b] (.v .bool (eqb a b))) ∧ (∀ (a b : List Tm), (decide (4 * (szL zTm a) < m)) = true → Sp Try.prog 98 [.v (kL (kR 2)) a, .v (kL (kR 2)) b] (.v .bool (eqb a b)))
  | 0 => ⟨fun a b h => by simp at h, fun a b h => by simp at h⟩
  | m + 1 => by
    have ih := grp97_98 m
    refine ⟨fun a b hn => ?_, fun a b hn => ?_⟩
    · refine Sp_intro [(136, c136), (18, c18), (98, d98 m)] ⟨con2_ok s136, con2_ok s18, con2p_ok ih.2, trivial⟩ (N := 38) (vs := [.t 4 (.v .bool)]) (c := ir97) Try.func97 (by kernel_rfl) rfl ?_
      unfold ir97 c136 c18 d98
      simp only [Bool.and_eq_true, decide_eq_true_eq] at hn
      have hf := zTm_f a
      have p0 : 4 * (szL zTm a.args) < m := by omega
      simp only [go_sem, p0, ext_2]
      all_goals simp +contextual
    · refine Sp_intro [(97, d97 m)] ⟨con2p_ok ih.1, trivial⟩ (N := 27) (vs := [.t 4 (.v .bool)]) (c := ir98) Try.func98 (by kernel_rfl) rfl ?_
      unfold ir98 d97
      simp only [Bool.and_eq_true, decide_eq_true_eq] at hn
      simp only [go_sem]
      intro h1 h2
      refine ⟨fun h3 h => h3 (by rw [h]), fun h3 => ?_⟩
      refine LP_intro (X := ⟨Try.prog, 27, [(97, d97 m)]⟩) ⟨con2p_ok ih.1, trivial⟩ [0, 1, 4, 5] [] (fun i : Nat => ⟨[(0, .v (kL (kR 2)) a), (1, .v (kL (kR 2)) b), (4, .v .bool false), (5, .v kI (i : Int))], []⟩) (fun i => i ≤ a.length ∧ ∀ j : Nat, j < i → gt a (j : Int) (Ki.z (kR 2)) = gt b (j : Int) (Ki.z (kR 2))) (fun i => a.length - i) ⟨0, ⟨Nat.zero_le _, fun j hj => absurd hj (Nat.not_lt_zero j)⟩, ?_⟩ (fun i hi => ?_)
      · simp only [go_sem]; rfl
      obtain ⟨hi1, hi2⟩ := hi
      simp only [go_sem, d97]
      intro _
      refine ⟨fun hlt => ⟨hlt, by omega, (by have := szL_at zTm a hlt (Ki.z (kR 2)); omega), fun hne h => hne (by rw [h]), fun he => ⟨i + 1, ⟨hlt, below_succ hi2 he⟩, by dsimp only; omega, ?_⟩⟩, fun hge => row_eq (by omega) fun j hj => hi2 j (by omega)⟩
      simp only [go_sem]
      rw [wrap_nat (by omega)]
theorem s97 (a b : Tm) : Sp Try.prog 97 [.v (kR 2) a, .v (kR 2) b] (.v .bool (eqb a b)) := (grp97_98 (4 * (zTm a) + 1 + 1)).1 a b (by simp only [Bool.and_eq_true, decide_eq_true_eq]; omega)
theorem s98 (a b : List Tm) : Sp Try.prog 98 [.v (kL (kR 2)) a, .v (kL (kR 2)) b] (.v .bool (eqb a b)) := (grp97_98 (4 * (szL zTm a) + 1)).2 a b (by simp only [Bool.and_eq_true, decide_eq_true_eq]; omega)
def ir43 : C := .sq (.rg [.bx 2 (.t 0) (kR 17), .bx 3 (.t 1) (kR 17), .mv 4 (.b false)]) (.sq (.sq (.rg [.fa 5 (.t 2) 17 0 0, .ld 6 (.t 5) kI, .fa 7 (.t 3) 17 0 0, .ld 8 (.t 7) kI, .bi 9 .neq (.t 6) (.t 8)]) (.cd (.t 9) (.sq (.rg [.mv 4 (.b false)]) (.rt)) (.skip))) (.sq (.sq (.rg [.fa 10 (.t 2) 17 1 1, .ld 11 (.t 10) kS, .fa 12 (.t 3) 17 1 1, .ld 13 (.t 12) kS, .bi 14 .neq (.t 11) (.t 13)]) (.cd (.t 14) (.sq (.rg [.mv 4 (.b false)]) (.rt)) (.skip))) (.sq (.sq (.rg [.fa 15 (.t 2) 17 2 2, .ld 16 (.t 15) kS, .fa 17 (.t 3) 17 2 2, .ld 18 (.t 17) kS, .bi 19 .neq (.t 16) (.t 18)]) (.cd (.t 19) (.sq (.rg [.mv 4 (.b false)]) (.rt)) (.skip))) (.sq (.sq (.rg [.fa 20 (.t 2) 17 3 3, .ld 21 (.t 20) (kR 2), .fa 22 (.t 3) 17 3 3, .ld 23 (.t 22) (kR 2), .cv (some 24) 97 [((.t 21), .v (kR 2)), ((.t 23), .v (kR 2))], .un 25 .not (.t 24)]) (.cd (.t 25) (.sq (.rg [.mv 4 (.b false)]) (.rt)) (.skip))) (.sq (.sq (.rg [.fa 26 (.t 2) 17 4 11, .ld 27 (.t 26) (kL (kR 2)), .fa 28 (.t 3) 17 4 11, .ld 29 (.t 28) (kL (kR 2)), .cv (some 30) 98 [((.t 27), .v (kL (kR 2))), ((.t 29), .v (kL (kR 2)))], .un 31 .not (.t 30)]) (.cd (.t 31) (.sq (.rg [.mv 4 (.b false)]) (.rt)) (.skip))) (.sq (.sq (.rg [.fa 32 (.t 2) 17 5 12, .ld 33 (.t 32) (kL (kR 17)), .fa 34 (.t 3) 17 5 12, .ld 35 (.t 34) (kL (kR 17)), .cv (some 36) 99 [((.t 33), .v (kL (kR 17))), ((.t 35), .v (kL (kR 17)))], .un 37 .not (.t 36)]) (.cd (.t 37) (.sq (.rg [.mv 4 (.b false)]) (.rt)) (.skip))) (.sq (.rg [.mv 4 (.b true)]) (.rt))))))))
noncomputable def c43 : List SA → Option RA := con2 (kR 17) (kR 17) fun (a b : Plan) => .v .bool (eqb a b)
def ir99 : C := .sq (.rg [.mv 4 (.b false)]) (.sq (.sq (.rg [.mv 6 (.t 0), .ln 7 false (.t 6), .mv 8 (.t 1), .ln 9 false (.t 8), .bi 10 .neq (.t 7) (.t 9)]) (.cd (.t 10) (.sq (.rg [.mv 4 (.b false)]) (.rt)) (.skip))) (.sq (.sq (.rg [.mv 5 (.i 0)]) (.bk 0 (.lp (.sq (.sq (.rg [.mv 11 (.t 5), .mv 12 (.t 0), .ln 13 false (.t 12), .bi 14 .lss (.t 11) (.t 13)]) (.cd (.t 14) (.skip) (.ex 0))) (.sq (.bk 1 (.sq (.dr [] [.mv 17 (.t 0), .mv 18 (.t 5), .ia 19 (.t 17) (.t 18) (kR 17), .ld 20 (.t 19) (kR 17), .mv 21 (.t 1), .mv 22 (.t 5), .ia 23 (.t 21) (.t 22) (kR 17), .ld 24 (.t 23) (kR 17)] [.cv (some 25) 43 [((.t 20), .v (kR 17)), ((.t 24), .v (kR 17))], .un 26 .not (.t 25)]) (.cd (.t 26) (.sq (.rg [.mv 4 (.b false)]) (.rt)) (.skip)))) (.rg [.mv 15 (.t 5), .bi 16 .add (.t 15) (.i 1), .mv 5 (.t 16)])))))) (.sq (.rg [.mv 4 (.b true)]) (.rt))))
noncomputable def c99 : List SA → Option RA := con2 (kL (kR 17)) (kL (kR 17)) fun (a b : List Plan) => .v .bool (eqb a b)
noncomputable def d43 (m : Nat) : List SA → Option RA := con2p (kR 17) (kR 17) (fun (a b : Plan) => decide (4 * (zPlan a) + 1 < m)) fun (a b : Plan) => .v .bool (eqb a b)
noncomputable def d99 (m : Nat) : List SA → Option RA := con2p (kL (kR 17)) (kL (kR 17)) (fun (a b : List Plan) => decide (4 * (szL zPlan a) < m)) fun (a b : List Plan) => .v .bool (eqb a b)
theorem grp43_99 : ∀ m : Nat, (∀ (a b : Plan), (decide (4 * (zPlan a) + 1 < m)) = true → Sp Try.prog 43 [.v (kR 17) a, .v (kR 17) b] (.v .bool (eqb a b))) ∧ (∀ (a b : List Plan), (decide (4 * (szL zPlan a) < m)) = true → Sp Try.prog 99 [.v (kL (kR 17)) a, .v (kL (kR 17)) b] (.v .bool (eqb a b)))
  | 0 => ⟨fun a b h => by simp at h, fun a b h => by simp at h⟩
  | m + 1 => by
    have ih := grp43_99 m
    refine ⟨fun a b hn => ?_, fun a b hn => ?_⟩
    · refine Sp_intro [(97, c97), (98, c98), (99, d99 m)] ⟨con2_ok s97, con2_ok s98, con2p_ok ih.2, trivial⟩ (N := 38) (vs := [.t 4 (.v .bool)]) (c := ir43) Try.func43 (by kernel_rfl) rfl ?_
      unfold ir43 c97 c98 d99
      simp only [Bool.and_eq_true, decide_eq_true_eq] at hn
      have hf := zPlan_f a
      have p0 : 4 * (szL zPlan a.args) < m := by omega
      simp only [go_sem, p0, ext_17]
      all_goals simp +contextual
    · refine Sp_intro [(43, d43 m)] ⟨con2p_ok ih.1, trivial⟩ (N := 27) (vs := [.t 4 (.v .bool)]) (c := ir99) Try.func99 (by kernel_rfl) rfl ?_
      unfold ir99 d43
      simp only [Bool.and_eq_true, decide_eq_true_eq] at hn
      simp only [go_sem]
      intro h1 h2
      refine ⟨fun h3 h => h3 (by rw [h]), fun h3 => ?_⟩
      refine LP_intro (X := ⟨Try.prog, 27, [(43, d43 m)]⟩) ⟨con2p_ok ih.1, trivial⟩ [0, 1, 4, 5] [] (fun i : Nat => ⟨[(0, .v (kL (kR 17)) a), (1, .v (kL (kR 17)) b), (4, .v .bool false), (5, .v kI (i : Int))], []⟩) (fun i => i ≤ a.length ∧ ∀ j : Nat, j < i → gt a (j : Int) (Ki.z (kR 17)) = gt b (j : Int) (Ki.z (kR 17))) (fun i => a.length - i) ⟨0, ⟨Nat.zero_le _, fun j hj => absurd hj (Nat.not_lt_zero j)⟩, ?_⟩ (fun i hi => ?_)
      · simp only [go_sem]; rfl
      obtain ⟨hi1, hi2⟩ := hi
      simp only [go_sem, d43]
      intro _
      refine ⟨fun hlt => ⟨hlt, by omega, (by have := szL_at zPlan a hlt (Ki.z (kR 17)); omega), fun hne h => hne (by rw [h]), fun he => ⟨i + 1, ⟨hlt, below_succ hi2 he⟩, by dsimp only; omega, ?_⟩⟩, fun hge => row_eq (by omega) fun j hj => hi2 j (by omega)⟩
      simp only [go_sem]
      rw [wrap_nat (by omega)]
theorem s43 (a b : Plan) : Sp Try.prog 43 [.v (kR 17) a, .v (kR 17) b] (.v .bool (eqb a b)) := (grp43_99 (4 * (zPlan a) + 1 + 1)).1 a b (by simp only [Bool.and_eq_true, decide_eq_true_eq]; omega)
theorem s99 (a b : List Plan) : Sp Try.prog 99 [.v (kL (kR 17)) a, .v (kL (kR 17)) b] (.v .bool (eqb a b)) := (grp43_99 (4 * (szL zPlan a) + 1)).2 a b (by simp only [Bool.and_eq_true, decide_eq_true_eq]; omega)
def ir104 : C := .sq (.rg [.bx 2 (.t 0) (kR 15), .mv 4 (.i 0)]) (.sq (.rg [.fa 5 (.t 2) 15 0 0, .ld 6 (.t 5) (kR 14), .mv 7 (.t 1), .cv (some 8) 19 [((.t 6), .v (kR 14)), ((.t 7), .v kI)], .mv 1 (.t 8)]) (.sq (.sq (.rg [.mv 9 (.t 1), .bi 10 .lss (.t 9) (.i 0)]) (.cd (.t 10) (.sq (.rg [.mv 4 (.i (-1))]) (.rt)) (.skip))) (.sq (.rg [.fa 11 (.t 2) 15 1 2, .ld 12 (.t 11) (kR 14), .mv 13 (.t 1), .cv (some 14) 19 [((.t 12), .v (kR 14)), ((.t 13), .v kI)], .mv 1 (.t 14)]) (.sq (.sq (.rg [.mv 15 (.t 1), .bi 16 .lss (.t 15) (.i 0)]) (.cd (.t 16) (.sq (.rg [.mv 4 (.i (-1))]) (.rt)) (.skip))) (.sq (.rg [.fa 17 (.t 2) 15 2 4, .ld 18 (.t 17) (kL (kR 1)), .mv 19 (.t 1), .cv (some 20) 124 [((.t 18), .v (kL (kR 1))), ((.t 19), .v kI)], .mv 1 (.t 20)]) (.sq (.sq (.rg [.mv 21 (.t 1), .bi 22 .lss (.t 21) (.i 0)]) (.cd (.t 22) (.sq (.rg [.mv 4 (.i (-1))]) (.rt)) (.skip))) (.sq (.rg [.mv 23 (.t 1), .mv 4 (.t 23)]) (.rt))))))))
noncomputable def c104 : List SA → Option RA := con2p (kR 15) kI (fun (a : FRow) (n : Int) => decide (0 ≤ n) && decide (n ≤ 1048576)) fun (a : FRow) (n : Int) => .v kI (sz1 (zFRow a : Nat) n)
theorem s104 (a : FRow) (n : Int) (hn : (decide (0 ≤ n) && decide (n ≤ 1048576)) = true) : Sp Try.prog 104 [.v (kR 15) a, .v kI n] (.v kI (sz1 (zFRow a : Nat) n)) := by
  refine Sp_intro [(19, c19), (124, c124)] ⟨con2p_ok s19, con2p_ok s124, trivial⟩ (N := 24) (vs := [.t 4 (.v kI)]) (c := ir104) Try.func104 (by kernel_rfl) rfl ?_
  unfold ir104 c19 c124
  simp only [Bool.and_eq_true, decide_eq_true_eq] at hn
  simp only [go_sem]
  refine ⟨by omega, fun h => sz1_of_neg (by have := sz1_neg h; have hz := zFRow_f a; omega), fun h => ?_⟩
  obtain ⟨g, e⟩ := sz1_nn h
  rw [e] at h ⊢
  clear e
  refine ⟨by omega, fun h => sz1_of_neg (by have := sz1_neg h; have hz := zFRow_f a; omega), fun h => ?_⟩
  obtain ⟨g, e⟩ := sz1_nn h
  rw [e] at h ⊢
  clear e
  refine ⟨by omega, fun h => sz1_of_neg (by have := sz1_neg h; have hz := zFRow_f a; omega), fun h => ?_⟩
  obtain ⟨g, e⟩ := sz1_nn h
  rw [e] at h ⊢
  clear e
  exact sz1_of_nn (by have hz := zFRow_f a; omega) (by omega)
def ir46 : C := .sq (.rg [.mv 4 (.i 0)]) (.sq (.rg [.mv 6 (.t 1), .mv 7 (.t 0), .ln 8 false (.t 7), .bi 9 .sub (.t 6) (.t 8), .mv 1 (.t 9)]) (.sq (.sq (.rg [.mv 10 (.t 1), .bi 11 .lss (.t 10) (.i 0)]) (.cd (.t 11) (.sq (.rg [.mv 4 (.i (-1))]) (.rt)) (.skip))) (.sq (.sq (.rg [.mv 5 (.i 0)]) (.bk 0 (.lp (.sq (.sq (.rg [.mv 12 (.t 5), .mv 13 (.t 0), .ln 14 false (.t 13), .bi 15 .lss (.t 12) (.t 14)]) (.cd (.t 15) (.skip) (.ex 0))) (.sq (.bk 1 (.sq (.rg [.mv 18 (.t 0), .mv 19 (.t 5), .ia 20 (.t 18) (.t 19) (kR 15), .ld 21 (.t 20) (kR 15), .mv 22 (.t 1), .cv (some 23) 104 [((.t 21), .v (kR 15)), ((.t 22), .v kI)], .mv 1 (.t 23)]) (.sq (.rg [.mv 24 (.t 1), .bi 25 .lss (.t 24) (.i 0)]) (.cd (.t 25) (.sq (.rg [.mv 4 (.i (-1))]) (.rt)) (.skip))))) (.rg [.mv 16 (.t 5), .bi 17 .add (.t 16) (.i 1), .mv 5 (.t 17)])))))) (.sq (.rg [.mv 26 (.t 1), .mv 4 (.t 26)]) (.rt)))))
noncomputable def c46 : List SA → Option RA := con2p (kL (kR 15)) kI (fun (a : List FRow) (n : Int) => decide (0 ≤ n) && decide (n ≤ 1048576)) fun (a : List FRow) (n : Int) => .v kI (sz1 (szL zFRow a : Nat) n)
theorem s46 (a : List FRow) (n : Int) (hn : (decide (0 ≤ n) && decide (n ≤ 1048576)) = true) : Sp Try.prog 46 [.v (kL (kR 15)) a, .v kI n] (.v kI (sz1 (szL zFRow a : Nat) n)) := by
  refine Sp_intro [(104, c104)] ⟨con2p_ok s104, trivial⟩ (N := 27) (vs := [.t 4 (.v kI)]) (c := ir46) Try.func46 (by kernel_rfl) rfl ?_
  unfold ir46 c104
  simp only [Bool.and_eq_true, decide_eq_true_eq] at hn
  simp only [go_sem]
  intro h
  rw [wrap_id (by omega) (by omega)]
  refine ⟨fun h => sz1_of_neg (by unfold szL; omega), fun h0 => ?_⟩
  refine LP_intro (X := ⟨Try.prog, 27, [(104, c104)]⟩) ⟨con2p_ok s104, trivial⟩ [0, 1, 4, 5] [] (fun i : Nat => ⟨[(0, .v (kL (kR 15)) a), (1, .v kI (n - a.length - pfx zFRow a i)), (4, .v kI 0), (5, .v kI (i : Int))], []⟩) (fun i => i ≤ a.length ∧ 0 ≤ n - a.length - pfx zFRow a i) (fun i => a.length - i) ⟨0, ⟨Nat.zero_le _, by rw [pfx_zero]; omega⟩, ?_⟩ (fun i hi => ?_)
  · simp only [go_sem, pfx_zero, Int.natCast_zero, Int.sub_zero]
  obtain ⟨hi1, hi2⟩ := hi
  simp only [go_sem, c104]
  intro _
  have hsum : szL zFRow a = a.length + (a.map zFRow).sum := rfl
  refine ⟨fun hlt => ?_, fun hge => ?_⟩
  · have h1 := pfx_succ zFRow a hlt (Ki.z (kR 15))
    have h2 := pfx_le zFRow a (i + 1)
    have h4 := szL_at zFRow a hlt (Ki.z (kR 15))
    refine ⟨hlt, by omega, fun h => sz1_of_neg (by have := sz1_neg h; omega), fun h3 => ?_⟩
    obtain ⟨h5, h6⟩ := sz1_nn h3
    rw [h6] at h3 ⊢
    refine ⟨i + 1, ⟨hlt, by omega⟩, by dsimp only; omega, ?_⟩
    have e : n - (a.length : Int) - (pfx zFRow a i : Int) - ((zFRow (gt a (i : Int) (Ki.z (kR 15))) : Nat) : Int) = n - (a.length : Int) - (pfx zFRow a (i + 1) : Int) := by omega
    simp only [go_sem]
    rw [wrap_nat (by omega), e]
  · have := pfx_all zFRow a (i := i) (by omega)
    exact sz1_of_nn (by omega) (by omega)
def ir105 : C := .sq (.rg [.bx 1 (.t 0) (kR 15), .al 2 (kR 15)]) (.sq (.rg [.al 3 (kR 15)]) (.sq (.rg [.fa 4 (.t 1) 15 0 0, .ld 5 (.t 4) (kR 14), .cv (some 6) 21 [((.t 5), .v (kR 14))], .fa 7 (.t 3) 15 0 0, .st (.t 7) (.t 6) (kR 14)]) (.sq (.rg [.fa 8 (.t 1) 15 1 2, .ld 9 (.t 8) (kR 14), .cv (some 10) 21 [((.t 9), .v (kR 14))], .fa 11 (.t 3) 15 1 2, .st (.t 11) (.t 10) (kR 14)]) (.sq (.rg [.fa 12 (.t 1) 15 2 4, .ld 13 (.t 12) (kL (kR 1)), .cv (some 14) 126 [((.t 13), .v (kL (kR 1)))], .fa 15 (.t 3) 15 2 4, .st (.t 15) (.t 14) (kL (kR 1))]) (.sq (.rg [.ld 16 (.t 3) (kR 15), .st (.t 2) (.t 16) (kR 15)]) (.rt))))))
noncomputable def c105 : List SA → Option RA := con1p (kR 15) (fun (a : FRow) => decide (zFRow a ≤ 1048576)) fun (a : FRow) => .v (kR 15) a
theorem s105 (a : FRow) (hn : (decide (zFRow a ≤ 1048576)) = true) : Sp Try.prog 105 [.v (kR 15) a] (.v (kR 15) a) := by
  refine Sp_intro [(21, c21), (126, c126)] ⟨con1p_ok s21, con1p_ok s126, trivial⟩ (N := 17) (vs := [.c 2 (.v (kR 15))]) (c := ir105) Try.func105 (by kernel_rfl) rfl ?_
  unfold ir105 c21 c126
  simp only [Bool.and_eq_true, decide_eq_true_eq] at hn
  have hf := zFRow_f a
  have p0 : zKey a.outer ≤ 1048576 := by omega
  have p1 : zKey a.own ≤ 1048576 := by omega
  have p2 : szL zVal a.cols ≤ 1048576 := by omega
  simp only [go_sem, p0, p1, p2]
  all_goals omega
def ir48 : C := .sq (.rg [.mv 2 (.nl (kR 15))]) (.sq (.rg [.mv 5 (.t 0), .ln 6 false (.t 5), .mk 7 false (kR 15) (.t 6), .mv 3 (.t 7)]) (.sq (.sq (.rg [.mv 4 (.i 0)]) (.bk 0 (.lp (.sq (.sq (.rg [.mv 8 (.t 4), .mv 9 (.t 0), .ln 10 false (.t 9), .bi 11 .lss (.t 8) (.t 10)]) (.cd (.t 11) (.skip) (.ex 0))) (.sq (.bk 1 (.rg [.mv 14 (.t 3), .mv 15 (.t 4), .mv 16 (.t 0), .mv 17 (.t 4), .ia 18 (.t 16) (.t 17) (kR 15), .ld 19 (.t 18) (kR 15), .cv (some 20) 105 [((.t 19), .v (kR 15))], .ia 21 (.t 14) (.t 15) (kR 15), .st (.t 21) (.t 20) (kR 15)])) (.rg [.mv 12 (.t 4), .bi 13 .add (.t 12) (.i 1), .mv 4 (.t 13)])))))) (.sq (.rg [.mv 22 (.t 3), .mv 2 (.t 22)]) (.rt))))
noncomputable def c48 : List SA → Option RA := con1p (kL (kR 15)) (fun (a : List FRow) => decide (szL zFRow a ≤ 1048576)) fun (a : List FRow) => .v (kL (kR 15)) a
theorem s48 (a : List FRow) (hn : (decide (szL zFRow a ≤ 1048576)) = true) : Sp Try.prog 48 [.v (kL (kR 15)) a] (.v (kL (kR 15)) a) := by
  refine Sp_intro [(105, c105)] ⟨con1p_ok s105, trivial⟩ (N := 23) (vs := [.t 2 (.v (kL (kR 15)))]) (c := ir48) Try.func48 (by kernel_rfl) rfl ?_
  unfold ir48 c105
  simp only [Bool.and_eq_true, decide_eq_true_eq] at hn
  have hsz : a.length ≤ 1048576 := by have : szL zFRow a = a.length + (a.map zFRow).sum := rfl; omega
  simp only [go_sem]
  intro _
  refine ⟨by omega, ?_⟩
  refine LP_intro (X := ⟨Try.prog, 23, [(105, c105)]⟩) ⟨con1p_ok s105, trivial⟩ [0, 2, 3, 4] [[7]] (fun i : Nat => ⟨[(0, .v (kL (kR 15)) a), (2, .nl (kR 15)), (3, .sl [7]), (4, .v kI (i : Int))], [([7], .row false false (kR 15) (cpy a i (Ki.z (kR 15))))]⟩) (fun i => i ≤ a.length) (fun i => a.length - i) ⟨0, Nat.zero_le _, ?_⟩ (fun i hi => ?_)
  · simp only [go_sem, ← cpy_zero]; rfl
  simp only [go_sem, cpy_len, c105]
  intro _
  refine ⟨fun hlt => ⟨hlt, (by have := szL_at zFRow a hlt (Ki.z (kR 15)); have : szL zFRow a ≤ 1048576 := (by omega); omega), hlt, hlt, ⟨i + 1, hlt, by dsimp only; omega, ?_⟩⟩, fun hge => cpy_all a _ hge⟩
  simp only [go_sem]
  rw [wrap_nat (by omega), cpy_set a _ _ hlt]
def ir108 : C := .sq (.rg [.bx 2 (.t 0) (kR 15), .bx 3 (.t 1) (kR 15), .mv 4 (.b false)]) (.sq (.sq (.rg [.fa 5 (.t 2) 15 0 0, .ld 6 (.t 5) (kR 14), .fa 7 (.t 3) 15 0 0, .ld 8 (.t 7) (kR 14), .cv (some 9) 23 [((.t 6), .v (kR 14)), ((.t 8), .v (kR 14))], .un 10 .not (.t 9)]) (.cd (.t 10) (.sq (.rg [.mv 4 (.b false)]) (.rt)) (.skip))) (.sq (.sq (.rg [.fa 11 (.t 2) 15 1 2, .ld 12 (.t 11) (kR 14), .fa 13 (.t 3) 15 1 2, .ld 14 (.t 13) (kR 14), .cv (some 15) 23 [((.t 12), .v (kR 14)), ((.t 14), .v (kR 14))], .un 16 .not (.t 15)]) (.cd (.t 16) (.sq (.rg [.mv 4 (.b false)]) (.rt)) (.skip))) (.sq (.sq (.rg [.fa 17 (.t 2) 15 2 4, .ld 18 (.t 17) (kL (kR 1)), .fa 19 (.t 3) 15 2 4, .ld 20 (.t 19) (kL (kR 1)), .cv (some 21) 128 [((.t 18), .v (kL (kR 1))), ((.t 20), .v (kL (kR 1)))], .un 22 .not (.t 21)]) (.cd (.t 22) (.sq (.rg [.mv 4 (.b false)]) (.rt)) (.skip))) (.sq (.rg [.mv 4 (.b true)]) (.rt)))))
noncomputable def c108 : List SA → Option RA := con2 (kR 15) (kR 15) fun (a b : FRow) => .v .bool (eqb a b)
theorem s108 (a b : FRow) : Sp Try.prog 108 [.v (kR 15) a, .v (kR 15) b] (.v .bool (eqb a b)) := by
  refine Sp_intro [(23, c23), (128, c128)] ⟨con2_ok s23, con2_ok s128, trivial⟩ (N := 23) (vs := [.t 4 (.v .bool)]) (c := ir108) Try.func108 (by kernel_rfl) rfl ?_
  unfold ir108 c23 c128
  simp only [go_sem, ext_15]
  all_goals simp +contextual
def ir50 : C := .sq (.rg [.mv 4 (.b false)]) (.sq (.sq (.rg [.mv 6 (.t 0), .ln 7 false (.t 6), .mv 8 (.t 1), .ln 9 false (.t 8), .bi 10 .neq (.t 7) (.t 9)]) (.cd (.t 10) (.sq (.rg [.mv 4 (.b false)]) (.rt)) (.skip))) (.sq (.sq (.rg [.mv 5 (.i 0)]) (.bk 0 (.lp (.sq (.sq (.rg [.mv 11 (.t 5), .mv 12 (.t 0), .ln 13 false (.t 12), .bi 14 .lss (.t 11) (.t 13)]) (.cd (.t 14) (.skip) (.ex 0))) (.sq (.bk 1 (.sq (.dr [] [.mv 17 (.t 0), .mv 18 (.t 5), .ia 19 (.t 17) (.t 18) (kR 15), .ld 20 (.t 19) (kR 15), .mv 21 (.t 1), .mv 22 (.t 5), .ia 23 (.t 21) (.t 22) (kR 15), .ld 24 (.t 23) (kR 15)] [.cv (some 25) 108 [((.t 20), .v (kR 15)), ((.t 24), .v (kR 15))], .un 26 .not (.t 25)]) (.cd (.t 26) (.sq (.rg [.mv 4 (.b false)]) (.rt)) (.skip)))) (.rg [.mv 15 (.t 5), .bi 16 .add (.t 15) (.i 1), .mv 5 (.t 16)])))))) (.sq (.rg [.mv 4 (.b true)]) (.rt))))
noncomputable def c50 : List SA → Option RA := con2 (kL (kR 15)) (kL (kR 15)) fun (a b : List FRow) => .v .bool (eqb a b)
theorem s50 (a b : List FRow) : Sp Try.prog 50 [.v (kL (kR 15)) a, .v (kL (kR 15)) b] (.v .bool (eqb a b)) := by
  refine Sp_intro [(108, c108)] ⟨con2_ok s108, trivial⟩ (N := 27) (vs := [.t 4 (.v .bool)]) (c := ir50) Try.func50 (by kernel_rfl) rfl ?_
  unfold ir50 c108
  simp only [go_sem]
  intro h1 h2
  refine ⟨fun h3 h => h3 (by rw [h]), fun h3 => ?_⟩
  refine LP_intro (X := ⟨Try.prog, 27, [(108, c108)]⟩) ⟨con2_ok s108, trivial⟩ [0, 1, 4, 5] [] (fun i : Nat => ⟨[(0, .v (kL (kR 15)) a), (1, .v (kL (kR 15)) b), (4, .v .bool false), (5, .v kI (i : Int))], []⟩) (fun i => i ≤ a.length ∧ ∀ j : Nat, j < i → gt a (j : Int) (Ki.z (kR 15)) = gt b (j : Int) (Ki.z (kR 15))) (fun i => a.length - i) ⟨0, ⟨Nat.zero_le _, fun j hj => absurd hj (Nat.not_lt_zero j)⟩, ?_⟩ (fun i hi => ?_)
  · simp only [go_sem]; rfl
  obtain ⟨hi1, hi2⟩ := hi
  simp only [go_sem, c108]
  intro _
  refine ⟨fun hlt => ⟨hlt, by omega, fun hne h => hne (by rw [h]), fun he => ⟨i + 1, ⟨hlt, below_succ hi2 he⟩, by dsimp only; omega, ?_⟩⟩, fun hge => row_eq (by omega) fun j hj => hi2 j (by omega)⟩
  simp only [go_sem]
  rw [wrap_nat (by omega)]
def ir139 : C := .sq (.rg [.bx 2 (.t 0) (kR 12), .mv 4 (.i 0)]) (.sq (.rg [.fa 5 (.t 2) 12 3 3, .ld 6 (.t 5) (kL (kR 3)), .mv 7 (.t 1), .cv (some 8) 32 [((.t 6), .v (kL (kR 3))), ((.t 7), .v kI)], .mv 1 (.t 8)]) (.sq (.sq (.rg [.mv 9 (.t 1), .bi 10 .lss (.t 9) (.i 0)]) (.cd (.t 10) (.sq (.rg [.mv 4 (.i (-1))]) (.rt)) (.skip))) (.sq (.rg [.fa 11 (.t 2) 12 4 4, .ld 12 (.t 11) (kR 2), .mv 13 (.t 1), .cv (some 14) 90 [((.t 12), .v (kR 2)), ((.t 13), .v kI)], .mv 1 (.t 14)]) (.sq (.sq (.rg [.mv 15 (.t 1), .bi 16 .lss (.t 15) (.i 0)]) (.cd (.t 16) (.sq (.rg [.mv 4 (.i (-1))]) (.rt)) (.skip))) (.sq (.rg [.fa 17 (.t 2) 12 5 12, .ld 18 (.t 17) (kL (kR 2)), .mv 19 (.t 1), .cv (some 20) 91 [((.t 18), .v (kL (kR 2))), ((.t 19), .v kI)], .mv 1 (.t 20)]) (.sq (.sq (.rg [.mv 21 (.t 1), .bi 22 .lss (.t 21) (.i 0)]) (.cd (.t 22) (.sq (.rg [.mv 4 (.i (-1))]) (.rt)) (.skip))) (.sq (.rg [.mv 23 (.t 1), .mv 4 (.t 23)]) (.rt))))))))
noncomputable def c139 : List SA → Option RA := con2p (kR 12) kI (fun (a : FComp) (n : Int) => decide (0 ≤ n) && decide (n ≤ 1048576)) fun (a : FComp) (n : Int) => .v kI (sz1 (zFComp a : Nat) n)
theorem s139 (a : FComp) (n : Int) (hn : (decide (0 ≤ n) && decide (n ≤ 1048576)) = true) : Sp Try.prog 139 [.v (kR 12) a, .v kI n] (.v kI (sz1 (zFComp a : Nat) n)) := by
  refine Sp_intro [(32, c32), (90, c90), (91, c91)] ⟨con2p_ok s32, con2p_ok s90, con2p_ok s91, trivial⟩ (N := 24) (vs := [.t 4 (.v kI)]) (c := ir139) Try.func139 (by kernel_rfl) rfl ?_
  unfold ir139 c32 c90 c91
  simp only [Bool.and_eq_true, decide_eq_true_eq] at hn
  simp only [go_sem]
  refine ⟨by omega, fun h => sz1_of_neg (by have := sz1_neg h; have hz := zFComp_f a; omega), fun h => ?_⟩
  obtain ⟨g, e⟩ := sz1_nn h
  rw [e] at h ⊢
  clear e
  refine ⟨by omega, fun h => sz1_of_neg (by have := sz1_neg h; have hz := zFComp_f a; omega), fun h => ?_⟩
  obtain ⟨g, e⟩ := sz1_nn h
  rw [e] at h ⊢
  clear e
  refine ⟨by omega, fun h => sz1_of_neg (by have := sz1_neg h; have hz := zFComp_f a; omega), fun h => ?_⟩
  obtain ⟨g, e⟩ := sz1_nn h
  rw [e] at h ⊢
  clear e
  exact sz1_of_nn (by have hz := zFComp_f a; omega) (by omega)
def ir109 : C := .sq (.rg [.mv 4 (.i 0)]) (.sq (.rg [.mv 6 (.t 1), .mv 7 (.t 0), .ln 8 false (.t 7), .bi 9 .sub (.t 6) (.t 8), .mv 1 (.t 9)]) (.sq (.sq (.rg [.mv 10 (.t 1), .bi 11 .lss (.t 10) (.i 0)]) (.cd (.t 11) (.sq (.rg [.mv 4 (.i (-1))]) (.rt)) (.skip))) (.sq (.sq (.rg [.mv 5 (.i 0)]) (.bk 0 (.lp (.sq (.sq (.rg [.mv 12 (.t 5), .mv 13 (.t 0), .ln 14 false (.t 13), .bi 15 .lss (.t 12) (.t 14)]) (.cd (.t 15) (.skip) (.ex 0))) (.sq (.bk 1 (.sq (.rg [.mv 18 (.t 0), .mv 19 (.t 5), .ia 20 (.t 18) (.t 19) (kR 12), .ld 21 (.t 20) (kR 12), .mv 22 (.t 1), .cv (some 23) 139 [((.t 21), .v (kR 12)), ((.t 22), .v kI)], .mv 1 (.t 23)]) (.sq (.rg [.mv 24 (.t 1), .bi 25 .lss (.t 24) (.i 0)]) (.cd (.t 25) (.sq (.rg [.mv 4 (.i (-1))]) (.rt)) (.skip))))) (.rg [.mv 16 (.t 5), .bi 17 .add (.t 16) (.i 1), .mv 5 (.t 17)])))))) (.sq (.rg [.mv 26 (.t 1), .mv 4 (.t 26)]) (.rt)))))
noncomputable def c109 : List SA → Option RA := con2p (kL (kR 12)) kI (fun (a : List FComp) (n : Int) => decide (0 ≤ n) && decide (n ≤ 1048576)) fun (a : List FComp) (n : Int) => .v kI (sz1 (szL zFComp a : Nat) n)
theorem s109 (a : List FComp) (n : Int) (hn : (decide (0 ≤ n) && decide (n ≤ 1048576)) = true) : Sp Try.prog 109 [.v (kL (kR 12)) a, .v kI n] (.v kI (sz1 (szL zFComp a : Nat) n)) := by
  refine Sp_intro [(139, c139)] ⟨con2p_ok s139, trivial⟩ (N := 27) (vs := [.t 4 (.v kI)]) (c := ir109) Try.func109 (by kernel_rfl) rfl ?_
  unfold ir109 c139
  simp only [Bool.and_eq_true, decide_eq_true_eq] at hn
  simp only [go_sem]
  intro h
  rw [wrap_id (by omega) (by omega)]
  refine ⟨fun h => sz1_of_neg (by unfold szL; omega), fun h0 => ?_⟩
  refine LP_intro (X := ⟨Try.prog, 27, [(139, c139)]⟩) ⟨con2p_ok s139, trivial⟩ [0, 1, 4, 5] [] (fun i : Nat => ⟨[(0, .v (kL (kR 12)) a), (1, .v kI (n - a.length - pfx zFComp a i)), (4, .v kI 0), (5, .v kI (i : Int))], []⟩) (fun i => i ≤ a.length ∧ 0 ≤ n - a.length - pfx zFComp a i) (fun i => a.length - i) ⟨0, ⟨Nat.zero_le _, by rw [pfx_zero]; omega⟩, ?_⟩ (fun i hi => ?_)
  · simp only [go_sem, pfx_zero, Int.natCast_zero, Int.sub_zero]
  obtain ⟨hi1, hi2⟩ := hi
  simp only [go_sem, c139]
  intro _
  have hsum : szL zFComp a = a.length + (a.map zFComp).sum := rfl
  refine ⟨fun hlt => ?_, fun hge => ?_⟩
  · have h1 := pfx_succ zFComp a hlt (Ki.z (kR 12))
    have h2 := pfx_le zFComp a (i + 1)
    have h4 := szL_at zFComp a hlt (Ki.z (kR 12))
    refine ⟨hlt, by omega, fun h => sz1_of_neg (by have := sz1_neg h; omega), fun h3 => ?_⟩
    obtain ⟨h5, h6⟩ := sz1_nn h3
    rw [h6] at h3 ⊢
    refine ⟨i + 1, ⟨hlt, by omega⟩, by dsimp only; omega, ?_⟩
    have e : n - (a.length : Int) - (pfx zFComp a i : Int) - ((zFComp (gt a (i : Int) (Ki.z (kR 12))) : Nat) : Int) = n - (a.length : Int) - (pfx zFComp a (i + 1) : Int) := by omega
    simp only [go_sem]
    rw [wrap_nat (by omega), e]
  · have := pfx_all zFComp a (i := i) (by omega)
    exact sz1_of_nn (by omega) (by omega)
def ir51 : C := .sq (.rg [.bx 2 (.t 0) (kR 13), .mv 4 (.i 0)]) (.sq (.rg [.fa 5 (.t 2) 13 0 0, .ld 6 (.t 5) (kL kS), .mv 7 (.t 1), .cv (some 8) 14 [((.t 6), .v (kL kS)), ((.t 7), .v kI)], .mv 1 (.t 8)]) (.sq (.sq (.rg [.mv 9 (.t 1), .bi 10 .lss (.t 9) (.i 0)]) (.cd (.t 10) (.sq (.rg [.mv 4 (.i (-1))]) (.rt)) (.skip))) (.sq (.rg [.fa 11 (.t 2) 13 1 1, .ld 12 (.t 11) (kL (kR 12)), .mv 13 (.t 1), .cv (some 14) 109 [((.t 12), .v (kL (kR 12))), ((.t 13), .v kI)], .mv 1 (.t 14)]) (.sq (.sq (.rg [.mv 15 (.t 1), .bi 16 .lss (.t 15) (.i 0)]) (.cd (.t 16) (.sq (.rg [.mv 4 (.i (-1))]) (.rt)) (.skip))) (.sq (.rg [.mv 17 (.t 1), .mv 4 (.t 17)]) (.rt))))))
noncomputable def c51 : List SA → Option RA := con2p (kR 13) kI (fun (a : FQuery) (n : Int) => decide (0 ≤ n) && decide (n ≤ 1048576)) fun (a : FQuery) (n : Int) => .v kI (sz1 (zFQuery a : Nat) n)
theorem s51 (a : FQuery) (n : Int) (hn : (decide (0 ≤ n) && decide (n ≤ 1048576)) = true) : Sp Try.prog 51 [.v (kR 13) a, .v kI n] (.v kI (sz1 (zFQuery a : Nat) n)) := by
  refine Sp_intro [(14, c14), (109, c109)] ⟨con2p_ok s14, con2p_ok s109, trivial⟩ (N := 18) (vs := [.t 4 (.v kI)]) (c := ir51) Try.func51 (by kernel_rfl) rfl ?_
  unfold ir51 c14 c109
  simp only [Bool.and_eq_true, decide_eq_true_eq] at hn
  simp only [go_sem]
  refine ⟨by omega, fun h => sz1_of_neg (by have := sz1_neg h; have hz := zFQuery_f a; omega), fun h => ?_⟩
  obtain ⟨g, e⟩ := sz1_nn h
  rw [e] at h ⊢
  clear e
  refine ⟨by omega, fun h => sz1_of_neg (by have := sz1_neg h; have hz := zFQuery_f a; omega), fun h => ?_⟩
  obtain ⟨g, e⟩ := sz1_nn h
  rw [e] at h ⊢
  clear e
  exact sz1_of_nn (by have hz := zFQuery_f a; omega) (by omega)
def ir141 : C := .sq (.rg [.bx 1 (.t 0) (kR 12), .al 2 (kR 12)]) (.sq (.rg [.al 3 (kR 12)]) (.sq (.rg [.fa 4 (.t 1) 12 0 0, .ld 5 (.t 4) kI, .fa 6 (.t 3) 12 0 0, .st (.t 6) (.t 5) kI]) (.sq (.rg [.fa 7 (.t 1) 12 1 1, .ld 8 (.t 7) kI, .fa 9 (.t 3) 12 1 1, .st (.t 9) (.t 8) kI]) (.sq (.rg [.fa 10 (.t 1) 12 2 2, .ld 11 (.t 10) kI, .fa 12 (.t 3) 12 2 2, .st (.t 12) (.t 11) kI]) (.sq (.rg [.fa 13 (.t 1) 12 3 3, .ld 14 (.t 13) (kL (kR 3)), .cv (some 15) 35 [((.t 14), .v (kL (kR 3)))], .fa 16 (.t 3) 12 3 3, .st (.t 16) (.t 15) (kL (kR 3))]) (.sq (.rg [.fa 17 (.t 1) 12 4 4, .ld 18 (.t 17) (kR 2), .cv (some 19) 94 [((.t 18), .v (kR 2))], .fa 20 (.t 3) 12 4 4, .st (.t 20) (.t 19) (kR 2)]) (.sq (.rg [.fa 21 (.t 1) 12 5 12, .ld 22 (.t 21) (kL (kR 2)), .cv (some 23) 95 [((.t 22), .v (kL (kR 2)))], .fa 24 (.t 3) 12 5 12, .st (.t 24) (.t 23) (kL (kR 2))]) (.sq (.rg [.ld 25 (.t 3) (kR 12), .st (.t 2) (.t 25) (kR 12)]) (.rt)))))))))
noncomputable def c141 : List SA → Option RA := con1p (kR 12) (fun (a : FComp) => decide (zFComp a ≤ 1048576)) fun (a : FComp) => .v (kR 12) a
theorem s141 (a : FComp) (hn : (decide (zFComp a ≤ 1048576)) = true) : Sp Try.prog 141 [.v (kR 12) a] (.v (kR 12) a) := by
  refine Sp_intro [(35, c35), (94, c94), (95, c95)] ⟨con1p_ok s35, con1p_ok s94, con1p_ok s95, trivial⟩ (N := 26) (vs := [.c 2 (.v (kR 12))]) (c := ir141) Try.func141 (by kernel_rfl) rfl ?_
  unfold ir141 c35 c94 c95
  simp only [Bool.and_eq_true, decide_eq_true_eq] at hn
  have hf := zFComp_f a
  have p0 : szL zGen a.gens ≤ 1048576 := by omega
  have p1 : zTm a.whr ≤ 1048576 := by omega
  have p2 : szL zTm a.cols ≤ 1048576 := by omega
  simp only [go_sem, p0, p1, p2]
  all_goals omega
def ir111 : C := .sq (.rg [.mv 2 (.nl (kR 12))]) (.sq (.rg [.mv 5 (.t 0), .ln 6 false (.t 5), .mk 7 false (kR 12) (.t 6), .mv 3 (.t 7)]) (.sq (.sq (.rg [.mv 4 (.i 0)]) (.bk 0 (.lp (.sq (.sq (.rg [.mv 8 (.t 4), .mv 9 (.t 0), .ln 10 false (.t 9), .bi 11 .lss (.t 8) (.t 10)]) (.cd (.t 11) (.skip) (.ex 0))) (.sq (.bk 1 (.rg [.mv 14 (.t 3), .mv 15 (.t 4), .mv 16 (.t 0), .mv 17 (.t 4), .ia 18 (.t 16) (.t 17) (kR 12), .ld 19 (.t 18) (kR 12), .cv (some 20) 141 [((.t 19), .v (kR 12))], .ia 21 (.t 14) (.t 15) (kR 12), .st (.t 21) (.t 20) (kR 12)])) (.rg [.mv 12 (.t 4), .bi 13 .add (.t 12) (.i 1), .mv 4 (.t 13)])))))) (.sq (.rg [.mv 22 (.t 3), .mv 2 (.t 22)]) (.rt))))
noncomputable def c111 : List SA → Option RA := con1p (kL (kR 12)) (fun (a : List FComp) => decide (szL zFComp a ≤ 1048576)) fun (a : List FComp) => .v (kL (kR 12)) a
theorem s111 (a : List FComp) (hn : (decide (szL zFComp a ≤ 1048576)) = true) : Sp Try.prog 111 [.v (kL (kR 12)) a] (.v (kL (kR 12)) a) := by
  refine Sp_intro [(141, c141)] ⟨con1p_ok s141, trivial⟩ (N := 23) (vs := [.t 2 (.v (kL (kR 12)))]) (c := ir111) Try.func111 (by kernel_rfl) rfl ?_
  unfold ir111 c141
  simp only [Bool.and_eq_true, decide_eq_true_eq] at hn
  have hsz : a.length ≤ 1048576 := by have : szL zFComp a = a.length + (a.map zFComp).sum := rfl; omega
  simp only [go_sem]
  intro _
  refine ⟨by omega, ?_⟩
  refine LP_intro (X := ⟨Try.prog, 23, [(141, c141)]⟩) ⟨con1p_ok s141, trivial⟩ [0, 2, 3, 4] [[7]] (fun i : Nat => ⟨[(0, .v (kL (kR 12)) a), (2, .nl (kR 12)), (3, .sl [7]), (4, .v kI (i : Int))], [([7], .row false false (kR 12) (cpy a i (Ki.z (kR 12))))]⟩) (fun i => i ≤ a.length) (fun i => a.length - i) ⟨0, Nat.zero_le _, ?_⟩ (fun i hi => ?_)
  · simp only [go_sem, ← cpy_zero]; rfl
  simp only [go_sem, cpy_len, c141]
  intro _
  refine ⟨fun hlt => ⟨hlt, (by have := szL_at zFComp a hlt (Ki.z (kR 12)); have : szL zFComp a ≤ 1048576 := (by omega); omega), hlt, hlt, ⟨i + 1, hlt, by dsimp only; omega, ?_⟩⟩, fun hge => cpy_all a _ hge⟩
  simp only [go_sem]
  rw [wrap_nat (by omega), cpy_set a _ _ hlt]
def ir53 : C := .sq (.rg [.bx 1 (.t 0) (kR 13), .al 2 (kR 13)]) (.sq (.rg [.al 3 (kR 13)]) (.sq (.rg [.fa 4 (.t 1) 13 0 0, .ld 5 (.t 4) (kL kS), .cv (some 6) 16 [((.t 5), .v (kL kS))], .fa 7 (.t 3) 13 0 0, .st (.t 7) (.t 6) (kL kS)]) (.sq (.rg [.fa 8 (.t 1) 13 1 1, .ld 9 (.t 8) (kL (kR 12)), .cv (some 10) 111 [((.t 9), .v (kL (kR 12)))], .fa 11 (.t 3) 13 1 1, .st (.t 11) (.t 10) (kL (kR 12))]) (.sq (.rg [.ld 12 (.t 3) (kR 13), .st (.t 2) (.t 12) (kR 13)]) (.rt)))))
noncomputable def c53 : List SA → Option RA := con1p (kR 13) (fun (a : FQuery) => decide (zFQuery a ≤ 1048576)) fun (a : FQuery) => .v (kR 13) a
theorem s53 (a : FQuery) (hn : (decide (zFQuery a ≤ 1048576)) = true) : Sp Try.prog 53 [.v (kR 13) a] (.v (kR 13) a) := by
  refine Sp_intro [(16, c16), (111, c111)] ⟨con1p_ok s16, con1p_ok s111, trivial⟩ (N := 13) (vs := [.c 2 (.v (kR 13))]) (c := ir53) Try.func53 (by kernel_rfl) rfl ?_
  unfold ir53 c16 c111
  simp only [Bool.and_eq_true, decide_eq_true_eq] at hn
  have hf := zFQuery_f a
  have p0 : szL List.length a.path ≤ 1048576 := by omega
  have p1 : szL zFComp a.comps ≤ 1048576 := by omega
  simp only [go_sem, p0, p1]
  all_goals omega
def ir143 : C := .sq (.rg [.bx 2 (.t 0) (kR 12), .bx 3 (.t 1) (kR 12), .mv 4 (.b false)]) (.sq (.sq (.rg [.fa 5 (.t 2) 12 0 0, .ld 6 (.t 5) kI, .fa 7 (.t 3) 12 0 0, .ld 8 (.t 7) kI, .bi 9 .neq (.t 6) (.t 8)]) (.cd (.t 9) (.sq (.rg [.mv 4 (.b false)]) (.rt)) (.skip))) (.sq (.sq (.rg [.fa 10 (.t 2) 12 1 1, .ld 11 (.t 10) kI, .fa 12 (.t 3) 12 1 1, .ld 13 (.t 12) kI, .bi 14 .neq (.t 11) (.t 13)]) (.cd (.t 14) (.sq (.rg [.mv 4 (.b false)]) (.rt)) (.skip))) (.sq (.sq (.rg [.fa 15 (.t 2) 12 2 2, .ld 16 (.t 15) kI, .fa 17 (.t 3) 12 2 2, .ld 18 (.t 17) kI, .bi 19 .neq (.t 16) (.t 18)]) (.cd (.t 19) (.sq (.rg [.mv 4 (.b false)]) (.rt)) (.skip))) (.sq (.sq (.rg [.fa 20 (.t 2) 12 3 3, .ld 21 (.t 20) (kL (kR 3)), .fa 22 (.t 3) 12 3 3, .ld 23 (.t 22) (kL (kR 3)), .cv (some 24) 38 [((.t 21), .v (kL (kR 3))), ((.t 23), .v (kL (kR 3)))], .un 25 .not (.t 24)]) (.cd (.t 25) (.sq (.rg [.mv 4 (.b false)]) (.rt)) (.skip))) (.sq (.sq (.rg [.fa 26 (.t 2) 12 4 4, .ld 27 (.t 26) (kR 2), .fa 28 (.t 3) 12 4 4, .ld 29 (.t 28) (kR 2), .cv (some 30) 97 [((.t 27), .v (kR 2)), ((.t 29), .v (kR 2))], .un 31 .not (.t 30)]) (.cd (.t 31) (.sq (.rg [.mv 4 (.b false)]) (.rt)) (.skip))) (.sq (.sq (.rg [.fa 32 (.t 2) 12 5 12, .ld 33 (.t 32) (kL (kR 2)), .fa 34 (.t 3) 12 5 12, .ld 35 (.t 34) (kL (kR 2)), .cv (some 36) 98 [((.t 33), .v (kL (kR 2))), ((.t 35), .v (kL (kR 2)))], .un 37 .not (.t 36)]) (.cd (.t 37) (.sq (.rg [.mv 4 (.b false)]) (.rt)) (.skip))) (.sq (.rg [.mv 4 (.b true)]) (.rt))))))))
noncomputable def c143 : List SA → Option RA := con2 (kR 12) (kR 12) fun (a b : FComp) => .v .bool (eqb a b)
theorem s143 (a b : FComp) : Sp Try.prog 143 [.v (kR 12) a, .v (kR 12) b] (.v .bool (eqb a b)) := by
  refine Sp_intro [(38, c38), (97, c97), (98, c98)] ⟨con2_ok s38, con2_ok s97, con2_ok s98, trivial⟩ (N := 38) (vs := [.t 4 (.v .bool)]) (c := ir143) Try.func143 (by kernel_rfl) rfl ?_
  unfold ir143 c38 c97 c98
  simp only [go_sem, ext_12]
  all_goals simp +contextual
def ir114 : C := .sq (.rg [.mv 4 (.b false)]) (.sq (.sq (.rg [.mv 6 (.t 0), .ln 7 false (.t 6), .mv 8 (.t 1), .ln 9 false (.t 8), .bi 10 .neq (.t 7) (.t 9)]) (.cd (.t 10) (.sq (.rg [.mv 4 (.b false)]) (.rt)) (.skip))) (.sq (.sq (.rg [.mv 5 (.i 0)]) (.bk 0 (.lp (.sq (.sq (.rg [.mv 11 (.t 5), .mv 12 (.t 0), .ln 13 false (.t 12), .bi 14 .lss (.t 11) (.t 13)]) (.cd (.t 14) (.skip) (.ex 0))) (.sq (.bk 1 (.sq (.dr [] [.mv 17 (.t 0), .mv 18 (.t 5), .ia 19 (.t 17) (.t 18) (kR 12), .ld 20 (.t 19) (kR 12), .mv 21 (.t 1), .mv 22 (.t 5), .ia 23 (.t 21) (.t 22) (kR 12), .ld 24 (.t 23) (kR 12)] [.cv (some 25) 143 [((.t 20), .v (kR 12)), ((.t 24), .v (kR 12))], .un 26 .not (.t 25)]) (.cd (.t 26) (.sq (.rg [.mv 4 (.b false)]) (.rt)) (.skip)))) (.rg [.mv 15 (.t 5), .bi 16 .add (.t 15) (.i 1), .mv 5 (.t 16)])))))) (.sq (.rg [.mv 4 (.b true)]) (.rt))))
noncomputable def c114 : List SA → Option RA := con2 (kL (kR 12)) (kL (kR 12)) fun (a b : List FComp) => .v .bool (eqb a b)
theorem s114 (a b : List FComp) : Sp Try.prog 114 [.v (kL (kR 12)) a, .v (kL (kR 12)) b] (.v .bool (eqb a b)) := by
  refine Sp_intro [(143, c143)] ⟨con2_ok s143, trivial⟩ (N := 27) (vs := [.t 4 (.v .bool)]) (c := ir114) Try.func114 (by kernel_rfl) rfl ?_
  unfold ir114 c143
  simp only [go_sem]
  intro h1 h2
  refine ⟨fun h3 h => h3 (by rw [h]), fun h3 => ?_⟩
  refine LP_intro (X := ⟨Try.prog, 27, [(143, c143)]⟩) ⟨con2_ok s143, trivial⟩ [0, 1, 4, 5] [] (fun i : Nat => ⟨[(0, .v (kL (kR 12)) a), (1, .v (kL (kR 12)) b), (4, .v .bool false), (5, .v kI (i : Int))], []⟩) (fun i => i ≤ a.length ∧ ∀ j : Nat, j < i → gt a (j : Int) (Ki.z (kR 12)) = gt b (j : Int) (Ki.z (kR 12))) (fun i => a.length - i) ⟨0, ⟨Nat.zero_le _, fun j hj => absurd hj (Nat.not_lt_zero j)⟩, ?_⟩ (fun i hi => ?_)
  · simp only [go_sem]; rfl
  obtain ⟨hi1, hi2⟩ := hi
  simp only [go_sem, c143]
  intro _
  refine ⟨fun hlt => ⟨hlt, by omega, fun hne h => hne (by rw [h]), fun he => ⟨i + 1, ⟨hlt, below_succ hi2 he⟩, by dsimp only; omega, ?_⟩⟩, fun hge => row_eq (by omega) fun j hj => hi2 j (by omega)⟩
  simp only [go_sem]
  rw [wrap_nat (by omega)]
def ir55 : C := .sq (.rg [.bx 2 (.t 0) (kR 13), .bx 3 (.t 1) (kR 13), .mv 4 (.b false)]) (.sq (.sq (.rg [.fa 5 (.t 2) 13 0 0, .ld 6 (.t 5) (kL kS), .fa 7 (.t 3) 13 0 0, .ld 8 (.t 7) (kL kS), .cv (some 9) 18 [((.t 6), .v (kL kS)), ((.t 8), .v (kL kS))], .un 10 .not (.t 9)]) (.cd (.t 10) (.sq (.rg [.mv 4 (.b false)]) (.rt)) (.skip))) (.sq (.sq (.rg [.fa 11 (.t 2) 13 1 1, .ld 12 (.t 11) (kL (kR 12)), .fa 13 (.t 3) 13 1 1, .ld 14 (.t 13) (kL (kR 12)), .cv (some 15) 114 [((.t 12), .v (kL (kR 12))), ((.t 14), .v (kL (kR 12)))], .un 16 .not (.t 15)]) (.cd (.t 16) (.sq (.rg [.mv 4 (.b false)]) (.rt)) (.skip))) (.sq (.rg [.mv 4 (.b true)]) (.rt))))
noncomputable def c55 : List SA → Option RA := con2 (kR 13) (kR 13) fun (a b : FQuery) => .v .bool (eqb a b)
theorem s55 (a b : FQuery) : Sp Try.prog 55 [.v (kR 13) a, .v (kR 13) b] (.v .bool (eqb a b)) := by
  refine Sp_intro [(18, c18), (114, c114)] ⟨con2_ok s18, con2_ok s114, trivial⟩ (N := 17) (vs := [.t 4 (.v .bool)]) (c := ir55) Try.func55 (by kernel_rfl) rfl ?_
  unfold ir55 c18 c114
  simp only [go_sem, ext_13]
  all_goals simp +contextual
def ir56 : C := .sq (.rg [.mv 4 (.i 0)]) (.sq (.rg [.mv 6 (.t 1), .mv 7 (.t 0), .ln 8 false (.t 7), .bi 9 .sub (.t 6) (.t 8), .mv 1 (.t 9)]) (.sq (.sq (.rg [.mv 10 (.t 1), .bi 11 .lss (.t 10) (.i 0)]) (.cd (.t 11) (.sq (.rg [.mv 4 (.i (-1))]) (.rt)) (.skip))) (.sq (.sq (.rg [.mv 5 (.i 0)]) (.bk 0 (.lp (.sq (.sq (.rg [.mv 12 (.t 5), .mv 13 (.t 0), .ln 14 false (.t 13), .bi 15 .lss (.t 12) (.t 14)]) (.cd (.t 15) (.skip) (.ex 0))) (.sq (.bk 1 (.sq (.rg [.mv 18 (.t 0), .mv 19 (.t 5), .ia 20 (.t 18) (.t 19) (kR 13), .ld 21 (.t 20) (kR 13), .mv 22 (.t 1), .cv (some 23) 51 [((.t 21), .v (kR 13)), ((.t 22), .v kI)], .mv 1 (.t 23)]) (.sq (.rg [.mv 24 (.t 1), .bi 25 .lss (.t 24) (.i 0)]) (.cd (.t 25) (.sq (.rg [.mv 4 (.i (-1))]) (.rt)) (.skip))))) (.rg [.mv 16 (.t 5), .bi 17 .add (.t 16) (.i 1), .mv 5 (.t 17)])))))) (.sq (.rg [.mv 26 (.t 1), .mv 4 (.t 26)]) (.rt)))))
noncomputable def c56 : List SA → Option RA := con2p (kL (kR 13)) kI (fun (a : List FQuery) (n : Int) => decide (0 ≤ n) && decide (n ≤ 1048576)) fun (a : List FQuery) (n : Int) => .v kI (sz1 (szL zFQuery a : Nat) n)
theorem s56 (a : List FQuery) (n : Int) (hn : (decide (0 ≤ n) && decide (n ≤ 1048576)) = true) : Sp Try.prog 56 [.v (kL (kR 13)) a, .v kI n] (.v kI (sz1 (szL zFQuery a : Nat) n)) := by
  refine Sp_intro [(51, c51)] ⟨con2p_ok s51, trivial⟩ (N := 27) (vs := [.t 4 (.v kI)]) (c := ir56) Try.func56 (by kernel_rfl) rfl ?_
  unfold ir56 c51
  simp only [Bool.and_eq_true, decide_eq_true_eq] at hn
  simp only [go_sem]
  intro h
  rw [wrap_id (by omega) (by omega)]
  refine ⟨fun h => sz1_of_neg (by unfold szL; omega), fun h0 => ?_⟩
  refine LP_intro (X := ⟨Try.prog, 27, [(51, c51)]⟩) ⟨con2p_ok s51, trivial⟩ [0, 1, 4, 5] [] (fun i : Nat => ⟨[(0, .v (kL (kR 13)) a), (1, .v kI (n - a.length - pfx zFQuery a i)), (4, .v kI 0), (5, .v kI (i : Int))], []⟩) (fun i => i ≤ a.length ∧ 0 ≤ n - a.length - pfx zFQuery a i) (fun i => a.length - i) ⟨0, ⟨Nat.zero_le _, by rw [pfx_zero]; omega⟩, ?_⟩ (fun i hi => ?_)
  · simp only [go_sem, pfx_zero, Int.natCast_zero, Int.sub_zero]
  obtain ⟨hi1, hi2⟩ := hi
  simp only [go_sem, c51]
  intro _
  have hsum : szL zFQuery a = a.length + (a.map zFQuery).sum := rfl
  refine ⟨fun hlt => ?_, fun hge => ?_⟩
  · have h1 := pfx_succ zFQuery a hlt (Ki.z (kR 13))
    have h2 := pfx_le zFQuery a (i + 1)
    have h4 := szL_at zFQuery a hlt (Ki.z (kR 13))
    refine ⟨hlt, by omega, fun h => sz1_of_neg (by have := sz1_neg h; omega), fun h3 => ?_⟩
    obtain ⟨h5, h6⟩ := sz1_nn h3
    rw [h6] at h3 ⊢
    refine ⟨i + 1, ⟨hlt, by omega⟩, by dsimp only; omega, ?_⟩
    have e : n - (a.length : Int) - (pfx zFQuery a i : Int) - ((zFQuery (gt a (i : Int) (Ki.z (kR 13))) : Nat) : Int) = n - (a.length : Int) - (pfx zFQuery a (i + 1) : Int) := by omega
    simp only [go_sem]
    rw [wrap_nat (by omega), e]
  · have := pfx_all zFQuery a (i := i) (by omega)
    exact sz1_of_nn (by omega) (by omega)
def ir58 : C := .sq (.rg [.mv 2 (.nl (kR 13))]) (.sq (.rg [.mv 5 (.t 0), .ln 6 false (.t 5), .mk 7 false (kR 13) (.t 6), .mv 3 (.t 7)]) (.sq (.sq (.rg [.mv 4 (.i 0)]) (.bk 0 (.lp (.sq (.sq (.rg [.mv 8 (.t 4), .mv 9 (.t 0), .ln 10 false (.t 9), .bi 11 .lss (.t 8) (.t 10)]) (.cd (.t 11) (.skip) (.ex 0))) (.sq (.bk 1 (.rg [.mv 14 (.t 3), .mv 15 (.t 4), .mv 16 (.t 0), .mv 17 (.t 4), .ia 18 (.t 16) (.t 17) (kR 13), .ld 19 (.t 18) (kR 13), .cv (some 20) 53 [((.t 19), .v (kR 13))], .ia 21 (.t 14) (.t 15) (kR 13), .st (.t 21) (.t 20) (kR 13)])) (.rg [.mv 12 (.t 4), .bi 13 .add (.t 12) (.i 1), .mv 4 (.t 13)])))))) (.sq (.rg [.mv 22 (.t 3), .mv 2 (.t 22)]) (.rt))))
noncomputable def c58 : List SA → Option RA := con1p (kL (kR 13)) (fun (a : List FQuery) => decide (szL zFQuery a ≤ 1048576)) fun (a : List FQuery) => .v (kL (kR 13)) a
theorem s58 (a : List FQuery) (hn : (decide (szL zFQuery a ≤ 1048576)) = true) : Sp Try.prog 58 [.v (kL (kR 13)) a] (.v (kL (kR 13)) a) := by
  refine Sp_intro [(53, c53)] ⟨con1p_ok s53, trivial⟩ (N := 23) (vs := [.t 2 (.v (kL (kR 13)))]) (c := ir58) Try.func58 (by kernel_rfl) rfl ?_
  unfold ir58 c53
  simp only [Bool.and_eq_true, decide_eq_true_eq] at hn
  have hsz : a.length ≤ 1048576 := by have : szL zFQuery a = a.length + (a.map zFQuery).sum := rfl; omega
  simp only [go_sem]
  intro _
  refine ⟨by omega, ?_⟩
  refine LP_intro (X := ⟨Try.prog, 23, [(53, c53)]⟩) ⟨con1p_ok s53, trivial⟩ [0, 2, 3, 4] [[7]] (fun i : Nat => ⟨[(0, .v (kL (kR 13)) a), (2, .nl (kR 13)), (3, .sl [7]), (4, .v kI (i : Int))], [([7], .row false false (kR 13) (cpy a i (Ki.z (kR 13))))]⟩) (fun i => i ≤ a.length) (fun i => a.length - i) ⟨0, Nat.zero_le _, ?_⟩ (fun i hi => ?_)
  · simp only [go_sem, ← cpy_zero]; rfl
  simp only [go_sem, cpy_len, c53]
  intro _
  refine ⟨fun hlt => ⟨hlt, (by have := szL_at zFQuery a hlt (Ki.z (kR 13)); have : szL zFQuery a ≤ 1048576 := (by omega); omega), hlt, hlt, ⟨i + 1, hlt, by dsimp only; omega, ?_⟩⟩, fun hge => cpy_all a _ hge⟩
  simp only [go_sem]
  rw [wrap_nat (by omega), cpy_set a _ _ hlt]
def ir60 : C := .sq (.rg [.mv 4 (.b false)]) (.sq (.sq (.rg [.mv 6 (.t 0), .ln 7 false (.t 6), .mv 8 (.t 1), .ln 9 false (.t 8), .bi 10 .neq (.t 7) (.t 9)]) (.cd (.t 10) (.sq (.rg [.mv 4 (.b false)]) (.rt)) (.skip))) (.sq (.sq (.rg [.mv 5 (.i 0)]) (.bk 0 (.lp (.sq (.sq (.rg [.mv 11 (.t 5), .mv 12 (.t 0), .ln 13 false (.t 12), .bi 14 .lss (.t 11) (.t 13)]) (.cd (.t 14) (.skip) (.ex 0))) (.sq (.bk 1 (.sq (.dr [] [.mv 17 (.t 0), .mv 18 (.t 5), .ia 19 (.t 17) (.t 18) (kR 13), .ld 20 (.t 19) (kR 13), .mv 21 (.t 1), .mv 22 (.t 5), .ia 23 (.t 21) (.t 22) (kR 13), .ld 24 (.t 23) (kR 13)] [.cv (some 25) 55 [((.t 20), .v (kR 13)), ((.t 24), .v (kR 13))], .un 26 .not (.t 25)]) (.cd (.t 26) (.sq (.rg [.mv 4 (.b false)]) (.rt)) (.skip)))) (.rg [.mv 15 (.t 5), .bi 16 .add (.t 15) (.i 1), .mv 5 (.t 16)])))))) (.sq (.rg [.mv 4 (.b true)]) (.rt))))
noncomputable def c60 : List SA → Option RA := con2 (kL (kR 13)) (kL (kR 13)) fun (a b : List FQuery) => .v .bool (eqb a b)
theorem s60 (a b : List FQuery) : Sp Try.prog 60 [.v (kL (kR 13)) a, .v (kL (kR 13)) b] (.v .bool (eqb a b)) := by
  refine Sp_intro [(55, c55)] ⟨con2_ok s55, trivial⟩ (N := 27) (vs := [.t 4 (.v .bool)]) (c := ir60) Try.func60 (by kernel_rfl) rfl ?_
  unfold ir60 c55
  simp only [go_sem]
  intro h1 h2
  refine ⟨fun h3 h => h3 (by rw [h]), fun h3 => ?_⟩
  refine LP_intro (X := ⟨Try.prog, 27, [(55, c55)]⟩) ⟨con2_ok s55, trivial⟩ [0, 1, 4, 5] [] (fun i : Nat => ⟨[(0, .v (kL (kR 13)) a), (1, .v (kL (kR 13)) b), (4, .v .bool false), (5, .v kI (i : Int))], []⟩) (fun i => i ≤ a.length ∧ ∀ j : Nat, j < i → gt a (j : Int) (Ki.z (kR 13)) = gt b (j : Int) (Ki.z (kR 13))) (fun i => a.length - i) ⟨0, ⟨Nat.zero_le _, fun j hj => absurd hj (Nat.not_lt_zero j)⟩, ?_⟩ (fun i hi => ?_)
  · simp only [go_sem]; rfl
  obtain ⟨hi1, hi2⟩ := hi
  simp only [go_sem, c55]
  intro _
  refine ⟨fun hlt => ⟨hlt, by omega, fun hne h => hne (by rw [h]), fun he => ⟨i + 1, ⟨hlt, below_succ hi2 he⟩, by dsimp only; omega, ?_⟩⟩, fun hge => row_eq (by omega) fun j hj => hi2 j (by omega)⟩
  simp only [go_sem]
  rw [wrap_nat (by omega)]
end Go.Q
