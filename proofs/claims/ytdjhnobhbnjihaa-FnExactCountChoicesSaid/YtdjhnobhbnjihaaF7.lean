import Derived.Test.YtdjhnobhbnjihaaQd
import Derived.Test.YtdjhnobhbnjihaaProg
import Derived.KernelRfl
set_option linter.unusedVariables false
set_option linter.unusedSimpArgs false
namespace Go.Q
open Go.Proofs
set_option linter.unusedSimpArgs false
set_option linter.unusedVariables false
def ir14 : C := .sq (.rg [.mv 4 (.i 0)]) (.sq (.rg [.mv 6 (.t 1), .mv 7 (.t 0), .ln 8 false (.t 7), .bi 9 .sub (.t 6) (.t 8), .mv 1 (.t 9)]) (.sq (.sq (.rg [.mv 10 (.t 1), .bi 11 .lss (.t 10) (.i 0)]) (.cd (.t 11) (.sq (.rg [.mv 4 (.i (-1))]) (.rt)) (.skip))) (.sq (.sq (.rg [.mv 5 (.i 0)]) (.bk 0 (.lp (.sq (.sq (.rg [.mv 12 (.t 5), .mv 13 (.t 0), .ln 14 false (.t 13), .bi 15 .lss (.t 12) (.t 14)]) (.cd (.t 15) (.skip) (.ex 0))) (.sq (.bk 1 (.sq (.rg [.mv 18 (.t 1), .mv 19 (.t 0), .mv 20 (.t 5), .ia 21 (.t 19) (.t 20) kS, .ld 22 (.t 21) kS, .ln 23 true (.t 22), .bi 24 .sub (.t 18) (.t 23), .mv 1 (.t 24)]) (.sq (.rg [.mv 25 (.t 1), .bi 26 .lss (.t 25) (.i 0)]) (.cd (.t 26) (.sq (.rg [.mv 4 (.i (-1))]) (.rt)) (.skip))))) (.rg [.mv 16 (.t 5), .bi 17 .add (.t 16) (.i 1), .mv 5 (.t 17)])))))) (.sq (.rg [.mv 27 (.t 1), .mv 4 (.t 27)]) (.rt)))))
noncomputable def c14 : List SA → Option RA := con2p (kL kS) kI (fun (a : List Str) (n : Int) => decide (0 ≤ n) && decide (n ≤ 1048576)) fun (a : List Str) (n : Int) => .v kI (sz1 (szL List.length a : Nat) n)
theorem s14 (a : List Str) (n : Int) (hn : (decide (0 ≤ n) && decide (n ≤ 1048576)) = true) : Sp Try.prog 14 [.v (kL kS) a, .v kI n] (.v kI (sz1 (szL List.length a : Nat) n)) := by
  refine Sp_intro [] trivial (N := 28) (vs := [.t 4 (.v kI)]) (c := ir14) Try.func14 (by kernel_rfl) rfl ?_
  unfold ir14
  simp only [Bool.and_eq_true, decide_eq_true_eq] at hn
  simp only [go_sem]
  intro h
  rw [wrap_id (by omega) (by omega)]
  refine ⟨fun h => sz1_of_neg (by unfold szL; omega), fun h0 => ?_⟩
  refine LP_intro (X := ⟨Try.prog, 28, []⟩) trivial [0, 1, 4, 5] [] (fun i : Nat => ⟨[(0, .v (kL kS) a), (1, .v kI (n - a.length - pfx List.length a i)), (4, .v kI 0), (5, .v kI (i : Int))], []⟩) (fun i => i ≤ a.length ∧ 0 ≤ n - a.length - pfx List.length a i) (fun i => a.length - i) ⟨0, ⟨Nat.zero_le _, by rw [pfx_zero]; omega⟩, ?_⟩ (fun i hi => ?_)
  · simp only [go_sem, pfx_zero, Int.natCast_zero, Int.sub_zero]
  obtain ⟨hi1, hi2⟩ := hi
  simp only [go_sem]
  intro _
  have hsum : szL List.length a = a.length + (a.map List.length).sum := rfl
  refine ⟨fun hlt => ?_, fun hge => ?_⟩
  · refine ⟨hlt, fun hs => ?_⟩
    have h1 := pfx_succ List.length a hlt (Ki.z kS)
    have h2 := pfx_le List.length a (i + 1)
    rw [wrap_id (by omega) (by omega)]
    refine ⟨fun h => sz1_of_neg (by omega), fun h3 => ⟨i + 1, ⟨hlt, by omega⟩, by dsimp only; omega, ?_⟩⟩
    have e : n - (a.length : Int) - (pfx List.length a i : Int) - ((List.length (gt a (i : Int) (Ki.z kS)) : Nat) : Int) = n - (a.length : Int) - (pfx List.length a (i + 1) : Int) := by omega
    simp only [go_sem]
    rw [wrap_nat (by omega), e]
  · have := pfx_all List.length a (i := i) (by omega)
    exact sz1_of_nn (by omega) (by omega)
def ir16 : C := .sq (.rg [.mv 2 (.nl kS)]) (.sq (.rg [.mv 5 (.t 0), .ln 6 false (.t 5), .mk 7 true kS (.t 6), .mv 3 (.t 7)]) (.sq (.sq (.rg [.mv 4 (.i 0)]) (.bk 0 (.lp (.sq (.sq (.rg [.mv 8 (.t 4), .mv 9 (.t 0), .ln 10 false (.t 9), .bi 11 .lss (.t 8) (.t 10)]) (.cd (.t 11) (.skip) (.ex 0))) (.sq (.bk 1 (.rg [.mv 14 (.t 3), .mv 15 (.t 4), .mv 16 (.t 0), .mv 17 (.t 4), .ia 18 (.t 16) (.t 17) kS, .ld 19 (.t 18) kS, .ia 20 (.t 14) (.t 15) kS, .st (.t 20) (.t 19) kS])) (.rg [.mv 12 (.t 4), .bi 13 .add (.t 12) (.i 1), .mv 4 (.t 13)])))))) (.sq (.rg [.mv 21 (.t 3), .mv 2 (.t 21)]) (.rt))))
noncomputable def c16 : List SA → Option RA := con1p (kL kS) (fun (a : List Str) => decide (szL List.length a ≤ 1048576)) fun (a : List Str) => .v (kL kS) a
theorem s16 (a : List Str) (hn : (decide (szL List.length a ≤ 1048576)) = true) : Sp Try.prog 16 [.v (kL kS) a] (.v (kL kS) a) := by
  refine Sp_intro [] trivial (N := 22) (vs := [.t 2 (.v (kL kS))]) (c := ir16) Try.func16 (by kernel_rfl) rfl ?_
  unfold ir16
  simp only [Bool.and_eq_true, decide_eq_true_eq] at hn
  have hsz : a.length ≤ 1048576 := by have : szL List.length a = a.length + (a.map List.length).sum := rfl; omega
  simp only [go_sem]
  intro _
  refine ⟨by omega, ?_⟩
  refine LP_intro (X := ⟨Try.prog, 22, []⟩) trivial [0, 2, 3, 4] [[7]] (fun i : Nat => ⟨[(0, .v (kL kS) a), (2, .nl kS), (3, .sl [7]), (4, .v kI (i : Int))], [([7], .row true false kS (cpy a i (Ki.z kS)))]⟩) (fun i => i ≤ a.length) (fun i => a.length - i) ⟨0, Nat.zero_le _, ?_⟩ (fun i hi => ?_)
  · simp only [go_sem, ← cpy_zero]; rfl
  simp only [go_sem, cpy_len]
  intro _
  refine ⟨fun hlt => ⟨hlt, hlt, hlt, ⟨i + 1, hlt, by dsimp only; omega, ?_⟩⟩, fun hge => cpy_all a _ hge⟩
  simp only [go_sem]
  rw [wrap_nat (by omega), cpy_set a _ _ hlt]
def ir18 : C := .sq (.rg [.mv 4 (.b false)]) (.sq (.sq (.rg [.mv 6 (.t 0), .ln 7 false (.t 6), .mv 8 (.t 1), .ln 9 false (.t 8), .bi 10 .neq (.t 7) (.t 9)]) (.cd (.t 10) (.sq (.rg [.mv 4 (.b false)]) (.rt)) (.skip))) (.sq (.sq (.rg [.mv 5 (.i 0)]) (.bk 0 (.lp (.sq (.sq (.rg [.mv 11 (.t 5), .mv 12 (.t 0), .ln 13 false (.t 12), .bi 14 .lss (.t 11) (.t 13)]) (.cd (.t 14) (.skip) (.ex 0))) (.sq (.bk 1 (.sq (.dr [] [.mv 17 (.t 0), .mv 18 (.t 5), .ia 19 (.t 17) (.t 18) kS, .ld 20 (.t 19) kS, .mv 21 (.t 1), .mv 22 (.t 5), .ia 23 (.t 21) (.t 22) kS, .ld 24 (.t 23) kS] [.bi 25 .neq (.t 20) (.t 24)]) (.cd (.t 25) (.sq (.rg [.mv 4 (.b false)]) (.rt)) (.skip)))) (.rg [.mv 15 (.t 5), .bi 16 .add (.t 15) (.i 1), .mv 5 (.t 16)])))))) (.sq (.rg [.mv 4 (.b true)]) (.rt))))
noncomputable def c18 : List SA → Option RA := con2 (kL kS) (kL kS) fun (a b : List Str) => .v .bool (eqb a b)
theorem s18 (a b : List Str) : Sp Try.prog 18 [.v (kL kS) a, .v (kL kS) b] (.v .bool (eqb a b)) := by
  refine Sp_intro [] trivial (N := 26) (vs := [.t 4 (.v .bool)]) (c := ir18) Try.func18 (by kernel_rfl) rfl ?_
  unfold ir18
  simp only [go_sem]
  intro h1 h2
  refine ⟨fun h3 h => h3 (by rw [h]), fun h3 => ?_⟩
  refine LP_intro (X := ⟨Try.prog, 26, []⟩) trivial [0, 1, 4, 5] [] (fun i : Nat => ⟨[(0, .v (kL kS) a), (1, .v (kL kS) b), (4, .v .bool false), (5, .v kI (i : Int))], []⟩) (fun i => i ≤ a.length ∧ ∀ j : Nat, j < i → gt a (j : Int) (Ki.z kS) = gt b (j : Int) (Ki.z kS)) (fun i => a.length - i) ⟨0, ⟨Nat.zero_le _, fun j hj => absurd hj (Nat.not_lt_zero j)⟩, ?_⟩ (fun i hi => ?_)
  · simp only [go_sem]; rfl
  obtain ⟨hi1, hi2⟩ := hi
  simp only [go_sem]
  intro _
  refine ⟨fun hlt => ⟨hlt, by omega, fun hne h => hne (by rw [h]), fun he => ⟨i + 1, ⟨hlt, below_succ hi2 he⟩, by dsimp only; omega, ?_⟩⟩, fun hge => row_eq (by omega) fun j hj => hi2 j (by omega)⟩
  simp only [go_sem]
  rw [wrap_nat (by omega)]
def ir124 : C := .sq (.rg [.mv 4 (.i 0)]) (.sq (.rg [.mv 6 (.t 1), .mv 7 (.t 0), .ln 8 false (.t 7), .bi 9 .sub (.t 6) (.t 8), .mv 1 (.t 9)]) (.sq (.sq (.rg [.mv 10 (.t 1), .bi 11 .lss (.t 10) (.i 0)]) (.cd (.t 11) (.sq (.rg [.mv 4 (.i (-1))]) (.rt)) (.skip))) (.sq (.sq (.rg [.mv 5 (.i 0)]) (.bk 0 (.lp (.sq (.sq (.rg [.mv 12 (.t 5), .mv 13 (.t 0), .ln 14 false (.t 13), .bi 15 .lss (.t 12) (.t 14)]) (.cd (.t 15) (.skip) (.ex 0))) (.sq (.bk 1 (.sq (.rg [.mv 18 (.t 0), .mv 19 (.t 5), .ia 20 (.t 18) (.t 19) (kR 1), .ld 21 (.t 20) (kR 1), .mv 22 (.t 1), .cv (some 23) 149 [((.t 21), .v (kR 1)), ((.t 22), .v kI)], .mv 1 (.t 23)]) (.sq (.rg [.mv 24 (.t 1), .bi 25 .lss (.t 24) (.i 0)]) (.cd (.t 25) (.sq (.rg [.mv 4 (.i (-1))]) (.rt)) (.skip))))) (.rg [.mv 16 (.t 5), .bi 17 .add (.t 16) (.i 1), .mv 5 (.t 17)])))))) (.sq (.rg [.mv 26 (.t 1), .mv 4 (.t 26)]) (.rt)))))
noncomputable def c124 : List SA → Option RA := con2p (kL (kR 1)) kI (fun (a : List Val) (n : Int) => decide (0 ≤ n) && decide (n ≤ 1048576)) fun (a : List Val) (n : Int) => .v kI (sz1 (szL zVal a : Nat) n)
def ir149 : C := .sq (.rg [.bx 2 (.t 0) (kR 1), .mv 4 (.i 0)]) (.sq (.rg [.fa 5 (.t 2) 1 2 2, .ld 6 (.t 5) (kL kS), .mv 7 (.t 1), .cv (some 8) 14 [((.t 6), .v (kL kS)), ((.t 7), .v kI)], .mv 1 (.t 8)]) (.sq (.sq (.rg [.mv 9 (.t 1), .bi 10 .lss (.t 9) (.i 0)]) (.cd (.t 10) (.sq (.rg [.mv 4 (.i (-1))]) (.rt)) (.skip))) (.sq (.rg [.fa 11 (.t 2) 1 3 3, .ld 12 (.t 11) (kL (kR 1)), .mv 13 (.t 1), .cv (some 14) 124 [((.t 12), .v (kL (kR 1))), ((.t 13), .v kI)], .mv 1 (.t 14)]) (.sq (.sq (.rg [.mv 15 (.t 1), .bi 16 .lss (.t 15) (.i 0)]) (.cd (.t 16) (.sq (.rg [.mv 4 (.i (-1))]) (.rt)) (.skip))) (.sq (.rg [.mv 17 (.t 1), .mv 4 (.t 17)]) (.rt))))))
noncomputable def c149 : List SA → Option RA := con2p (kR 1) kI (fun (a : Val) (n : Int) => decide (0 ≤ n) && decide (n ≤ 1048576)) fun (a : Val) (n : Int) => .v kI (sz1 (zVal a : Nat) n)
noncomputable def d124 (m : Nat) : List SA → Option RA := con2p (kL (kR 1)) kI (fun (a : List Val) (n : Int) => decide (4 * (szL zVal a) < m) && (decide (0 ≤ n) && decide (n ≤ 1048576))) fun (a : List Val) (n : Int) => .v kI (sz1 (szL zVal a : Nat) n)
noncomputable def d149 (m : Nat) : List SA → Option RA := con2p (kR 1) kI (fun (a : Val) (n : Int) => decide (4 * (zVal a) + 1 < m) && (decide (0 ≤ n) && decide (n ≤ 1048576))) fun (a : Val) (n : Int) => .v kI (sz1 (zVal a : Nat) n)
theorem grp124_149 : ∀ m : Nat, (∀ (a : List Val) (n : Int), (decide (4 * (szL zVal a) < m) && (decide (0 ≤ n) && decide (n ≤ 1048576))) = true → Sp Try.prog 124 [.v (kL (kR 1)) a, .v kI n] (.v kI (sz1 (szL zVal a : Nat) n))) ∧ (∀ (a : Val) (n : Int), (decide (4 * (zVal a) + 1 < m) && (decide (0 ≤ n) && decide (n ≤ 1048576))) = true → Sp Try.prog 149 [.v (kR 1) a, .v kI n] (.v kI (sz1 (zVal a : Nat) n)))
  | 0 => ⟨fun a n h => by simp at h, fun a n h => by simp at h⟩
  | m + 1 => by
    have ih := grp124_149 m
    refine ⟨fun a n hn => ?_, fun a n hn => ?_⟩
    · refine Sp_intro [(149, d149 m)] ⟨con2p_ok ih.2, trivial⟩ (N := 27) (vs := [.t 4 (.v kI)]) (c := ir124) Try.func124 (by kernel_rfl) rfl ?_
      unfold ir124 d149
      simp only [Bool.and_eq_true, decide_eq_true_eq] at hn
      simp only [go_sem]
      intro h
      rw [wrap_id (by omega) (by omega)]
      refine ⟨fun h => sz1_of_neg (by unfold szL; omega), fun h0 => ?_⟩
      refine LP_intro (X := ⟨Try.prog, 27, [(149, d149 m)]⟩) ⟨con2p_ok ih.2, trivial⟩ [0, 1, 4, 5] [] (fun i : Nat => ⟨[(0, .v (kL (kR 1)) a), (1, .v kI (n - a.length - pfx zVal a i)), (4, .v kI 0), (5, .v kI (i : Int))], []⟩) (fun i => i ≤ a.length ∧ 0 ≤ n - a.length - pfx zVal a i) (fun i => a.length - i) ⟨0, ⟨Nat.zero_le _, by rw [pfx_zero]; omega⟩, ?_⟩ (fun i hi => ?_)
      · simp only [go_sem, pfx_zero, Int.natCast_zero, Int.sub_zero]
      obtain ⟨hi1, hi2⟩ := hi
      simp only [go_sem, d149]
      intro _
      have hsum : szL zVal a = a.length + (a.map zVal).sum := rfl
      refine ⟨fun hlt => ?_, fun hge => ?_⟩
      · have h1 := pfx_succ zVal a hlt (Ki.z (kR 1))
        have h2 := pfx_le zVal a (i + 1)
        have h4 := szL_at zVal a hlt (Ki.z (kR 1))
        refine ⟨hlt, by omega, fun h => sz1_of_neg (by have := sz1_neg h; omega), fun h3 => ?_⟩
        obtain ⟨h5, h6⟩ := sz1_nn h3
        rw [h6] at h3 ⊢
        refine ⟨i + 1, ⟨hlt, by omega⟩, by dsimp only; omega, ?_⟩
        have e : n - (a.length : Int) - (pfx zVal a i : Int) - ((zVal (gt a (i : Int) (Ki.z (kR 1))) : Nat) : Int) = n - (a.length : Int) - (pfx zVal a (i + 1) : Int) := by omega
        simp only [go_sem]
        rw [wrap_nat (by omega), e]
      · have := pfx_all zVal a (i := i) (by omega)
        exact sz1_of_nn (by omega) (by omega)
    · refine Sp_intro [(14, c14), (124, d124 m)] ⟨con2p_ok s14, con2p_ok ih.1, trivial⟩ (N := 18) (vs := [.t 4 (.v kI)]) (c := ir149) Try.func149 (by kernel_rfl) rfl ?_
      unfold ir149 c14 d124
      simp only [Bool.and_eq_true, decide_eq_true_eq] at hn
      have hf := zVal_f a
      have p0 : 4 * (szL zVal a.args) < m := by omega
      simp only [go_sem, p0]
      refine ⟨by omega, fun h => sz1_of_neg (by have := sz1_neg h; have hz := zVal_f a; omega), fun h => ?_⟩
      obtain ⟨g, e⟩ := sz1_nn h
      rw [e] at h ⊢
      clear e
      refine ⟨by omega, fun h => sz1_of_neg (by have := sz1_neg h; have hz := zVal_f a; omega), fun h => ?_⟩
      obtain ⟨g, e⟩ := sz1_nn h
      rw [e] at h ⊢
      clear e
      exact sz1_of_nn (by have hz := zVal_f a; omega) (by omega)
theorem s124 (a : List Val) (n : Int) (hn : (decide (0 ≤ n) && decide (n ≤ 1048576)) = true) : Sp Try.prog 124 [.v (kL (kR 1)) a, .v kI n] (.v kI (sz1 (szL zVal a : Nat) n)) := (grp124_149 (4 * (szL zVal a) + 1)).1 a n (by simp only [Bool.and_eq_true, decide_eq_true_eq] at hn ⊢; omega)
theorem s149 (a : Val) (n : Int) (hn : (decide (0 ≤ n) && decide (n ≤ 1048576)) = true) : Sp Try.prog 149 [.v (kR 1) a, .v kI n] (.v kI (sz1 (zVal a : Nat) n)) := (grp124_149 (4 * (zVal a) + 1 + 1)).2 a n (by simp only [Bool.and_eq_true, decide_eq_true_eq] at hn ⊢; omega)
def ir129 : C := .sq (.rg [.bx 2 (.t 0) (kR 6), .mv 4 (.i 0)]) (.sq (.rg [.mv 5 (.t 1), .fa 6 (.t 2) 6 0 0, .ld 7 (.t 6) kS, .ln 8 true (.t 7), .bi 9 .sub (.t 5) (.t 8), .mv 1 (.t 9)]) (.sq (.sq (.rg [.mv 10 (.t 1), .bi 11 .lss (.t 10) (.i 0)]) (.cd (.t 11) (.sq (.rg [.mv 4 (.i (-1))]) (.rt)) (.skip))) (.sq (.rg [.fa 12 (.t 2) 6 1 1, .ld 13 (.t 12) (kL (kR 1)), .mv 14 (.t 1), .cv (some 15) 124 [((.t 13), .v (kL (kR 1))), ((.t 14), .v kI)], .mv 1 (.t 15)]) (.sq (.sq (.rg [.mv 16 (.t 1), .bi 17 .lss (.t 16) (.i 0)]) (.cd (.t 17) (.sq (.rg [.mv 4 (.i (-1))]) (.rt)) (.skip))) (.sq (.rg [.mv 18 (.t 1), .mv 4 (.t 18)]) (.rt))))))
noncomputable def c129 : List SA → Option RA := con2p (kR 6) kI (fun (a : TData) (n : Int) => decide (0 ≤ n) && decide (n ≤ 1048576)) fun (a : TData) (n : Int) => .v kI (sz1 (zTData a : Nat) n)
theorem s129 (a : TData) (n : Int) (hn : (decide (0 ≤ n) && decide (n ≤ 1048576)) = true) : Sp Try.prog 129 [.v (kR 6) a, .v kI n] (.v kI (sz1 (zTData a : Nat) n)) := by
  refine Sp_intro [(124, c124)] ⟨con2p_ok s124, trivial⟩ (N := 19) (vs := [.t 4 (.v kI)]) (c := ir129) Try.func129 (by kernel_rfl) rfl ?_
  unfold ir129 c124
  simp only [Bool.and_eq_true, decide_eq_true_eq] at hn
  simp only [go_sem]
  intro hl
  rw [wrap_id (by omega) (by omega)]
  refine ⟨fun h => sz1_of_neg (by have hz := zTData_f a; omega), fun g => ?_⟩
  refine ⟨by omega, fun h => sz1_of_neg (by have := sz1_neg h; have hz := zTData_f a; omega), fun h => ?_⟩
  obtain ⟨g, e⟩ := sz1_nn h
  rw [e] at h ⊢
  clear e
  exact sz1_of_nn (by have hz := zTData_f a; omega) (by omega)
def ir82 : C := .sq (.rg [.mv 4 (.i 0)]) (.sq (.rg [.mv 6 (.t 1), .mv 7 (.t 0), .ln 8 false (.t 7), .bi 9 .sub (.t 6) (.t 8), .mv 1 (.t 9)]) (.sq (.sq (.rg [.mv 10 (.t 1), .bi 11 .lss (.t 10) (.i 0)]) (.cd (.t 11) (.sq (.rg [.mv 4 (.i (-1))]) (.rt)) (.skip))) (.sq (.sq (.rg [.mv 5 (.i 0)]) (.bk 0 (.lp (.sq (.sq (.rg [.mv 12 (.t 5), .mv 13 (.t 0), .ln 14 false (.t 13), .bi 15 .lss (.t 12) (.t 14)]) (.cd (.t 15) (.skip) (.ex 0))) (.sq (.bk 1 (.sq (.rg [.mv 18 (.t 0), .mv 19 (.t 5), .ia 20 (.t 18) (.t 19) (kR 6), .ld 21 (.t 20) (kR 6), .mv 22 (.t 1), .cv (some 23) 129 [((.t 21), .v (kR 6)), ((.t 22), .v kI)], .mv 1 (.t 23)]) (.sq (.rg [.mv 24 (.t 1), .bi 25 .lss (.t 24) (.i 0)]) (.cd (.t 25) (.sq (.rg [.mv 4 (.i (-1))]) (.rt)) (.skip))))) (.rg [.mv 16 (.t 5), .bi 17 .add (.t 16) (.i 1), .mv 5 (.t 17)])))))) (.sq (.rg [.mv 26 (.t 1), .mv 4 (.t 26)]) (.rt)))))
noncomputable def c82 : List SA → Option RA := con2p (kL (kR 6)) kI (fun (a : List TData) (n : Int) => decide (0 ≤ n) && decide (n ≤ 1048576)) fun (a : List TData) (n : Int) => .v kI (sz1 (szL zTData a : Nat) n)
theorem s82 (a : List TData) (n : Int) (hn : (decide (0 ≤ n) && decide (n ≤ 1048576)) = true) : Sp Try.prog 82 [.v (kL (kR 6)) a, .v kI n] (.v kI (sz1 (szL zTData a : Nat) n)) := by
  refine Sp_intro [(129, c129)] ⟨con2p_ok s129, trivial⟩ (N := 27) (vs := [.t 4 (.v kI)]) (c := ir82) Try.func82 (by kernel_rfl) rfl ?_
  unfold ir82 c129
  simp only [Bool.and_eq_true, decide_eq_true_eq] at hn
  simp only [go_sem]
  intro h
  rw [wrap_id (by omega) (by omega)]
  refine ⟨fun h => sz1_of_neg (by unfold szL; omega), fun h0 => ?_⟩
  refine LP_intro (X := ⟨Try.prog, 27, [(129, c129)]⟩) ⟨con2p_ok s129, trivial⟩ [0, 1, 4, 5] [] (fun i : Nat => ⟨[(0, .v (kL (kR 6)) a), (1, .v kI (n - a.length - pfx zTData a i)), (4, .v kI 0), (5, .v kI (i : Int))], []⟩) (fun i => i ≤ a.length ∧ 0 ≤ n - a.length - pfx zTData a i) (fun i => a.length - i) ⟨0, ⟨Nat.zero_le _, by rw [pfx_zero]; omega⟩, ?_⟩ (fun i hi => ?_)
  · simp only [go_sem, pfx_zero, Int.natCast_zero, Int.sub_zero]
  obtain ⟨hi1, hi2⟩ := hi
  simp only [go_sem, c129]
  intro _
  have hsum : szL zTData a = a.length + (a.map zTData).sum := rfl
  refine ⟨fun hlt => ?_, fun hge => ?_⟩
  · have h1 := pfx_succ zTData a hlt (Ki.z (kR 6))
    have h2 := pfx_le zTData a (i + 1)
    have h4 := szL_at zTData a hlt (Ki.z (kR 6))
    refine ⟨hlt, by omega, fun h => sz1_of_neg (by have := sz1_neg h; omega), fun h3 => ?_⟩
    obtain ⟨h5, h6⟩ := sz1_nn h3
    rw [h6] at h3 ⊢
    refine ⟨i + 1, ⟨hlt, by omega⟩, by dsimp only; omega, ?_⟩
    have e : n - (a.length : Int) - (pfx zTData a i : Int) - ((zTData (gt a (i : Int) (Ki.z (kR 6))) : Nat) : Int) = n - (a.length : Int) - (pfx zTData a (i + 1) : Int) := by omega
    simp only [go_sem]
    rw [wrap_nat (by omega), e]
  · have := pfx_all zTData a (i := i) (by omega)
    exact sz1_of_nn (by omega) (by omega)
def ir31 : C := .sq (.rg [.bx 2 (.t 0) (kR 7), .mv 4 (.i 0)]) (.sq (.rg [.fa 5 (.t 2) 7 0 0, .ld 6 (.t 5) (kL (kR 6)), .mv 7 (.t 1), .cv (some 8) 82 [((.t 6), .v (kL (kR 6))), ((.t 7), .v kI)], .mv 1 (.t 8)]) (.sq (.sq (.rg [.mv 9 (.t 1), .bi 10 .lss (.t 9) (.i 0)]) (.cd (.t 10) (.sq (.rg [.mv 4 (.i (-1))]) (.rt)) (.skip))) (.sq (.rg [.mv 11 (.t 1), .mv 4 (.t 11)]) (.rt))))
noncomputable def c31 : List SA → Option RA := con2p (kR 7) kI (fun (a : DBase) (n : Int) => decide (0 ≤ n) && decide (n ≤ 1048576)) fun (a : DBase) (n : Int) => .v kI (sz1 (zDBase a : Nat) n)
theorem s31 (a : DBase) (n : Int) (hn : (decide (0 ≤ n) && decide (n ≤ 1048576)) = true) : Sp Try.prog 31 [.v (kR 7) a, .v kI n] (.v kI (sz1 (zDBase a : Nat) n)) := by
  refine Sp_intro [(82, c82)] ⟨con2p_ok s82, trivial⟩ (N := 12) (vs := [.t 4 (.v kI)]) (c := ir31) Try.func31 (by kernel_rfl) rfl ?_
  unfold ir31 c82
  simp only [Bool.and_eq_true, decide_eq_true_eq] at hn
  simp only [go_sem]
  refine ⟨by omega, fun h => sz1_of_neg (by have := sz1_neg h; have hz := zDBase_f a; omega), fun h => ?_⟩
  obtain ⟨g, e⟩ := sz1_nn h
  rw [e] at h ⊢
  clear e
  exact sz1_of_nn (by have hz := zDBase_f a; omega) (by omega)
def ir83 : C := .sq (.rg [.bx 2 (.t 0) (kR 3), .mv 4 (.i 0)]) (.sq (.rg [.mv 5 (.t 1), .fa 6 (.t 2) 3 0 0, .ld 7 (.t 6) kS, .ln 8 true (.t 7), .bi 9 .sub (.t 5) (.t 8), .mv 1 (.t 9)]) (.sq (.sq (.rg [.mv 10 (.t 1), .bi 11 .lss (.t 10) (.i 0)]) (.cd (.t 11) (.sq (.rg [.mv 4 (.i (-1))]) (.rt)) (.skip))) (.sq (.rg [.mv 12 (.t 1), .fa 13 (.t 2) 3 1 1, .ld 14 (.t 13) kS, .ln 15 true (.t 14), .bi 16 .sub (.t 12) (.t 15), .mv 1 (.t 16)]) (.sq (.sq (.rg [.mv 17 (.t 1), .bi 18 .lss (.t 17) (.i 0)]) (.cd (.t 18) (.sq (.rg [.mv 4 (.i (-1))]) (.rt)) (.skip))) (.sq (.rg [.mv 19 (.t 1), .mv 4 (.t 19)]) (.rt))))))
noncomputable def c83 : List SA → Option RA := con2p (kR 3) kI (fun (a : Gen) (n : Int) => decide (0 ≤ n) && decide (n ≤ 1048576)) fun (a : Gen) (n : Int) => .v kI (sz1 (zGen a : Nat) n)
theorem s83 (a : Gen) (n : Int) (hn : (decide (0 ≤ n) && decide (n ≤ 1048576)) = true) : Sp Try.prog 83 [.v (kR 3) a, .v kI n] (.v kI (sz1 (zGen a : Nat) n)) := by
  refine Sp_intro [] trivial (N := 20) (vs := [.t 4 (.v kI)]) (c := ir83) Try.func83 (by kernel_rfl) rfl ?_
  unfold ir83
  simp only [Bool.and_eq_true, decide_eq_true_eq] at hn
  simp only [go_sem]
  intro hl
  rw [wrap_id (by omega) (by omega)]
  refine ⟨fun h => sz1_of_neg (by have hz := zGen_f a; omega), fun g => ?_⟩
  intro hl
  rw [wrap_id (by omega) (by omega)]
  refine ⟨fun h => sz1_of_neg (by have hz := zGen_f a; omega), fun g => ?_⟩
  exact sz1_of_nn (by have hz := zGen_f a; omega) (by omega)
def ir32 : C := .sq (.rg [.mv 4 (.i 0)]) (.sq (.rg [.mv 6 (.t 1), .mv 7 (.t 0), .ln 8 false (.t 7), .bi 9 .sub (.t 6) (.t 8), .mv 1 (.t 9)]) (.sq (.sq (.rg [.mv 10 (.t 1), .bi 11 .lss (.t 10) (.i 0)]) (.cd (.t 11) (.sq (.rg [.mv 4 (.i (-1))]) (.rt)) (.skip))) (.sq (.sq (.rg [.mv 5 (.i 0)]) (.bk 0 (.lp (.sq (.sq (.rg [.mv 12 (.t 5), .mv 13 (.t 0), .ln 14 false (.t 13), .bi 15 .lss (.t 12) (.t 14)]) (.cd (.t 15) (.skip) (.ex 0))) (.sq (.bk 1 (.sq (.rg [.mv 18 (.t 0), .mv 19 (.t 5), .ia 20 (.t 18) (.t 19) (kR 3), .ld 21 (.t 20) (kR 3), .mv 22 (.t 1), .cv (some 23) 83 [((.t 21), .v (kR 3)), ((.t 22), .v kI)], .mv 1 (.t 23)]) (.sq (.rg [.mv 24 (.t 1), .bi 25 .lss (.t 24) (.i 0)]) (.cd (.t 25) (.sq (.rg [.mv 4 (.i (-1))]) (.rt)) (.skip))))) (.rg [.mv 16 (.t 5), .bi 17 .add (.t 16) (.i 1), .mv 5 (.t 17)])))))) (.sq (.rg [.mv 26 (.t 1), .mv 4 (.t 26)]) (.rt)))))
noncomputable def c32 : List SA → Option RA := con2p (kL (kR 3)) kI (fun (a : List Gen) (n : Int) => decide (0 ≤ n) && decide (n ≤ 1048576)) fun (a : List Gen) (n : Int) => .v kI (sz1 (szL zGen a : Nat) n)
theorem s32 (a : List Gen) (n : Int) (hn : (decide (0 ≤ n) && decide (n ≤ 1048576)) = true) : Sp Try.prog 32 [.v (kL (kR 3)) a, .v kI n] (.v kI (sz1 (szL zGen a : Nat) n)) := by
  refine Sp_intro [(83, c83)] ⟨con2p_ok s83, trivial⟩ (N := 27) (vs := [.t 4 (.v kI)]) (c := ir32) Try.func32 (by kernel_rfl) rfl ?_
  unfold ir32 c83
  simp only [Bool.and_eq_true, decide_eq_true_eq] at hn
  simp only [go_sem]
  intro h
  rw [wrap_id (by omega) (by omega)]
  refine ⟨fun h => sz1_of_neg (by unfold szL; omega), fun h0 => ?_⟩
  refine LP_intro (X := ⟨Try.prog, 27, [(83, c83)]⟩) ⟨con2p_ok s83, trivial⟩ [0, 1, 4, 5] [] (fun i : Nat => ⟨[(0, .v (kL (kR 3)) a), (1, .v kI (n - a.length - pfx zGen a i)), (4, .v kI 0), (5, .v kI (i : Int))], []⟩) (fun i => i ≤ a.length ∧ 0 ≤ n - a.length - pfx zGen a i) (fun i => a.length - i) ⟨0, ⟨Nat.zero_le _, by rw [pfx_zero]; omega⟩, ?_⟩ (fun i hi => ?_)
  · simp only [go_sem, pfx_zero, Int.natCast_zero, Int.sub_zero]
  obtain ⟨hi1, hi2⟩ := hi
  simp only [go_sem, c83]
  intro _
  have hsum : szL zGen a = a.length + (a.map zGen).sum := rfl
  refine ⟨fun hlt => ?_, fun hge => ?_⟩
  · have h1 := pfx_succ zGen a hlt (Ki.z (kR 3))
    have h2 := pfx_le zGen a (i + 1)
    have h4 := szL_at zGen a hlt (Ki.z (kR 3))
    refine ⟨hlt, by omega, fun h => sz1_of_neg (by have := sz1_neg h; omega), fun h3 => ?_⟩
    obtain ⟨h5, h6⟩ := sz1_nn h3
    rw [h6] at h3 ⊢
    refine ⟨i + 1, ⟨hlt, by omega⟩, by dsimp only; omega, ?_⟩
    have e : n - (a.length : Int) - (pfx zGen a i : Int) - ((zGen (gt a (i : Int) (Ki.z (kR 3))) : Nat) : Int) = n - (a.length : Int) - (pfx zGen a (i + 1) : Int) := by omega
    simp only [go_sem]
    rw [wrap_nat (by omega), e]
  · have := pfx_all zGen a (i := i) (by omega)
    exact sz1_of_nn (by omega) (by omega)
def ir126 : C := .sq (.rg [.mv 2 (.nl (kR 1))]) (.sq (.rg [.mv 5 (.t 0), .ln 6 false (.t 5), .mk 7 false (kR 1) (.t 6), .mv 3 (.t 7)]) (.sq (.sq (.rg [.mv 4 (.i 0)]) (.bk 0 (.lp (.sq (.sq (.rg [.mv 8 (.t 4), .mv 9 (.t 0), .ln 10 false (.t 9), .bi 11 .lss (.t 8) (.t 10)]) (.cd (.t 11) (.skip) (.ex 0))) (.sq (.bk 1 (.rg [.mv 14 (.t 3), .mv 15 (.t 4), .mv 16 (.t 0), .mv 17 (.t 4), .ia 18 (.t 16) (.t 17) (kR 1), .ld 19 (.t 18) (kR 1), .cv (some 20) 152 [((.t 19), .v (kR 1))], .ia 21 (.t 14) (.t 15) (kR 1), .st (.t 21) (.t 20) (kR 1)])) (.rg [.mv 12 (.t 4), .bi 13 .add (.t 12) (.i 1), .mv 4 (.t 13)])))))) (.sq (.rg [.mv 22 (.t 3), .mv 2 (.t 22)]) (.rt))))
noncomputable def c126 : List SA → Option RA := con1p (kL (kR 1)) (fun (a : List Val) => decide (szL zVal a ≤ 1048576)) fun (a : List Val) => .v (kL (kR 1)) a
def ir152 : C := .sq (.rg [.bx 1 (.t 0) (kR 1), .al 2 (kR 1)]) (.sq (.rg [.al 3 (kR 1)]) (.sq (.rg [.fa 4 (.t 1) 1 0 0, .ld 5 (.t 4) kI, .fa 6 (.t 3) 1 0 0, .st (.t 6) (.t 5) kI]) (.sq (.rg [.fa 7 (.t 1) 1 1 1, .ld 8 (.t 7) kI, .fa 9 (.t 3) 1 1 1, .st (.t 9) (.t 8) kI]) (.sq (.rg [.fa 10 (.t 1) 1 2 2, .ld 11 (.t 10) (kL kS), .cv (some 12) 16 [((.t 11), .v (kL kS))], .fa 13 (.t 3) 1 2 2, .st (.t 13) (.t 12) (kL kS)]) (.sq (.rg [.fa 14 (.t 1) 1 3 3, .ld 15 (.t 14) (kL (kR 1)), .cv (some 16) 126 [((.t 15), .v (kL (kR 1)))], .fa 17 (.t 3) 1 3 3, .st (.t 17) (.t 16) (kL (kR 1))]) (.sq (.rg [.ld 18 (.t 3) (kR 1), .st (.t 2) (.t 18) (kR 1)]) (.rt)))))))
noncomputable def c152 : List SA → Option RA := con1p (kR 1) (fun (a : Val) => decide (zVal a ≤ 1048576)) fun (a : Val) => .v (kR 1) a
noncomputable def d126 (m : Nat) : List SA → Option RA := con1p (kL (kR 1)) (fun (a : List Val) => decide (4 * (szL zVal a) < m) && decide (szL zVal a ≤ 1048576)) fun (a : List Val) => .v (kL (kR 1)) a
noncomputable def d152 (m : Nat) : List SA → Option RA := con1p (kR 1) (fun (a : Val) => decide (4 * (zVal a) + 1 < m) && decide (zVal a ≤ 1048576)) fun (a : Val) => .v (kR 1) a
theorem grp126_152 : ∀ m : Nat, (∀ (a : List Val), (decide (4 * (szL zVal a) < m) && decide (szL zVal a ≤ 1048576)) = true → Sp Try.prog 126 [.v (kL (kR 1)) a] (.v (kL (kR 1)) a)) ∧ (∀ (a : Val), (decide (4 * (zVal a) + 1 < m) && decide (zVal a ≤ 1048576)) = true → Sp Try.prog 152 [.v (kR 1) a] (.v (kR 1) a))
  | 0 => ⟨fun a h => by simp at h, fun a h => by simp at h⟩
  | m + 1 => by
    have ih := grp126_152 m
    refine ⟨fun a hn => ?_, fun a hn => ?_⟩
    · refine Sp_intro [(152, d152 m)] ⟨con1p_ok ih.2, trivial⟩ (N := 23) (vs := [.t 2 (.v (kL (kR 1)))]) (c := ir126) Try.func126 (by kernel_rfl) rfl ?_
      unfold ir126 d152
      simp only [Bool.and_eq_true, decide_eq_true_eq] at hn
      have hsz : a.length ≤ 1048576 := by have : szL zVal a = a.length + (a.map zVal).sum := rfl; omega
      simp only [go_sem]
      intro _
      refine ⟨by omega, ?_⟩
      refine LP_intro (X := ⟨Try.prog, 23, [(152, d152 m)]⟩) ⟨con1p_ok ih.2, trivial⟩ [0, 2, 3, 4] [[7]] (fun i : Nat => ⟨[(0, .v (kL (kR 1)) a), (2, .nl (kR 1)), (3, .sl [7]), (4, .v kI (i : Int))], [([7], .row false false (kR 1) (cpy a i (Ki.z (kR 1))))]⟩) (fun i => i ≤ a.length) (fun i => a.length - i) ⟨0, Nat.zero_le _, ?_⟩ (fun i hi => ?_)
      · simp only [go_sem, ← cpy_zero]; rfl
      simp only [go_sem, cpy_len, d152]
      intro _
      refine ⟨fun hlt => ⟨hlt, (by have := szL_at zVal a hlt (Ki.z (kR 1)); have : szL zVal a ≤ 1048576 := (by omega); omega), hlt, hlt, ⟨i + 1, hlt, by dsimp only; omega, ?_⟩⟩, fun hge => cpy_all a _ hge⟩
      simp only [go_sem]
      rw [wrap_nat (by omega), cpy_set a _ _ hlt]
    · refine Sp_intro [(16, c16), (126, d126 m)] ⟨con1p_ok s16, con1p_ok ih.1, trivial⟩ (N := 19) (vs := [.c 2 (.v (kR 1))]) (c := ir152) Try.func152 (by kernel_rfl) rfl ?_
      unfold ir152 c16 d126
      simp only [Bool.and_eq_true, decide_eq_true_eq] at hn
      have hf := zVal_f a
      have p0 : szL List.length a.labels ≤ 1048576 := by omega
      have p1 : 4 * (szL zVal a.args) < m := by omega
      have p2 : szL zVal a.args ≤ 1048576 := by omega
      simp only [go_sem, p0, p1, p2]
      all_goals omega
theorem s126 (a : List Val) (hn : (decide (szL zVal a ≤ 1048576)) = true) : Sp Try.prog 126 [.v (kL (kR 1)) a] (.v (kL (kR 1)) a) := (grp126_152 (4 * (szL zVal a) + 1)).1 a (by simp only [Bool.and_eq_true, decide_eq_true_eq] at hn ⊢; omega)
theorem s152 (a : Val) (hn : (decide (zVal a ≤ 1048576)) = true) : Sp Try.prog 152 [.v (kR 1) a] (.v (kR 1) a) := (grp126_152 (4 * (zVal a) + 1 + 1)).2 a (by simp only [Bool.and_eq_true, decide_eq_true_eq] at hn ⊢; omega)
def ir132 : C := .sq (.rg [.bx 1 (.t 0) (kR 6), .al 2 (kR 6)]) (.sq (.rg [.al 3 (kR 6)]) (.sq (.rg [.fa 4 (.t 1) 6 0 0, .ld 5 (.t 4) kS, .fa 6 (.t 3) 6 0 0, .st (.t 6) (.t 5) kS]) (.sq (.rg [.fa 7 (.t 1) 6 1 1, .ld 8 (.t 7) (kL (kR 1)), .cv (some 9) 126 [((.t 8), .v (kL (kR 1)))], .fa 10 (.t 3) 6 1 1, .st (.t 10) (.t 9) (kL (kR 1))]) (.sq (.rg [.ld 11 (.t 3) (kR 6), .st (.t 2) (.t 11) (kR 6)]) (.rt)))))
noncomputable def c132 : List SA → Option RA := con1p (kR 6) (fun (a : TData) => decide (zTData a ≤ 1048576)) fun (a : TData) => .v (kR 6) a
theorem s132 (a : TData) (hn : (decide (zTData a ≤ 1048576)) = true) : Sp Try.prog 132 [.v (kR 6) a] (.v (kR 6) a) := by
  refine Sp_intro [(126, c126)] ⟨con1p_ok s126, trivial⟩ (N := 12) (vs := [.c 2 (.v (kR 6))]) (c := ir132) Try.func132 (by kernel_rfl) rfl ?_
  unfold ir132 c126
  simp only [Bool.and_eq_true, decide_eq_true_eq] at hn
  have hf := zTData_f a
  have p0 : szL zVal a.rows ≤ 1048576 := by omega
  simp only [go_sem, p0]
  all_goals omega
def ir85 : C := .sq (.rg [.mv 2 (.nl (kR 6))]) (.sq (.rg [.mv 5 (.t 0), .ln 6 false (.t 5), .mk 7 false (kR 6) (.t 6), .mv 3 (.t 7)]) (.sq (.sq (.rg [.mv 4 (.i 0)]) (.bk 0 (.lp (.sq (.sq (.rg [.mv 8 (.t 4), .mv 9 (.t 0), .ln 10 false (.t 9), .bi 11 .lss (.t 8) (.t 10)]) (.cd (.t 11) (.skip) (.ex 0))) (.sq (.bk 1 (.rg [.mv 14 (.t 3), .mv 15 (.t 4), .mv 16 (.t 0), .mv 17 (.t 4), .ia 18 (.t 16) (.t 17) (kR 6), .ld 19 (.t 18) (kR 6), .cv (some 20) 132 [((.t 19), .v (kR 6))], .ia 21 (.t 14) (.t 15) (kR 6), .st (.t 21) (.t 20) (kR 6)])) (.rg [.mv 12 (.t 4), .bi 13 .add (.t 12) (.i 1), .mv 4 (.t 13)])))))) (.sq (.rg [.mv 22 (.t 3), .mv 2 (.t 22)]) (.rt))))
noncomputable def c85 : List SA → Option RA := con1p (kL (kR 6)) (fun (a : List TData) => decide (szL zTData a ≤ 1048576)) fun (a : List TData) => .v (kL (kR 6)) a
theorem s85 (a : List TData) (hn : (decide (szL zTData a ≤ 1048576)) = true) : Sp Try.prog 85 [.v (kL (kR 6)) a] (.v (kL (kR 6)) a) := by
  refine Sp_intro [(132, c132)] ⟨con1p_ok s132, trivial⟩ (N := 23) (vs := [.t 2 (.v (kL (kR 6)))]) (c := ir85) Try.func85 (by kernel_rfl) rfl ?_
  unfold ir85 c132
  simp only [Bool.and_eq_true, decide_eq_true_eq] at hn
  have hsz : a.length ≤ 1048576 := by have : szL zTData a = a.length + (a.map zTData).sum := rfl; omega
  simp only [go_sem]
  intro _
  refine ⟨by omega, ?_⟩
  refine LP_intro (X := ⟨Try.prog, 23, [(132, c132)]⟩) ⟨con1p_ok s132, trivial⟩ [0, 2, 3, 4] [[7]] (fun i : Nat => ⟨[(0, .v (kL (kR 6)) a), (2, .nl (kR 6)), (3, .sl [7]), (4, .v kI (i : Int))], [([7], .row false false (kR 6) (cpy a i (Ki.z (kR 6))))]⟩) (fun i => i ≤ a.length) (fun i => a.length - i) ⟨0, Nat.zero_le _, ?_⟩ (fun i hi => ?_)
  · simp only [go_sem, ← cpy_zero]; rfl
  simp only [go_sem, cpy_len, c132]
  intro _
  refine ⟨fun hlt => ⟨hlt, (by have := szL_at zTData a hlt (Ki.z (kR 6)); have : szL zTData a ≤ 1048576 := (by omega); omega), hlt, hlt, ⟨i + 1, hlt, by dsimp only; omega, ?_⟩⟩, fun hge => cpy_all a _ hge⟩
  simp only [go_sem]
  rw [wrap_nat (by omega), cpy_set a _ _ hlt]
def ir34 : C := .sq (.rg [.bx 1 (.t 0) (kR 7), .al 2 (kR 7)]) (.sq (.rg [.al 3 (kR 7)]) (.sq (.rg [.fa 4 (.t 1) 7 0 0, .ld 5 (.t 4) (kL (kR 6)), .cv (some 6) 85 [((.t 5), .v (kL (kR 6)))], .fa 7 (.t 3) 7 0 0, .st (.t 7) (.t 6) (kL (kR 6))]) (.sq (.rg [.ld 8 (.t 3) (kR 7), .st (.t 2) (.t 8) (kR 7)]) (.rt))))
noncomputable def c34 : List SA → Option RA := con1p (kR 7) (fun (a : DBase) => decide (zDBase a ≤ 1048576)) fun (a : DBase) => .v (kR 7) a
theorem s34 (a : DBase) (hn : (decide (zDBase a ≤ 1048576)) = true) : Sp Try.prog 34 [.v (kR 7) a] (.v (kR 7) a) := by
  refine Sp_intro [(85, c85)] ⟨con1p_ok s85, trivial⟩ (N := 9) (vs := [.c 2 (.v (kR 7))]) (c := ir34) Try.func34 (by kernel_rfl) rfl ?_
  unfold ir34 c85
  simp only [Bool.and_eq_true, decide_eq_true_eq] at hn
  have hf := zDBase_f a
  have p0 : szL zTData a.tables ≤ 1048576 := by omega
  simp only [go_sem, p0]
  all_goals omega
def ir86 : C := .sq (.rg [.bx 1 (.t 0) (kR 3), .al 2 (kR 3)]) (.sq (.rg [.al 3 (kR 3)]) (.sq (.rg [.fa 4 (.t 1) 3 0 0, .ld 5 (.t 4) kS, .fa 6 (.t 3) 3 0 0, .st (.t 6) (.t 5) kS]) (.sq (.rg [.fa 7 (.t 1) 3 1 1, .ld 8 (.t 7) kS, .fa 9 (.t 3) 3 1 1, .st (.t 9) (.t 8) kS]) (.sq (.rg [.ld 10 (.t 3) (kR 3), .st (.t 2) (.t 10) (kR 3)]) (.rt)))))
noncomputable def c86 : List SA → Option RA := con1p (kR 3) (fun (a : Gen) => decide (zGen a ≤ 1048576)) fun (a : Gen) => .v (kR 3) a
theorem s86 (a : Gen) (hn : (decide (zGen a ≤ 1048576)) = true) : Sp Try.prog 86 [.v (kR 3) a] (.v (kR 3) a) := by
  refine Sp_intro [] trivial (N := 11) (vs := [.c 2 (.v (kR 3))]) (c := ir86) Try.func86 (by kernel_rfl) rfl ?_
  unfold ir86
  simp only [Bool.and_eq_true, decide_eq_true_eq] at hn
  simp only [go_sem]
  all_goals omega
def ir35 : C := .sq (.rg [.mv 2 (.nl (kR 3))]) (.sq (.rg [.mv 5 (.t 0), .ln 6 false (.t 5), .mk 7 false (kR 3) (.t 6), .mv 3 (.t 7)]) (.sq (.sq (.rg [.mv 4 (.i 0)]) (.bk 0 (.lp (.sq (.sq (.rg [.mv 8 (.t 4), .mv 9 (.t 0), .ln 10 false (.t 9), .bi 11 .lss (.t 8) (.t 10)]) (.cd (.t 11) (.skip) (.ex 0))) (.sq (.bk 1 (.rg [.mv 14 (.t 3), .mv 15 (.t 4), .mv 16 (.t 0), .mv 17 (.t 4), .ia 18 (.t 16) (.t 17) (kR 3), .ld 19 (.t 18) (kR 3), .cv (some 20) 86 [((.t 19), .v (kR 3))], .ia 21 (.t 14) (.t 15) (kR 3), .st (.t 21) (.t 20) (kR 3)])) (.rg [.mv 12 (.t 4), .bi 13 .add (.t 12) (.i 1), .mv 4 (.t 13)])))))) (.sq (.rg [.mv 22 (.t 3), .mv 2 (.t 22)]) (.rt))))
noncomputable def c35 : List SA → Option RA := con1p (kL (kR 3)) (fun (a : List Gen) => decide (szL zGen a ≤ 1048576)) fun (a : List Gen) => .v (kL (kR 3)) a
theorem s35 (a : List Gen) (hn : (decide (szL zGen a ≤ 1048576)) = true) : Sp Try.prog 35 [.v (kL (kR 3)) a] (.v (kL (kR 3)) a) := by
  refine Sp_intro [(86, c86)] ⟨con1p_ok s86, trivial⟩ (N := 23) (vs := [.t 2 (.v (kL (kR 3)))]) (c := ir35) Try.func35 (by kernel_rfl) rfl ?_
  unfold ir35 c86
  simp only [Bool.and_eq_true, decide_eq_true_eq] at hn
  have hsz : a.length ≤ 1048576 := by have : szL zGen a = a.length + (a.map zGen).sum := rfl; omega
  simp only [go_sem]
  intro _
  refine ⟨by omega, ?_⟩
  refine LP_intro (X := ⟨Try.prog, 23, [(86, c86)]⟩) ⟨con1p_ok s86, trivial⟩ [0, 2, 3, 4] [[7]] (fun i : Nat => ⟨[(0, .v (kL (kR 3)) a), (2, .nl (kR 3)), (3, .sl [7]), (4, .v kI (i : Int))], [([7], .row false false (kR 3) (cpy a i (Ki.z (kR 3))))]⟩) (fun i => i ≤ a.length) (fun i => a.length - i) ⟨0, Nat.zero_le _, ?_⟩ (fun i hi => ?_)
  · simp only [go_sem, ← cpy_zero]; rfl
  simp only [go_sem, cpy_len, c86]
  intro _
  refine ⟨fun hlt => ⟨hlt, (by have := szL_at zGen a hlt (Ki.z (kR 3)); have : szL zGen a ≤ 1048576 := (by omega); omega), hlt, hlt, ⟨i + 1, hlt, by dsimp only; omega, ?_⟩⟩, fun hge => cpy_all a _ hge⟩
  simp only [go_sem]
  rw [wrap_nat (by omega), cpy_set a _ _ hlt]
def ir128 : C := .sq (.rg [.mv 4 (.b false)]) (.sq (.sq (.rg [.mv 6 (.t 0), .ln 7 false (.t 6), .mv 8 (.t 1), .ln 9 false (.t 8), .bi 10 .neq (.t 7) (.t 9)]) (.cd (.t 10) (.sq (.rg [.mv 4 (.b false)]) (.rt)) (.skip))) (.sq (.sq (.rg [.mv 5 (.i 0)]) (.bk 0 (.lp (.sq (.sq (.rg [.mv 11 (.t 5), .mv 12 (.t 0), .ln 13 false (.t 12), .bi 14 .lss (.t 11) (.t 13)]) (.cd (.t 14) (.skip) (.ex 0))) (.sq (.bk 1 (.sq (.dr [] [.mv 17 (.t 0), .mv 18 (.t 5), .ia 19 (.t 17) (.t 18) (kR 1), .ld 20 (.t 19) (kR 1), .mv 21 (.t 1), .mv 22 (.t 5), .ia 23 (.t 21) (.t 22) (kR 1), .ld 24 (.t 23) (kR 1)] [.cv (some 25) 156 [((.t 20), .v (kR 1)), ((.t 24), .v (kR 1))], .un 26 .not (.t 25)]) (.cd (.t 26) (.sq (.rg [.mv 4 (.b false)]) (.rt)) (.skip)))) (.rg [.mv 15 (.t 5), .bi 16 .add (.t 15) (.i 1), .mv 5 (.t 16)])))))) (.sq (.rg [.mv 4 (.b true)]) (.rt))))
noncomputable def c128 : List SA → Option RA := con2 (kL (kR 1)) (kL (kR 1)) fun (a b : List Val) => .v .bool (eqb a b)
def ir156 : C := .sq (.rg [.bx 2 (.t 0) (kR 1), .bx 3 (.t 1) (kR 1), .mv 4 (.b false)]) (.sq (.sq (.rg [.fa 5 (.t 2) 1 0 0, .ld 6 (.t 5) kI, .fa 7 (.t 3) 1 0 0, .ld 8 (.t 7) kI, .bi 9 .neq (.t 6) (.t 8)]) (.cd (.t 9) (.sq (.rg [.mv 4 (.b false)]) (.rt)) (.skip))) (.sq (.sq (.rg [.fa 10 (.t 2) 1 1 1, .ld 11 (.t 10) kI, .fa 12 (.t 3) 1 1 1, .ld 13 (.t 12) kI, .bi 14 .neq (.t 11) (.t 13)]) (.cd (.t 14) (.sq (.rg [.mv 4 (.b false)]) (.rt)) (.skip))) (.sq (.sq (.rg [.fa 15 (.t 2) 1 2 2, .ld 16 (.t 15) (kL kS), .fa 17 (.t 3) 1 2 2, .ld 18 (.t 17) (kL kS), .cv (some 19) 18 [((.t 16), .v (kL kS)), ((.t 18), .v (kL kS))], .un 20 .not (.t 19)]) (.cd (.t 20) (.sq (.rg [.mv 4 (.b false)]) (.rt)) (.skip))) (.sq (.sq (.rg [.fa 21 (.t 2) 1 3 3, .ld 22 (.t 21) (kL (kR 1)), .fa 23 (.t 3) 1 3 3, .ld 24 (.t 23) (kL (kR 1)), .cv (some 25) 128 [((.t 22), .v (kL (kR 1))), ((.t 24), .v (kL (kR 1)))], .un 26 .not (.t 25)]) (.cd (.t 26) (.sq (.rg [.mv 4 (.b false)]) (.rt)) (.skip))) (.sq (.rg [.mv 4 (.b true)]) (.rt))))))
noncomputable def c156 : List SA → Option RA := con2 (kR 1) (kR 1) fun (a b : Val) => .v .bool (eqb a b)
noncomputable def d128 (m : Nat) : List SA → Option RA := con2p (kL (kR 1)) (kL (kR 1)) (fun (a b : List Val) => decide (4 * (szL zVal a) < m)) fun (a b : List Val) => .v .bool (eqb a b)
noncomputable def d156 (m : Nat) : List SA → Option RA := con2p (kR 1) (kR 1) (fun (a b : Val) => decide (4 * (zVal a) + 1 < m)) fun (a b : Val) => .v .bool (eqb a b)
theorem grp128_156 : ∀ m : Nat, (∀ (a b : List Val), (decide (4 * (szL zVal a) < m)) = true → Sp Try.prog 128 [.v (kL (kR 1)) a, .v (kL (kR 1)) b] (.v .bool (eqb a b))) ∧ (∀ (a b : Val), (decide (4 * (zVal a) + 1 < m)) = true → Sp Try.prog 156 [.v (kR 1) a, .v (kR 1) b] (.v .bool (eqb a b)))
  | 0 => ⟨fun a b h => by simp at h, fun a b h => by simp at h⟩
  | m + 1 => by
    have ih := grp128_156 m
    refine ⟨fun a b hn => ?_, fun a b hn => ?_⟩
    · refine Sp_intro [(156, d156 m)] ⟨con2p_ok ih.2, trivial⟩ (N := 27) (vs := [.t 4 (.v .bool)]) (c := ir128) Try.func128 (by kernel_rfl) rfl ?_
      unfold ir128 d156
      simp only [Bool.and_eq_true, decide_eq_true_eq] at hn
      simp only [go_sem]
      intro h1 h2
      refine ⟨fun h3 h => h3 (by rw [h]), fun h3 => ?_⟩
      refine LP_intro (X := ⟨Try.prog, 27, [(156, d156 m)]⟩) ⟨con2p_ok ih.2, trivial⟩ [0, 1, 4, 5] [] (fun i : Nat => ⟨[(0, .v (kL (kR 1)) a), (1, .v (kL (kR 1)) b), (4, .v .bool false), (5, .v kI (i : Int))], []⟩) (fun i => i ≤ a.length ∧ ∀ j : Nat, j < i → gt a (j : Int) (Ki.z (kR 1)) = gt b (j : Int) (Ki.z (kR 1))) (fun i => a.length - i) ⟨0, ⟨Nat.zero_le _, fun j hj => absurd hj (Nat.not_lt_zero j)⟩, ?_⟩ (fun i hi => ?_)
      · simp only [go_sem]; rfl
      obtain ⟨hi1, hi2⟩ := hi
      simp only [go_sem, d156]
      intro _
      refine ⟨fun hlt => ⟨hlt, by omega, (by have := szL_at zVal a hlt (Ki.z (kR 1)); omega), fun hne h => hne (by rw [h]), fun he => ⟨i + 1, ⟨hlt, below_succ hi2 he⟩, by dsimp only; omega, ?_⟩⟩, fun hge => row_eq (by omega) fun j hj => hi2 j (by omega)⟩
      simp only [go_sem]
      rw [wrap_nat (by omega)]
    · refine Sp_intro [(18, c18), (128, d128 m)] ⟨con2_ok s18, con2p_ok ih.1, trivial⟩ (N := 27) (vs := [.t 4 (.v .bool)]) (c := ir156) Try.func156 (by kernel_rfl) rfl ?_
      unfold ir156 c18 d128
      simp only [Bool.and_eq_true, decide_eq_true_eq] at hn
      have hf := zVal_f a
      have p0 : 4 * (szL zVal a.args) < m := by omega
      simp only [go_sem, p0, ext_1]
      all_goals simp +contextual
theorem s128 (a b : List Val) : Sp Try.prog 128 [.v (kL (kR 1)) a, .v (kL (kR 1)) b] (.v .bool (eqb a b)) := (grp128_156 (4 * (szL zVal a) + 1)).1 a b (by simp only [Bool.and_eq_true, decide_eq_true_eq]; omega)
theorem s156 (a b : Val) : Sp Try.prog 156 [.v (kR 1) a, .v (kR 1) b] (.v .bool (eqb a b)) := (grp128_156 (4 * (zVal a) + 1 + 1)).2 a b (by simp only [Bool.and_eq_true, decide_eq_true_eq]; omega)
def ir133 : C := .sq (.rg [.bx 2 (.t 0) (kR 6), .bx 3 (.t 1) (kR 6), .mv 4 (.b false)]) (.sq (.sq (.rg [.fa 5 (.t 2) 6 0 0, .ld 6 (.t 5) kS, .fa 7 (.t 3) 6 0 0, .ld 8 (.t 7) kS, .bi 9 .neq (.t 6) (.t 8)]) (.cd (.t 9) (.sq (.rg [.mv 4 (.b false)]) (.rt)) (.skip))) (.sq (.sq (.rg [.fa 10 (.t 2) 6 1 1, .ld 11 (.t 10) (kL (kR 1)), .fa 12 (.t 3) 6 1 1, .ld 13 (.t 12) (kL (kR 1)), .cv (some 14) 128 [((.t 11), .v (kL (kR 1))), ((.t 13), .v (kL (kR 1)))], .un 15 .not (.t 14)]) (.cd (.t 15) (.sq (.rg [.mv 4 (.b false)]) (.rt)) (.skip))) (.sq (.rg [.mv 4 (.b true)]) (.rt))))
noncomputable def c133 : List SA → Option RA := con2 (kR 6) (kR 6) fun (a b : TData) => .v .bool (eqb a b)
theorem s133 (a b : TData) : Sp Try.prog 133 [.v (kR 6) a, .v (kR 6) b] (.v .bool (eqb a b)) := by
  refine Sp_intro [(128, c128)] ⟨con2_ok s128, trivial⟩ (N := 16) (vs := [.t 4 (.v .bool)]) (c := ir133) Try.func133 (by kernel_rfl) rfl ?_
  unfold ir133 c128
  simp only [go_sem, ext_6]
  all_goals simp +contextual
def ir88 : C := .sq (.rg [.mv 4 (.b false)]) (.sq (.sq (.rg [.mv 6 (.t 0), .ln 7 false (.t 6), .mv 8 (.t 1), .ln 9 false (.t 8), .bi 10 .neq (.t 7) (.t 9)]) (.cd (.t 10) (.sq (.rg [.mv 4 (.b false)]) (.rt)) (.skip))) (.sq (.sq (.rg [.mv 5 (.i 0)]) (.bk 0 (.lp (.sq (.sq (.rg [.mv 11 (.t 5), .mv 12 (.t 0), .ln 13 false (.t 12), .bi 14 .lss (.t 11) (.t 13)]) (.cd (.t 14) (.skip) (.ex 0))) (.sq (.bk 1 (.sq (.dr [] [.mv 17 (.t 0), .mv 18 (.t 5), .ia 19 (.t 17) (.t 18) (kR 6), .ld 20 (.t 19) (kR 6), .mv 21 (.t 1), .mv 22 (.t 5), .ia 23 (.t 21) (.t 22) (kR 6), .ld 24 (.t 23) (kR 6)] [.cv (some 25) 133 [((.t 20), .v (kR 6)), ((.t 24), .v (kR 6))], .un 26 .not (.t 25)]) (.cd (.t 26) (.sq (.rg [.mv 4 (.b false)]) (.rt)) (.skip)))) (.rg [.mv 15 (.t 5), .bi 16 .add (.t 15) (.i 1), .mv 5 (.t 16)])))))) (.sq (.rg [.mv 4 (.b true)]) (.rt))))
noncomputable def c88 : List SA → Option RA := con2 (kL (kR 6)) (kL (kR 6)) fun (a b : List TData) => .v .bool (eqb a b)
theorem s88 (a b : List TData) : Sp Try.prog 88 [.v (kL (kR 6)) a, .v (kL (kR 6)) b] (.v .bool (eqb a b)) := by
  refine Sp_intro [(133, c133)] ⟨con2_ok s133, trivial⟩ (N := 27) (vs := [.t 4 (.v .bool)]) (c := ir88) Try.func88 (by kernel_rfl) rfl ?_
  unfold ir88 c133
  simp only [go_sem]
  intro h1 h2
  refine ⟨fun h3 h => h3 (by rw [h]), fun h3 => ?_⟩
  refine LP_intro (X := ⟨Try.prog, 27, [(133, c133)]⟩) ⟨con2_ok s133, trivial⟩ [0, 1, 4, 5] [] (fun i : Nat => ⟨[(0, .v (kL (kR 6)) a), (1, .v (kL (kR 6)) b), (4, .v .bool false), (5, .v kI (i : Int))], []⟩) (fun i => i ≤ a.length ∧ ∀ j : Nat, j < i → gt a (j : Int) (Ki.z (kR 6)) = gt b (j : Int) (Ki.z (kR 6))) (fun i => a.length - i) ⟨0, ⟨Nat.zero_le _, fun j hj => absurd hj (Nat.not_lt_zero j)⟩, ?_⟩ (fun i hi => ?_)
  · simp only [go_sem]; rfl
  obtain ⟨hi1, hi2⟩ := hi
  simp only [go_sem, c133]
  intro _
  refine ⟨fun hlt => ⟨hlt, by omega, fun hne h => hne (by rw [h]), fun he => ⟨i + 1, ⟨hlt, below_succ hi2 he⟩, by dsimp only; omega, ?_⟩⟩, fun hge => row_eq (by omega) fun j hj => hi2 j (by omega)⟩
  simp only [go_sem]
  rw [wrap_nat (by omega)]
def ir37 : C := .sq (.rg [.bx 2 (.t 0) (kR 7), .bx 3 (.t 1) (kR 7), .mv 4 (.b false)]) (.sq (.sq (.rg [.fa 5 (.t 2) 7 0 0, .ld 6 (.t 5) (kL (kR 6)), .fa 7 (.t 3) 7 0 0, .ld 8 (.t 7) (kL (kR 6)), .cv (some 9) 88 [((.t 6), .v (kL (kR 6))), ((.t 8), .v (kL (kR 6)))], .un 10 .not (.t 9)]) (.cd (.t 10) (.sq (.rg [.mv 4 (.b false)]) (.rt)) (.skip))) (.sq (.rg [.mv 4 (.b true)]) (.rt)))
noncomputable def c37 : List SA → Option RA := con2 (kR 7) (kR 7) fun (a b : DBase) => .v .bool (eqb a b)
theorem s37 (a b : DBase) : Sp Try.prog 37 [.v (kR 7) a, .v (kR 7) b] (.v .bool (eqb a b)) := by
  refine Sp_intro [(88, c88)] ⟨con2_ok s88, trivial⟩ (N := 11) (vs := [.t 4 (.v .bool)]) (c := ir37) Try.func37 (by kernel_rfl) rfl ?_
  unfold ir37 c88
  simp only [go_sem, ext_7]
  all_goals simp +contextual
def ir89 : C := .sq (.rg [.bx 2 (.t 0) (kR 3), .bx 3 (.t 1) (kR 3), .mv 4 (.b false)]) (.sq (.sq (.rg [.fa 5 (.t 2) 3 0 0, .ld 6 (.t 5) kS, .fa 7 (.t 3) 3 0 0, .ld 8 (.t 7) kS, .bi 9 .neq (.t 6) (.t 8)]) (.cd (.t 9) (.sq (.rg [.mv 4 (.b false)]) (.rt)) (.skip))) (.sq (.sq (.rg [.fa 10 (.t 2) 3 1 1, .ld 11 (.t 10) kS, .fa 12 (.t 3) 3 1 1, .ld 13 (.t 12) kS, .bi 14 .neq (.t 11) (.t 13)]) (.cd (.t 14) (.sq (.rg [.mv 4 (.b false)]) (.rt)) (.skip))) (.sq (.rg [.mv 4 (.b true)]) (.rt))))
noncomputable def c89 : List SA → Option RA := con2 (kR 3) (kR 3) fun (a b : Gen) => .v .bool (eqb a b)
theorem s89 (a b : Gen) : Sp Try.prog 89 [.v (kR 3) a, .v (kR 3) b] (.v .bool (eqb a b)) := by
  refine Sp_intro [] trivial (N := 15) (vs := [.t 4 (.v .bool)]) (c := ir89) Try.func89 (by kernel_rfl) rfl ?_
  unfold ir89
  simp only [go_sem, ext_3]
  all_goals simp +contextual
def ir38 : C := .sq (.rg [.mv 4 (.b false)]) (.sq (.sq (.rg [.mv 6 (.t 0), .ln 7 false (.t 6), .mv 8 (.t 1), .ln 9 false (.t 8), .bi 10 .neq (.t 7) (.t 9)]) (.cd (.t 10) (.sq (.rg [.mv 4 (.b false)]) (.rt)) (.skip))) (.sq (.sq (.rg [.mv 5 (.i 0)]) (.bk 0 (.lp (.sq (.sq (.rg [.mv 11 (.t 5), .mv 12 (.t 0), .ln 13 false (.t 12), .bi 14 .lss (.t 11) (.t 13)]) (.cd (.t 14) (.skip) (.ex 0))) (.sq (.bk 1 (.sq (.dr [] [.mv 17 (.t 0), .mv 18 (.t 5), .ia 19 (.t 17) (.t 18) (kR 3), .ld 20 (.t 19) (kR 3), .mv 21 (.t 1), .mv 22 (.t 5), .ia 23 (.t 21) (.t 22) (kR 3), .ld 24 (.t 23) (kR 3)] [.cv (some 25) 89 [((.t 20), .v (kR 3)), ((.t 24), .v (kR 3))], .un 26 .not (.t 25)]) (.cd (.t 26) (.sq (.rg [.mv 4 (.b false)]) (.rt)) (.skip)))) (.rg [.mv 15 (.t 5), .bi 16 .add (.t 15) (.i 1), .mv 5 (.t 16)])))))) (.sq (.rg [.mv 4 (.b true)]) (.rt))))
noncomputable def c38 : List SA → Option RA := con2 (kL (kR 3)) (kL (kR 3)) fun (a b : List Gen) => .v .bool (eqb a b)
theorem s38 (a b : List Gen) : Sp Try.prog 38 [.v (kL (kR 3)) a, .v (kL (kR 3)) b] (.v .bool (eqb a b)) := by
  refine Sp_intro [(89, c89)] ⟨con2_ok s89, trivial⟩ (N := 27) (vs := [.t 4 (.v .bool)]) (c := ir38) Try.func38 (by kernel_rfl) rfl ?_
  unfold ir38 c89
  simp only [go_sem]
  intro h1 h2
  refine ⟨fun h3 h => h3 (by rw [h]), fun h3 => ?_⟩
  refine LP_intro (X := ⟨Try.prog, 27, [(89, c89)]⟩) ⟨con2_ok s89, trivial⟩ [0, 1, 4, 5] [] (fun i : Nat => ⟨[(0, .v (kL (kR 3)) a), (1, .v (kL (kR 3)) b), (4, .v .bool false), (5, .v kI (i : Int))], []⟩) (fun i => i ≤ a.length ∧ ∀ j : Nat, j < i → gt a (j : Int) (Ki.z (kR 3)) = gt b (j : Int) (Ki.z (kR 3))) (fun i => a.length - i) ⟨0, ⟨Nat.zero_le _, fun j hj => absurd hj (Nat.not_lt_zero j)⟩, ?_⟩ (fun i hi => ?_)
  · simp only [go_sem]; rfl
  obtain ⟨hi1, hi2⟩ := hi
  simp only [go_sem, c89]
  intro _
  refine ⟨fun hlt => ⟨hlt, by omega, fun hne h => hne (by rw [h]), fun he => ⟨i + 1, ⟨hlt, below_succ hi2 he⟩, by dsimp only; omega, ?_⟩⟩, fun hge => row_eq (by omega) fun j hj => hi2 j (by omega)⟩
  simp only [go_sem]
  rw [wrap_nat (by omega)]
end Go.Q
