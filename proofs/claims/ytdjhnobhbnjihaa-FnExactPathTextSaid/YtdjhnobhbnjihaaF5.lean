import Derived.Test.YtdjhnobhbnjihaaQd
import Derived.Test.YtdjhnobhbnjihaaProg
import Derived.KernelRfl
set_option linter.unusedVariables false
set_option linter.unusedSimpArgs false
namespace Go.Q
open Go.Proofs
set_option linter.unusedSimpArgs false
set_option linter.unusedVariables false
def ir14 : C := .sq (.rg [.mv 4 (.i 0)]) (.sq (.rg [.mv 6 (.t 1), .mv 7 (.t 0), .ln 8 false (.t 7), .bi 9 .sub (.t 6) (.t 8), .mv 1 (.t 9)]) (.sq (.sq (.rg [.mv 10 (.t 1), .bi 11 .lss (.t 10) (.i 0)]) (.cd (.t 11) (.sq (.rg [.mv 4 (.i (-1))]) (.rt)) (.skip))) (.sq (.sq (.rg [.mv 5 (.i 0)]) (.bk 0 (.lp (.sq (.sq (.rg [.mv 12 (.t 5), .mv 13 (.t 0), .ln 14 false (.t 13), .bi 15 .lss (.t 12) (.t 14)]) (.cd (.t 15) (.skip) (.ex 0))) (.sq (.bk 1 (.sq (.rg [.mv 18 (.t 1), .mv 19 (.t 0), .mv 20 (.t 5), .ia 21 (.t 19) (.t 20) kS, .ld 22 (.t 21) kS, .ln 23 true (.t 22), .bi 24 .sub (.t 18) (.t 23), .mv 1 (.t 24)]) (.sq (.rg [.mv 25 (.t 1), .bi 26 .lss (.t 25) (.i 0)]) (.cd (.t 26) (.sq (.rg [.mv 4 (.i (-1))]) (.rt)) (.skip))))) (.rg [.mv 16 (.t 5), .bi 17 .add (.t 16) (.i 1), .mv 5 (.t 17)])))))) (.sq (.rg [.mv 27 (.t 1), .mv 4 (.t 27)]) (.rt)))))
noncomputable def c14 : List SA → Option RA := con2p (kL kS) kI (fun (a : List Str) (n : Int) => decide (0 ≤ n) && decide (n ≤ 1048576)) fun (a : List Str) (n : Int) => .v kI (sz1 (szL List.length a : Nat) n)
theorem s14 (a : List Str) (n : Int) (hn : (decide (0 ≤ n) && decide (n ≤ 1048576)) = true) : Sp Try.prog 14 [.v (kL kS) a, .v kI n] (.v kI (sz1 (szL List.length a : Nat) n)) := by
  refine Sp_intro [] trivial (N := 28) (vs := [.t 4 (.v kI)]) (c := ir14) Try.func14 (by kernel_rfl) rfl ?_
  unfold ir14
  simp only [Bool.and_eq_true, decide_eq_true_eq] at hn
  simp only [go_sem]
  intro h
  rw [wrap_id (by omega) (by omega)]
  refine ⟨fun h => sz1_of_neg (by unfold szL; omega), fun h0 => ?_⟩
  refine LP_intro (X := ⟨Try.prog, 28, []⟩) trivial [0, 1, 4, 5] [] (fun i : Nat => ⟨[(0, .v (kL kS) a), (1, .v kI (n - a.length - pfx List.length a i)), (4, .v kI 0), (5, .v kI (i : Int))], []⟩) (fun i => i ≤ a.length ∧ 0 ≤ n - a.length - pfx List.length a i) (fun i => a.length - i) ⟨0, ⟨Nat.zero_le _, by rw [pfx_zero]; omega⟩, ?_⟩ (fun i hi => ?_)
  · simp only [go_sem, pfx_zero, Int.natCast_zero, Int.sub_zero]
  obtain ⟨hi1, hi2⟩ := hi
  simp only [go_sem]
  intro _
  have hsum : szL List.length a = a.length + (a.map List.length).sum := rfl
  refine ⟨fun hlt => ?_, fun hge => ?_⟩
  · refine ⟨hlt, fun hs => ?_⟩
    have h1 := pfx_succ List.length a hlt (Ki.z kS)
    have h2 := pfx_le List.length a (i + 1)
    rw [wrap_id (by omega) (by omega)]
    refine ⟨fun h => sz1_of_neg (by omega), fun h3 => ⟨i + 1, ⟨hlt, by omega⟩, by dsimp only; omega, ?_⟩⟩
    have e : n - (a.length : Int) - (pfx List.length a i : Int) - ((List.length (gt a (i : Int) (Ki.z kS)) : Nat) : Int) = n - (a.length : Int) - (pfx List.length a (i + 1) : Int) := by omega
    simp only [go_sem]
    rw [wrap_nat (by omega), e]
  · have := pfx_all List.length a (i := i) (by omega)
    exact sz1_of_nn (by omega) (by omega)
def ir16 : C := .sq (.rg [.mv 2 (.nl kS)]) (.sq (.rg [.mv 5 (.t 0), .ln 6 false (.t 5), .mk 7 true kS (.t 6), .mv 3 (.t 7)]) (.sq (.sq (.rg [.mv 4 (.i 0)]) (.bk 0 (.lp (.sq (.sq (.rg [.mv 8 (.t 4), .mv 9 (.t 0), .ln 10 false (.t 9), .bi 11 .lss (.t 8) (.t 10)]) (.cd (.t 11) (.skip) (.ex 0))) (.sq (.bk 1 (.rg [.mv 14 (.t 3), .mv 15 (.t 4), .mv 16 (.t 0), .mv 17 (.t 4), .ia 18 (.t 16) (.t 17) kS, .ld 19 (.t 18) kS, .ia 20 (.t 14) (.t 15) kS, .st (.t 20) (.t 19) kS])) (.rg [.mv 12 (.t 4), .bi 13 .add (.t 12) (.i 1), .mv 4 (.t 13)])))))) (.sq (.rg [.mv 21 (.t 3), .mv 2 (.t 21)]) (.rt))))
noncomputable def c16 : List SA → Option RA := con1p (kL kS) (fun (a : List Str) => decide (szL List.length a ≤ 1048576)) fun (a : List Str) => .v (kL kS) a
theorem s16 (a : List Str) (hn : (decide (szL List.length a ≤ 1048576)) = true) : Sp Try.prog 16 [.v (kL kS) a] (.v (kL kS) a) := by
  refine Sp_intro [] trivial (N := 22) (vs := [.t 2 (.v (kL kS))]) (c := ir16) Try.func16 (by kernel_rfl) rfl ?_
  unfold ir16
  simp only [Bool.and_eq_true, decide_eq_true_eq] at hn
  have hsz : a.length ≤ 1048576 := by have : szL List.length a = a.length + (a.map List.length).sum := rfl; omega
  simp only [go_sem]
  intro _
  refine ⟨by omega, ?_⟩
  refine LP_intro (X := ⟨Try.prog, 22, []⟩) trivial [0, 2, 3, 4] [[7]] (fun i : Nat => ⟨[(0, .v (kL kS) a), (2, .nl kS), (3, .sl [7]), (4, .v kI (i : Int))], [([7], .row true false kS (cpy a i (Ki.z kS)))]⟩) (fun i => i ≤ a.length) (fun i => a.length - i) ⟨0, Nat.zero_le _, ?_⟩ (fun i hi => ?_)
  · simp only [go_sem, ← cpy_zero]; rfl
  simp only [go_sem, cpy_len]
  intro _
  refine ⟨fun hlt => ⟨hlt, hlt, hlt, ⟨i + 1, hlt, by dsimp only; omega, ?_⟩⟩, fun hge => cpy_all a _ hge⟩
  simp only [go_sem]
  rw [wrap_nat (by omega), cpy_set a _ _ hlt]
def ir18 : C := .sq (.rg [.mv 4 (.b false)]) (.sq (.sq (.rg [.mv 6 (.t 0), .ln 7 false (.t 6), .mv 8 (.t 1), .ln 9 false (.t 8), .bi 10 .neq (.t 7) (.t 9)]) (.cd (.t 10) (.sq (.rg [.mv 4 (.b false)]) (.rt)) (.skip))) (.sq (.sq (.rg [.mv 5 (.i 0)]) (.bk 0 (.lp (.sq (.sq (.rg [.mv 11 (.t 5), .mv 12 (.t 0), .ln 13 false (.t 12), .bi 14 .lss (.t 11) (.t 13)]) (.cd (.t 14) (.skip) (.ex 0))) (.sq (.bk 1 (.sq (.dr [] [.mv 17 (.t 0), .mv 18 (.t 5), .ia 19 (.t 17) (.t 18) kS, .ld 20 (.t 19) kS, .mv 21 (.t 1), .mv 22 (.t 5), .ia 23 (.t 21) (.t 22) kS, .ld 24 (.t 23) kS] [.bi 25 .neq (.t 20) (.t 24)]) (.cd (.t 25) (.sq (.rg [.mv 4 (.b false)]) (.rt)) (.skip)))) (.rg [.mv 15 (.t 5), .bi 16 .add (.t 15) (.i 1), .mv 5 (.t 16)])))))) (.sq (.rg [.mv 4 (.b true)]) (.rt))))
noncomputable def c18 : List SA → Option RA := con2 (kL kS) (kL kS) fun (a b : List Str) => .v .bool (eqb a b)
theorem s18 (a b : List Str) : Sp Try.prog 18 [.v (kL kS) a, .v (kL kS) b] (.v .bool (eqb a b)) := by
  refine Sp_intro [] trivial (N := 26) (vs := [.t 4 (.v .bool)]) (c := ir18) Try.func18 (by kernel_rfl) rfl ?_
  unfold ir18
  simp only [go_sem]
  intro h1 h2
  refine ⟨fun h3 h => h3 (by rw [h]), fun h3 => ?_⟩
  refine LP_intro (X := ⟨Try.prog, 26, []⟩) trivial [0, 1, 4, 5] [] (fun i : Nat => ⟨[(0, .v (kL kS) a), (1, .v (kL kS) b), (4, .v .bool false), (5, .v kI (i : Int))], []⟩) (fun i => i ≤ a.length ∧ ∀ j : Nat, j < i → gt a (j : Int) (Ki.z kS) = gt b (j : Int) (Ki.z kS)) (fun i => a.length - i) ⟨0, ⟨Nat.zero_le _, fun j hj => absurd hj (Nat.not_lt_zero j)⟩, ?_⟩ (fun i hi => ?_)
  · simp only [go_sem]; rfl
  obtain ⟨hi1, hi2⟩ := hi
  simp only [go_sem]
  intro _
  refine ⟨fun hlt => ⟨hlt, by omega, fun hne h => hne (by rw [h]), fun he => ⟨i + 1, ⟨hlt, below_succ hi2 he⟩, by dsimp only; omega, ?_⟩⟩, fun hge => row_eq (by omega) fun j hj => hi2 j (by omega)⟩
  simp only [go_sem]
  rw [wrap_nat (by omega)]
end Go.Q
