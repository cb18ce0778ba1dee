/- FnExactPathText: the walks. -/
import Derived.Test.YtdjhnobhbnjihaaT9
import Derived.Test.YtdjhnobhbnjihaaF5
import Derived.Test.YtdjhnobhbnjihaaProg
import Derived.KernelRfl
set_option linter.unusedVariables false
set_option linter.unusedSimpArgs false
namespace Go.Q
open Go.Proofs
set_option linter.unusedSimpArgs false
set_option linter.unusedVariables false
def ir72 : C := .sq (.rg [.mv 4 (.s [])]) (.sq (.rg [.bs 7 true (.int .u8) [], .mv 5 (.t 7)]) (.sq (.sq (.rg [.mv 6 (.i 0)]) (.bk 0 (.gt 5 true (.int .u8) (.lp (.sq (.sq (.rg [.mv 8 (.t 6), .mv 9 (.t 0), .ln 10 false (.t 9), .bi 11 .lss (.t 8) (.t 10)]) (.cd (.t 11) (.skip) (.ex 0))) (.sq (.bk 1 (.sq (.sq (.rg [.mv 14 (.t 6), .bi 15 .gtr (.t 14) (.i 0)]) (.cd (.t 15) (.rg [.mv 16 (.t 5), .mv 17 (.t 1), .sa 18 [5] (.t 16) (.t 17), .mv 5 (.t 18)]) (.skip))) (.rg [.mv 19 (.t 5), .mv 20 (.t 0), .mv 21 (.t 6), .ia 22 (.t 20) (.t 21) kS, .ld 23 (.t 22) kS, .sa 24 [5] (.t 19) (.t 23), .mv 5 (.t 24)]))) (.rg [.mv 12 (.t 6), .bi 13 .add (.t 12) (.i 1), .mv 6 (.t 13)]))))))) (.sq (.rg [.mv 25 (.t 5), .cs 26 (.t 25), .mv 4 (.t 26)]) (.rt))))
def ir24 : C := .sq (.rg [.mv 2 (.s [])]) (.sq (.sq (.rg [.mv 3 (.t 0), .ln 4 false (.t 3), .bi 5 .eql (.t 4) (.i 0)]) (.cd (.t 5) (.sq (.rg [.mv 2 (.s [45])]) (.rt)) (.skip))) (.sq (.rg [.mv 6 (.t 0), .cv (some 7) 72 [((.t 6), .v (kL kS)), ((.s [46]), .v kS)], .mv 2 (.t 7)]) (.rt)))
def ir25 : C := .sq (.rg [.mv 2 (.s [])]) (.sq (.sq (.rg [.mv 3 (.t 0), .ln 4 false (.t 3), .bi 5 .eql (.t 4) (.i 0)]) (.cd (.t 5) (.sq (.rg [.mv 2 (.s [45])]) (.rt)) (.skip))) (.sq (.rg [.mv 6 (.t 0), .cv (some 7) 73 [((.t 6), .v (kL kS)), ((.s [46]), .v kS)], .mv 2 (.t 7)]) (.rt)))
def ir5 : C := .sq (.rg [.mv 2 (.b false)]) (.sq (.rg [.mv 3 (.i 1048576)]) (.sq (.rg [.mv 7 (.t 0), .mv 8 (.t 3), .cv (some 9) 14 [((.t 7), .v (kL kS)), ((.t 8), .v kI)], .mv 3 (.t 9)]) (.sq (.sq (.rg [.mv 10 (.t 3), .bi 11 .lss (.t 10) (.i 0)]) (.cd (.t 11) (.sq (.rg [.mv 2 (.b true)]) (.rt)) (.skip))) (.sq (.rg [.mv 12 (.t 0), .cv (some 13) 16 [((.t 12), .v (kL kS))], .cv (some 14) 24 [((.t 13), .v (kL kS))], .mv 4 (.t 14)]) (.sq (.rg [.mv 15 (.t 0), .cv (some 16) 16 [((.t 15), .v (kL kS))], .mv 5 (.t 16)]) (.sq (.rg [.mv 17 (.t 5), .cv (some 18) 25 [((.t 17), .v (kL kS))], .mv 6 (.t 18)]) (.sq (.sq (.rg [.mv 19 (.t 6), .mv 20 (.t 4), .bi 21 .neq (.t 19) (.t 20)]) (.cd (.t 21) (.sq (.rg [.mv 2 (.b false)]) (.rt)) (.skip))) (.sq (.sq (.rg [.mv 22 (.t 5), .mv 23 (.t 0), .cv (some 24) 16 [((.t 23), .v (kL kS))], .cv (some 25) 18 [((.t 22), .v (kL kS)), ((.t 24), .v (kL kS))], .un 26 .not (.t 25)]) (.cd (.t 26) (.sq (.rg [.mv 2 (.b false)]) (.rt)) (.skip))) (.sq (.rg [.mv 2 (.b true)]) (.rt))))))))))
noncomputable def c72 : List SA → Option RA := con2p (kL kS) kS (fun (xs : List Str) (sep : Str) => decide (szL List.length xs ≤ 1048576) && decide (sep.length ≤ 1)) fun (xs : List Str) (sep : Str) => .v kS (Lib.join xs sep)
theorem s72 (a : List Str) (s : Str) (hn : (decide (szL List.length a ≤ 1048576) && decide (s.length ≤ 1)) = true) : Sp Try.prog 72 [.v (kL kS) a, .v kS s] (.v kS (Lib.join a s)) := by
  simp only [Bool.and_eq_true, decide_eq_true_eq] at hn
  have hj := join_len s hn.2 a
  have ha : a.length ≤ szL List.length a := Nat.le_add_right _ _
  refine Sp_intro [] trivial (N := 27) (vs := [.t 4 (.v kS)]) (c := ir72) Try.func72 (by kernel_rfl) rfl ?_
  unfold ir72
  simp only [go_sem]
  refine LP_intro (X := ⟨Try.prog, 27, []⟩) trivial [0, 1, 4, 5, 6] [[5]] (fun i : Nat => ⟨[(0, .v (kL kS) a), (1, .v kS s), (4, .v kS ([] : Str)), (5, .sl [5]), (6, .v kI (i : Int))], [([5], .row true false (.int .u8) (intsOf (Lib.join (a.take i) s)))]⟩) (fun i => i ≤ a.length) (fun i => a.length - i) ⟨0, Nat.zero_le _, ?_⟩ (fun i hi => ?_)
  · simp only [go_sem]
    rfl
  simp only [go_sem]
  have hjt : (Lib.join (a.take i) s).length ≤ 1048576 := by
    have h1 := join_len s hn.2 (a.take i)
    have h2 : szL List.length (a.take i) ≤ szL List.length a := by
      have := pfx_le List.length a i
      simp only [szL, pfx, List.length_take] at this ⊢
      omega
    omega
  have hgl : i < a.length → (gt a (i : Int) kS.z).length ≤ 1048576 := fun hlt => by
    have h3 := szL_at List.length a hlt (kS.z)
    have : (gt a (i : Int) kS.z).length ≤ szL List.length a := by first | exact Nat.le_of_lt h3 | exact h3 | omega
    omega
  have hil : ∀ t : Str, (intsOf t).length = t.length := fun t => by simp [intsOf]
  intro _
  refine ⟨fun hlt => ⟨fun h0 => ?_, fun h0 => ?_⟩, fun hge => ?_⟩
  · have hs := hn.2
    have hg := hgl hlt
    refine ⟨by rw [hil]; omega, hlt, by rw [List.length_append, hil, hil]; omega, i + 1, hlt, by dsimp only; omega, ?_⟩
    simp only [go_sem]
    rw [wrap_nat (by omega), join_take s a hlt kS.z, if_neg (by omega), intsOf_append, intsOf_append]
  · have hg := hgl hlt
    have hi0 : i = 0 := by omega
    subst hi0
    refine ⟨hlt, by rw [hil]; omega, 1, hlt, by dsimp only; omega, ?_⟩
    simp only [go_sem]
    rw [wrap_nat (by omega), join_take s a hlt kS.z, if_pos rfl]
    rfl
  · rw [bytes_ints, List.take_of_length_le (by omega)]
def ptext (a : List Str) : Str := if a.length = 0 then [45] else Lib.join a [46]
noncomputable def c24 : List SA → Option RA := con1p (kL kS) (fun (a : List Str) => decide (szL List.length a ≤ 1048576)) fun (a : List Str) => .v kS (ptext a)
theorem s24 (a : List Str) (hn : decide (szL List.length a ≤ 1048576) = true) : Sp Try.prog 24 [.v (kL kS) a] (.v kS (ptext a)) := by
  simp only [decide_eq_true_eq] at hn
  refine Sp_intro [(72, c72)] ⟨con2p_ok s72, trivial⟩ (N := 8) (vs := [.t 2 (.v kS)]) (c := ir24) Try.func24 (by kernel_rfl) rfl ?_
  unfold ir24
  simp only [go_sem, c72, ptext]
  intro _
  exact ⟨fun h => by rw [if_pos (by omega)], fun h => ⟨hn, by rw [if_neg (by omega)]⟩⟩
noncomputable def c25 : List SA → Option RA := con1p (kL kS) (fun (a : List Str) => decide (szL List.length a ≤ 1048576)) fun (a : List Str) => .v kS (ptext a)
theorem s25 (a : List Str) (hn : decide (szL List.length a ≤ 1048576) = true) : Sp Try.prog 25 [.v (kL kS) a] (.v kS (ptext a)) := by
  simp only [decide_eq_true_eq] at hn
  refine Sp_intro [(73, c73)] ⟨con2p_ok s73c, trivial⟩ (N := 8) (vs := [.t 2 (.v kS)]) (c := ir25) Try.func25 (by kernel_rfl) rfl ?_
  unfold ir25
  simp only [go_sem, c73, ptext]
  intro _
  exact ⟨fun h => by rw [if_pos (by omega)], fun h => ⟨hn, by rw [if_neg (by omega)]⟩⟩
theorem s5 (a : List Str) : Sp Try.prog 5 [.v (kL kS) a] (.v .bool true) := by
  refine Sp_intro [(14, c14), (16, c16), (18, c18), (24, c24), (25, c25)] ⟨con2p_ok s14, con1p_ok s16, con2_ok s18, con1p_ok s24, con1p_ok s25, trivial⟩ (N := 27) (vs := [.t 2 (.v .bool)]) (c := ir5) Try.func5 (by kernel_rfl) rfl ?_
  unfold ir5
  simp only [go_sem, c14, c16, c18, c24, c25, eqb_self]
  intro h
  have h2 := (sz1_nn h).2
  rw [h2] at h
  omega
end Go.Q
