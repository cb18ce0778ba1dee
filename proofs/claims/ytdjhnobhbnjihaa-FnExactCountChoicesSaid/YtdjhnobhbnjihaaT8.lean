/- How the program and the reference count choices. -/
import Derived.Test.YtdjhnobhbnjihaaQd
import Derived.Test.YtdjhnobhbnjihaaF7
import Derived.Test.YtdjhnobhbnjihaaProg
import Derived.KernelRfl
set_option linter.unusedVariables false
set_option linter.unusedSimpArgs false
namespace Go.Q
open Go.Proofs
set_option linter.unusedSimpArgs false
set_option linter.unusedVariables false
def ir157 : C := .sq (.rg [.bx 1 (.t 0) (kR 1), .al 2 (kR 1)]) (.sq (.dr [12, 3] [.fa 5 (.t 1) 1 0 0, .ld 6 (.t 5) kI, .fa 7 (.t 1) 1 1 1, .ld 8 (.t 7) kI, .bs 9 true kS [], .fa 10 (.t 1) 1 2 2, .ld 11 (.t 10) (kL kS), .an 12 true kS (.t 9) (.t 11), .bd 13 1 [(0, 1, (.t 6)), (1, 1, (.t 8)), (2, 1, (.t 12))], .al 3 (kR 1)] [.st (.t 3) (.t 13) (kR 1)]) (.sq (.sq (.rg [.mv 4 (.i 0)]) (.bk 0 (.gb 3 3 false (kR 1) (.lp (.sq (.sq (.rg [.mv 14 (.t 4), .fa 15 (.t 1) 1 3 3, .ld 16 (.t 15) (kL (kR 1)), .ln 17 false (.t 16), .bi 18 .lss (.t 14) (.t 17)]) (.cd (.t 18) (.skip) (.ex 0))) (.sq (.bk 1 (.dr [29] [.fa 21 (.t 3) 1 3 3, .ld 22 (.t 21) (kL (kR 1)), .fa 23 (.t 1) 1 3 3, .ld 24 (.t 23) (kL (kR 1)), .mv 25 (.t 4), .ia 26 (.t 24) (.t 25) (kR 1), .ld 27 (.t 26) (kR 1), .cv (some 28) 157 [((.t 27), .v (kR 1))], .bs 29 false (kR 1) [(.t 28)]] [.ap 30 [3, 3] false (kR 1) (.t 22) (.t 29), .fa 31 (.t 3) 1 3 3, .st (.t 31) (.t 30) (kL (kR 1))])) (.rg [.mv 19 (.t 4), .bi 20 .add (.t 19) (.i 1), .mv 4 (.t 20)]))))))) (.sq (.rg [.ld 32 (.t 3) (kR 1), .st (.t 2) (.t 32) (kR 1)]) (.rt))))
def ir131 : C := .sq (.rg [.mv 2 (.nl (kR 1))]) (.sq (.rg [.bs 5 false (kR 1) [], .mv 3 (.t 5)]) (.sq (.sq (.rg [.mv 4 (.i 0)]) (.bk 0 (.gt 3 false (kR 1) (.lp (.sq (.sq (.rg [.mv 6 (.t 4), .mv 7 (.t 0), .ln 8 false (.t 7), .bi 9 .lss (.t 6) (.t 8)]) (.cd (.t 9) (.skip) (.ex 0))) (.sq (.bk 1 (.rg [.mv 12 (.t 3), .mv 13 (.t 0), .mv 14 (.t 4), .ia 15 (.t 13) (.t 14) (kR 1), .ld 16 (.t 15) (kR 1), .cv (some 17) 157 [((.t 16), .v (kR 1))], .bs 18 false (kR 1) [(.t 17)], .ap 19 [3] false (kR 1) (.t 12) (.t 18), .mv 3 (.t 19)])) (.rg [.mv 10 (.t 4), .bi 11 .add (.t 10) (.i 1), .mv 4 (.t 11)]))))))) (.sq (.rg [.mv 20 (.t 3), .mv 2 (.t 20)]) (.rt))))
def ir130 : C := .sq (.rg [.bx 2 (.t 0) (kR 7), .mv 4 (.i 0)]) (.sq (.sq (.rg [.mv 5 (.i 0)]) (.bk 0 (.lp (.sq (.sq (.rg [.mv 6 (.t 5), .fa 7 (.t 2) 7 0 0, .ld 8 (.t 7) (kL (kR 6)), .ln 9 false (.t 8), .bi 10 .lss (.t 6) (.t 9)]) (.cd (.t 10) (.skip) (.ex 0))) (.sq (.bk 1 (.sq (.rg [.fa 13 (.t 2) 7 0 0, .ld 14 (.t 13) (kL (kR 6)), .mv 15 (.t 5), .ia 16 (.t 14) (.t 15) (kR 6), .fa 17 (.t 16) 6 0 0, .ld 18 (.t 17) kS, .mv 19 (.t 1), .bi 20 .eql (.t 18) (.t 19)]) (.cd (.t 20) (.sq (.rg [.mv 21 (.t 5), .mv 4 (.t 21)]) (.rt)) (.skip)))) (.rg [.mv 11 (.t 5), .bi 12 .add (.t 11) (.i 1), .mv 5 (.t 12)])))))) (.sq (.rg [.mv 4 (.i (-1))]) (.rt)))
def ir87 : C := .sq (.rg [.bx 2 (.t 0) (kR 7), .mv 4 (.nl (kR 1))]) (.sq (.sq (.rg [.fa 7 (.t 2) 7 0 0, .ld 8 (.t 7) (kL (kR 6)), .ln 9 false (.t 8), .mv 10 (.i 0)]) (.bk 0 (.lp (.sq (.rg [.bi 11 .lss (.t 10) (.t 9)]) (.sq (.cd (.t 11) (.skip) (.ex 0)) (.sq (.bk 1 (.sq (.rg [.ia 12 (.t 8) (.t 10) (kR 6), .ld 13 (.t 12) (kR 6), .al 6 (kR 6), .st (.t 6) (.t 13) (kR 6)]) (.sq (.rg [.fa 14 (.t 6) 6 0 0, .ld 15 (.t 14) kS, .mv 16 (.t 1), .bi 17 .eql (.t 15) (.t 16)]) (.cd (.t 17) (.sq (.rg [.fa 18 (.t 6) 6 1 1, .ld 19 (.t 18) (kL (kR 1)), .mv 4 (.t 19)]) (.rt)) (.skip))))) (.rg [.bi 20 .add (.t 10) (.i 1), .mv 10 (.t 20)]))))))) (.sq (.rg [.mv 4 (.nl (kR 1))]) (.rt)))
def ir84 : C := .sq (.rg [.bx 2 (.t 0) (kR 7), .mv 4 (.nl (kR 1))]) (.sq (.rg [.ld 6 (.t 2) (kR 7), .mv 7 (.t 1), .cv (some 8) 130 [((.t 6), .v (kR 7)), ((.t 7), .v kS)], .mv 5 (.t 8)]) (.sq (.sq (.rg [.mv 9 (.t 5), .bi 10 .lss (.t 9) (.i 0)]) (.cd (.t 10) (.sq (.rg [.bs 11 false (kR 1) [], .mv 4 (.t 11)]) (.rt)) (.skip))) (.sq (.rg [.fa 12 (.t 2) 7 0 0, .ld 13 (.t 12) (kL (kR 6)), .mv 14 (.t 5), .ia 15 (.t 13) (.t 14) (kR 6), .fa 16 (.t 15) 6 1 1, .ld 17 (.t 16) (kL (kR 1)), .cv (some 18) 131 [((.t 17), .v (kL (kR 1)))], .mv 4 (.t 18)]) (.rt))))
def ir36 : C := .sq (.rg [.bx 2 (.t 0) (kR 7), .mv 4 (.i 0)]) (.sq (.rg [.mv 5 (.i 1)]) (.sq (.sq (.rg [.mv 8 (.t 1), .ln 9 false (.t 8), .mv 10 (.i 0)]) (.bk 0 (.lp (.sq (.rg [.bi 11 .lss (.t 10) (.t 9)]) (.sq (.cd (.t 11) (.skip) (.ex 0)) (.sq (.bk 1 (.sq (.rg [.ia 12 (.t 8) (.t 10) (kR 3), .ld 13 (.t 12) (kR 3), .al 7 (kR 3), .st (.t 7) (.t 13) (kR 3)]) (.rg [.mv 14 (.t 5), .ld 15 (.t 2) (kR 7), .fa 16 (.t 7) 3 1 1, .ld 17 (.t 16) kS, .cv (some 18) 87 [((.t 15), .v (kR 7)), ((.t 17), .v kS)], .ln 19 false (.t 18), .bi 20 .mul (.t 14) (.t 19), .mv 5 (.t 20)]))) (.rg [.bi 21 .add (.t 10) (.i 1), .mv 10 (.t 21)]))))))) (.sq (.rg [.mv 22 (.t 5), .mv 4 (.t 22)]) (.rt))))
def ir33 : C := .sq (.rg [.bx 2 (.t 0) (kR 7), .mv 4 (.i 0)]) (.sq (.rg [.mv 5 (.i 1)]) (.sq (.sq (.rg [.mv 6 (.i 0)]) (.bk 0 (.lp (.sq (.sq (.rg [.mv 7 (.t 6), .mv 8 (.t 1), .ln 9 false (.t 8), .bi 10 .lss (.t 7) (.t 9)]) (.cd (.t 10) (.skip) (.ex 0))) (.sq (.bk 1 (.dr [] [.mv 13 (.t 5), .ld 14 (.t 2) (kR 7), .mv 15 (.t 1), .mv 16 (.t 6), .ia 17 (.t 15) (.t 16) (kR 3), .fa 18 (.t 17) 3 1 1, .ld 19 (.t 18) kS, .cv (some 20) 84 [((.t 14), .v (kR 7)), ((.t 19), .v kS)], .ln 21 false (.t 20)] [.bi 22 .mul (.t 13) (.t 21), .mv 5 (.t 22)])) (.rg [.mv 11 (.t 6), .bi 12 .add (.t 11) (.i 1), .mv 6 (.t 12)])))))) (.sq (.rg [.mv 23 (.t 5), .mv 4 (.t 23)]) (.rt))))
def ir7 : C := .sq (.rg [.bx 2 (.t 0) (kR 7), .mv 4 (.b false)]) (.sq (.rg [.mv 5 (.i 1048576)]) (.sq (.rg [.ld 10 (.t 2) (kR 7), .mv 11 (.t 5), .cv (some 12) 31 [((.t 10), .v (kR 7)), ((.t 11), .v kI)], .mv 5 (.t 12)]) (.sq (.sq (.rg [.mv 13 (.t 5), .bi 14 .lss (.t 13) (.i 0)]) (.cd (.t 14) (.sq (.rg [.mv 4 (.b true)]) (.rt)) (.skip))) (.sq (.rg [.mv 15 (.t 1), .mv 16 (.t 5), .cv (some 17) 32 [((.t 15), .v (kL (kR 3))), ((.t 16), .v kI)], .mv 5 (.t 17)]) (.sq (.sq (.rg [.mv 18 (.t 5), .bi 19 .lss (.t 18) (.i 0)]) (.cd (.t 19) (.sq (.rg [.mv 4 (.b true)]) (.rt)) (.skip))) (.sq (.rg [.ld 20 (.t 2) (kR 7), .cv (some 21) 34 [((.t 20), .v (kR 7))], .mv 22 (.t 1), .cv (some 23) 35 [((.t 22), .v (kL (kR 3)))], .cv (some 24) 33 [((.t 21), .v (kR 7)), ((.t 23), .v (kL (kR 3)))], .mv 6 (.t 24)]) (.sq (.rg [.ld 25 (.t 2) (kR 7), .cv (some 26) 34 [((.t 25), .v (kR 7))], .al 7 (kR 7), .st (.t 7) (.t 26) (kR 7)]) (.sq (.rg [.mv 27 (.t 1), .cv (some 28) 35 [((.t 27), .v (kL (kR 3)))], .mv 8 (.t 28)]) (.sq (.rg [.ld 29 (.t 7) (kR 7), .mv 30 (.t 8), .cv (some 31) 36 [((.t 29), .v (kR 7)), ((.t 30), .v (kL (kR 3)))], .mv 9 (.t 31)]) (.sq (.sq (.rg [.mv 32 (.t 9), .mv 33 (.t 6), .bi 34 .neq (.t 32) (.t 33)]) (.cd (.t 34) (.sq (.rg [.mv 4 (.b false)]) (.rt)) (.skip))) (.sq (.sq (.dr [] [.ld 35 (.t 7) (kR 7), .ld 36 (.t 2) (kR 7), .cv (some 37) 34 [((.t 36), .v (kR 7))]] [.cv (some 38) 37 [((.t 35), .v (kR 7)), ((.t 37), .v (kR 7))], .un 39 .not (.t 38)]) (.cd (.t 39) (.sq (.rg [.mv 4 (.b false)]) (.rt)) (.skip))) (.sq (.sq (.rg [.mv 40 (.t 8), .mv 41 (.t 1), .cv (some 42) 35 [((.t 41), .v (kL (kR 3)))], .cv (some 43) 38 [((.t 40), .v (kL (kR 3))), ((.t 42), .v (kL (kR 3)))], .un 44 .not (.t 43)]) (.cd (.t 44) (.sq (.rg [.mv 4 (.b false)]) (.rt)) (.skip))) (.sq (.rg [.mv 4 (.b true)]) (.rt))))))))))))))
theorem take_snoc {α : Type} (a : List α) {i : Nat} (h : i < a.length) (z : α) : a.take i ++ [gt a (i : Int) z] = a.take (i + 1) := by
  rw [gt_at a i h, List.take_add_one, List.getElem?_eq_getElem h]; rfl
noncomputable def d157 (m : Nat) : List SA → Option RA := con1p (kR 1) (fun (a : Val) => decide (zVal a < m) && decide (zVal a ≤ 1048576)) fun (a : Val) => .v (kR 1) a
theorem s157m : ∀ (m : Nat) (a : Val), (decide (zVal a < m) && decide (zVal a ≤ 1048576)) = true → Sp Try.prog 157 [.v (kR 1) a] (.v (kR 1) a)
  | 0, a, h => by simp at h
  | m + 1, a, hn => by
    have ih := s157m m
    simp only [Bool.and_eq_true, decide_eq_true_eq] at hn
    have hz := zVal_f a
    refine Sp_intro [(157, d157 m)] ⟨con1p_ok ih, trivial⟩ (N := 33) (vs := [.c 2 (.v (kR 1))]) (c := ir157) Try.func157 (by kernel_rfl) rfl ?_
    unfold ir157
    simp only [go_sem, d157]
    have hl : a.labels.length ≤ szL List.length a.labels := Nat.le_add_right _ _
    have ha : a.args.length ≤ szL zVal a.args := Nat.le_add_right _ _
    refine ⟨by omega, ?_⟩
    refine LP_intro (X := ⟨Try.prog, 33, [(157, d157 m)]⟩) ⟨con1p_ok ih, trivial⟩ [1, 2, 3, 4] [[1], [2], [3], [12], [3, 3]] (fun i : Nat => ⟨[(1, .pt [1] 0), (2, .pt [2] 0), (3, .pt [3] 0), (4, .v kI (i : Int))], [([1], .box (lvs 1 a)), ([2], .box [.v kI 0, .v kI 0, .nl kS, .nl (kR 1)]), ([3], .box [.v kI a.kind, .v kI a.n, .sl [12], .sl [3, 3]]), ([12], .row true false kS a.labels), ([3, 3], .row false false (kR 1) (a.args.take i))]⟩) (fun i => i ≤ a.args.length) (fun i => a.args.length - i) ⟨0, Nat.zero_le _, ?_⟩ (fun i hi => ?_)
    · simp only [go_sem, d157]
      rfl
    simp only [go_sem, d157]
    intro _
    refine ⟨fun hlt => ?_, fun hge => ?_⟩
    · have h4 := szL_at zVal a.args hlt (Ki.z (kR 1))
      refine ⟨hlt, by omega, by rw [List.length_take]; omega, i + 1, hlt, by dsimp only; omega, ?_⟩
      simp only [go_sem, d157]
      rw [wrap_nat (by omega), take_snoc a.args hlt]
    · rw [List.take_of_length_le (by omega)]
      simp only [go_sem, d157]
noncomputable def c157 : List SA → Option RA := con1p (kR 1) (fun (a : Val) => decide (zVal a ≤ 1048576)) fun (a : Val) => .v (kR 1) a
theorem s157 (a : Val) (h : decide (zVal a ≤ 1048576) = true) : Sp Try.prog 157 [.v (kR 1) a] (.v (kR 1) a) := s157m (zVal a + 1) a (by simp only [Bool.and_eq_true, decide_eq_true_eq] at h ⊢; omega)
noncomputable def c131 : List SA → Option RA := con1p (kL (kR 1)) (fun (a : List Val) => decide (szL zVal a ≤ 1048576)) fun (a : List Val) => .v (kL (kR 1)) a
theorem s131 (a : List Val) (hn : decide (szL zVal a ≤ 1048576) = true) : Sp Try.prog 131 [.v (kL (kR 1)) a] (.v (kL (kR 1)) a) := by
  simp only [decide_eq_true_eq] at hn
  refine Sp_intro [(157, c157)] ⟨con1p_ok s157, trivial⟩ (N := 21) (vs := [.t 2 (.v (kL (kR 1)))]) (c := ir131) Try.func131 (by kernel_rfl) rfl ?_
  unfold ir131
  simp only [go_sem, c157]
  refine LP_intro (X := ⟨Try.prog, 21, [(157, c157)]⟩) ⟨con1p_ok s157, trivial⟩ [0, 2, 3, 4] [[3]] (fun i : Nat => ⟨[(0, .v (kL (kR 1)) a), (2, .nl (kR 1)), (3, .sl [3]), (4, .v kI (i : Int))], [([3], .row false false (kR 1) (a.take i))]⟩) (fun i => i ≤ a.length) (fun i => a.length - i) ⟨0, Nat.zero_le _, ?_⟩ (fun i hi => ?_)
  · simp only [go_sem, c157]
    rfl
  simp only [go_sem, c157]
  intro _
  have ha : a.length ≤ szL zVal a := Nat.le_add_right _ _
  refine ⟨fun hlt => ?_, fun hge => ?_⟩
  · have h4 := szL_at zVal a hlt (Ki.z (kR 1))
    refine ⟨hlt, by omega, by rw [List.length_take]; omega, i + 1, hlt, by dsimp only; omega, ?_⟩
    simp only [go_sem, c157]
    rw [wrap_nat (by omega), take_snoc a hlt]
  · exact List.take_of_length_le (by omega)
/-- The index of a table. -/
def tix (s : Str) : List TData → Nat → Int
  | [], _ => -1
  | x :: xs, i => if x.name = s then (i : Int) else tix s xs (i + 1)
def rof (s : Str) : List TData → List Val
  | [] => []
  | x :: xs => if x.name = s then x.rows else rof s xs
theorem tix_drop (s : Str) (a : List TData) {i : Nat} (h : i < a.length) (z : TData) : tix s (a.drop i) i = if (gt a (i : Int) z).name = s then (i : Int) else tix s (a.drop (i + 1)) (i + 1) := by
  rw [drop_at a h z, tix]
theorem rof_drop (s : Str) (a : List TData) {i : Nat} (h : i < a.length) (z : TData) : rof s (a.drop i) = if (gt a (i : Int) z).name = s then (gt a (i : Int) z).rows else rof s (a.drop (i + 1)) := by
  rw [drop_at a h z, rof]
theorem rof_tix (s : Str) : ∀ (d : Nat) (a : List TData) (i : Nat), a.length - i = d → i ≤ a.length → (tix s (a.drop i) i < 0 → rof s (a.drop i) = []) ∧ (0 ≤ tix s (a.drop i) i → tix s (a.drop i) i < a.length ∧ rof s (a.drop i) = (gt a (tix s (a.drop i) i) TData.zero).rows)
  | 0, a, i, h, hi => by
    rw [List.drop_eq_nil_of_le (by omega)]
    simp [tix, rof]
  | d + 1, a, i, h, hi => by
    have hlt : i < a.length := by omega
    have ih := rof_tix s d a (i + 1) (by omega) hlt
    rw [tix_drop s a hlt TData.zero, rof_drop s a hlt TData.zero]
    split
    · rename_i hn
      exact ⟨fun h => by omega, fun _ => ⟨by omega, rfl⟩⟩
    · exact ih
theorem rof_sz (s : Str) : ∀ a : List TData, szL zVal (rof s a) ≤ szL zTData a
  | [] => by simp [rof, szL]
  | x :: xs => by
    have ih := rof_sz s xs
    have hx := zTData_f x
    simp only [rof]
    split
    · simp only [szL, List.map_cons, List.sum_cons, List.length_cons] at *
      omega
    · simp only [szL, List.map_cons, List.sum_cons, List.length_cons] at *
      omega
def c130 : List SA → Option RA := con2 (kR 7) kS fun (d : DBase) (s : Str) => .v kI (tix s d.tables 0)
theorem s130 (d : DBase) (s : Str) : Sp Try.prog 130 [.v (kR 7) d, .v kS s] (.v kI (tix s d.tables 0)) := by
  refine Sp_intro [] trivial (N := 22) (vs := [.t 4 (.v kI)]) (c := ir130) Try.func130 (by kernel_rfl) rfl ?_
  unfold ir130
  simp only [go_sem]
  refine LP_intro (X := ⟨Try.prog, 22, []⟩) trivial [1, 2, 4, 5] [[2]] (fun i : Nat => ⟨[(1, .v kS s), (2, .pt [2] 0), (4, .v kI 0), (5, .v kI (i : Int))], [([2], .box (lvs 7 d))]⟩) (fun i => i ≤ d.tables.length ∧ tix s (d.tables.drop i) i = tix s d.tables 0) (fun i => d.tables.length - i) ⟨0, ⟨Nat.zero_le _, rfl⟩, ?_⟩ (fun i hi => ?_)
  · simp only [go_sem]
    rfl
  obtain ⟨hi1, hi2⟩ := hi
  simp only [go_sem]
  intro _
  refine ⟨fun hlt => ⟨hlt, fun he => ?_, fun hne => ⟨i + 1, ⟨hlt, ?_⟩, by dsimp only; omega, ?_⟩⟩, fun hge => ?_⟩
  · rw [← hi2, tix_drop s d.tables hlt (Ki.z (kR 6)), if_pos he]
  · rw [← hi2, tix_drop s d.tables hlt (Ki.z (kR 6)), if_neg hne]
  · simp only [go_sem]
    rw [wrap_nat (by omega)]
  · rw [← hi2, List.drop_eq_nil_of_le hge]; rfl
def c87 : List SA → Option RA := con2 (kR 7) kS fun (d : DBase) (s : Str) => .v (kL (kR 1)) (rof s d.tables)
theorem s87 (d : DBase) (s : Str) : Sp Try.prog 87 [.v (kR 7) d, .v kS s] (.v (kL (kR 1)) (rof s d.tables)) := by
  refine Sp_intro [] trivial (N := 21) (vs := [.t 4 (.v (kL (kR 1)))]) (c := ir87) Try.func87 (by kernel_rfl) rfl ?_
  unfold ir87
  simp only [go_sem]
  intro _
  refine LP_intro (X := ⟨Try.prog, 21, []⟩) trivial [1, 4, 8, 9, 10] [] (fun i : Nat => ⟨[(1, .v kS s), (4, .nl (kR 1)), (8, .v (kL (kR 6)) d.tables), (9, .v kI (d.tables.length : Int)), (10, .v kI (i : Int))], []⟩) (fun i => i ≤ d.tables.length ∧ rof s (d.tables.drop i) = rof s d.tables) (fun i => d.tables.length - i) ⟨0, ⟨Nat.zero_le _, rfl⟩, ?_⟩ (fun i hi => ?_)
  · simp only [go_sem]
    rfl
  obtain ⟨hi1, hi2⟩ := hi
  simp only [go_sem]
  refine ⟨fun hlt => ⟨hlt, fun he => ?_, fun hne => ⟨i + 1, ⟨hlt, ?_⟩, by dsimp only; omega, ?_⟩⟩, fun hge => ?_⟩
  · rw [← hi2, rof_drop s d.tables hlt (Ki.z (kR 6)), if_pos he]
  · rw [← hi2, rof_drop s d.tables hlt (Ki.z (kR 6)), if_neg hne]
  · simp only [go_sem]
    rw [wrap_nat (by omega)]
  · rw [← hi2, List.drop_eq_nil_of_le hge]; rfl
noncomputable def c84 : List SA → Option RA := con2p (kR 7) kS (fun (d : DBase) (s : Str) => decide (zDBase d ≤ 1048576)) fun (d : DBase) (s : Str) => .v (kL (kR 1)) (rof s d.tables)
theorem s84 (d : DBase) (s : Str) (hn : decide (zDBase d ≤ 1048576) = true) : Sp Try.prog 84 [.v (kR 7) d, .v kS s] (.v (kL (kR 1)) (rof s d.tables)) := by
  simp only [decide_eq_true_eq] at hn
  have hz := zDBase_f d
  have hr := rof_sz s d.tables
  have ht := rof_tix s d.tables.length d.tables 0 (by omega) (Nat.zero_le _)
  rw [List.drop_zero] at ht
  refine Sp_intro [(130, c130), (131, c131)] ⟨con2_ok s130, con1p_ok s131, trivial⟩ (N := 19) (vs := [.t 4 (.v (kL (kR 1)))]) (c := ir84) Try.func84 (by kernel_rfl) rfl ?_
  unfold ir84
  simp only [go_sem, c130, c131]
  refine ⟨fun h => (ht.1 h).symm, fun h => ?_⟩
  obtain ⟨h1, h2⟩ := ht.2 h
  have h3 : (gt d.tables (tix s d.tables 0) (kR 6).z).rows = rof s d.tables := h2.symm
  exact ⟨h, h1, by rw [h3]; omega, h3⟩
def stp (d : DBase) (n : Int) (x : Gen) : Int := IntKind.i64.wrap (n * ((rof x.table d.tables).length : Int))
def prod (d : DBase) (g : List Gen) : Int := g.foldl (stp d) 1
theorem stp_drop (d : DBase) (g : List Gen) {i : Nat} (h : i < g.length) (z : Gen) (c : Int) : (g.drop i).foldl (stp d) c = (g.drop (i + 1)).foldl (stp d) (stp d c (gt g (i : Int) z)) := by
  rw [drop_at g h z]; rfl
def c36 : List SA → Option RA := con2 (kR 7) (kL (kR 3)) fun (d : DBase) (g : List Gen) => .v kI (prod d g)
theorem s36 (d : DBase) (g : List Gen) : Sp Try.prog 36 [.v (kR 7) d, .v (kL (kR 3)) g] (.v kI (prod d g)) := by
  refine Sp_intro [(87, c87)] ⟨con2_ok s87, trivial⟩ (N := 23) (vs := [.t 4 (.v kI)]) (c := ir36) Try.func36 (by kernel_rfl) rfl ?_
  unfold ir36
  simp only [go_sem, c87]
  intro _
  refine LP_intro (X := ⟨Try.prog, 23, [(87, c87)]⟩) ⟨con2_ok s87, trivial⟩ [2, 4, 5, 8, 9, 10] [[2]] (fun t : Nat × Int => ⟨[(2, .pt [2] 0), (4, .v kI 0), (5, .v kI t.2), (8, .v (kL (kR 3)) g), (9, .v kI (g.length : Int)), (10, .v kI (t.1 : Int))], [([2], .box (lvs 7 d))]⟩) (fun t => t.1 ≤ g.length ∧ (g.drop t.1).foldl (stp d) t.2 = prod d g) (fun t => g.length - t.1) ⟨(0, 1), ⟨Nat.zero_le _, rfl⟩, ?_⟩ (fun t ht => ?_)
  · simp only [go_sem, c87]
    rfl
  obtain ⟨i, c⟩ := t
  obtain ⟨h1, h2⟩ := ht
  simp only at h1 h2
  simp only [go_sem, c87]
  refine ⟨fun hlt => ⟨hlt, fun hr => ⟨(i + 1, stp d c (gt g (i : Int) (Ki.z (kR 3)))), ⟨hlt, ?_⟩, by dsimp only; omega, ?_⟩⟩, fun hge => ?_⟩
  · rw [← h2, stp_drop d g hlt (Ki.z (kR 3))]
  · simp only [go_sem, c87]
    rw [wrap_nat (by omega)]
    rfl
  · rw [← h2, List.drop_eq_nil_of_le hge]; rfl
noncomputable def c33 : List SA → Option RA := con2p (kR 7) (kL (kR 3)) (fun (d : DBase) (g : List Gen) => decide (zDBase d ≤ 1048576)) fun (d : DBase) (g : List Gen) => .v kI (prod d g)
theorem s33 (d : DBase) (g : List Gen) (hn : decide (zDBase d ≤ 1048576) = true) : Sp Try.prog 33 [.v (kR 7) d, .v (kL (kR 3)) g] (.v kI (prod d g)) := by
  simp only [decide_eq_true_eq] at hn
  refine Sp_intro [(84, c84)] ⟨con2p_ok s84, trivial⟩ (N := 24) (vs := [.t 4 (.v kI)]) (c := ir33) Try.func33 (by kernel_rfl) rfl ?_
  unfold ir33
  simp only [go_sem, c84]
  refine LP_intro (X := ⟨Try.prog, 24, [(84, c84)]⟩) ⟨con2p_ok s84, trivial⟩ [1, 2, 4, 5, 6] [[2]] (fun t : Nat × Int => ⟨[(1, .v (kL (kR 3)) g), (2, .pt [2] 0), (4, .v kI 0), (5, .v kI t.2), (6, .v kI (t.1 : Int))], [([2], .box (lvs 7 d))]⟩) (fun t => t.1 ≤ g.length ∧ (g.drop t.1).foldl (stp d) t.2 = prod d g) (fun t => g.length - t.1) ⟨(0, 1), ⟨Nat.zero_le _, rfl⟩, ?_⟩ (fun t ht => ?_)
  · simp only [go_sem, c84]
    rfl
  obtain ⟨i, c⟩ := t
  obtain ⟨h1, h2⟩ := ht
  simp only at h1 h2
  simp only [go_sem, c84, hn, eta_7]
  intro _
  refine ⟨fun hlt => ⟨hlt, fun hr => ⟨(i + 1, stp d c (gt g (i : Int) (Ki.z (kR 3)))), ⟨hlt, ?_⟩, by dsimp only; omega, ?_⟩⟩, fun hge => ?_⟩
  · rw [← h2, stp_drop d g hlt (Ki.z (kR 3))]
  · simp only [go_sem, c84]
    rw [wrap_nat (by omega)]
    rfl
  · rw [← h2, List.drop_eq_nil_of_le hge]; rfl
theorem s7 (d : DBase) (g : List Gen) : Sp Try.prog 7 [.v (kR 7) d, .v (kL (kR 3)) g] (.v .bool true) := by
  refine Sp_intro [(31, c31), (32, c32), (33, c33), (34, c34), (35, c35), (36, c36), (37, c37), (38, c38)] ⟨con2p_ok s31, con2p_ok s32, con2p_ok s33, con1p_ok s34, con1p_ok s35, con2_ok s36, con2_ok s37, con2_ok s38, trivial⟩ (N := 45) (vs := [.t 4 (.v .bool)]) (c := ir7) Try.func7 (by kernel_rfl) rfl ?_
  unfold ir7
  simp only [go_sem, c31, c32, c33, c34, c35, c36, c37, c38, eqb_self]
  intro h
  obtain ⟨h1, h2⟩ := sz1_nn h
  refine ⟨by omega, fun h3 => ?_⟩
  obtain ⟨h4, h5⟩ := sz1_nn h3
  omega
end Go.Q
