/- Equal lists of names and numbers. -/
import Derived.Test.YtdjhnobhbnjihaaQd
import Derived.Test.YtdjhnobhbnjihaaProg
import Derived.KernelRfl
set_option linter.unusedVariables false
set_option linter.unusedSimpArgs false
namespace Go.Q
open Go.Proofs
set_option linter.unusedSimpArgs false
set_option linter.unusedVariables false
def ir67 : C := .sq (.rg [.mv 4 (.b false)]) (.sq (.sq (.rg [.mv 6 (.t 0), .ln 7 false (.t 6), .mv 8 (.t 1), .ln 9 false (.t 8), .bi 10 .neq (.t 7) (.t 9)]) (.cd (.t 10) (.sq (.rg [.mv 4 (.b false)]) (.rt)) (.skip))) (.sq (.sq (.rg [.mv 11 (.t 0), .ln 12 false (.t 11), .mv 13 (.i 0)]) (.bk 0 (.lp (.sq (.rg [.bi 14 .lss (.t 13) (.t 12)]) (.sq (.cd (.t 14) (.skip) (.ex 0)) (.sq (.bk 1 (.sq (.rg [.mv 15 (.t 13), .mv 5 (.t 15)]) (.sq (.dr [] [.mv 16 (.t 0), .mv 17 (.t 5), .ia 18 (.t 16) (.t 17) kS, .ld 19 (.t 18) kS, .mv 20 (.t 1), .mv 21 (.t 5), .ia 22 (.t 20) (.t 21) kS, .ld 23 (.t 22) kS] [.bi 24 .neq (.t 19) (.t 23)]) (.cd (.t 24) (.sq (.rg [.mv 4 (.b false)]) (.rt)) (.skip))))) (.rg [.bi 25 .add (.t 13) (.i 1), .mv 13 (.t 25)]))))))) (.sq (.rg [.mv 4 (.b true)]) (.rt))))
def ir66 : C := .sq (.rg [.mv 4 (.b false)]) (.sq (.sq (.rg [.mv 6 (.t 0), .ln 7 false (.t 6), .mv 8 (.t 1), .ln 9 false (.t 8), .bi 10 .neq (.t 7) (.t 9)]) (.cd (.t 10) (.sq (.rg [.mv 4 (.b false)]) (.rt)) (.skip))) (.sq (.sq (.rg [.mv 5 (.i 0)]) (.bk 0 (.lp (.sq (.sq (.rg [.mv 11 (.t 5), .mv 12 (.t 0), .ln 13 false (.t 12), .bi 14 .lss (.t 11) (.t 13)]) (.cd (.t 14) (.skip) (.ex 0))) (.sq (.bk 1 (.sq (.dr [] [.mv 17 (.t 0), .mv 18 (.t 5), .ia 19 (.t 17) (.t 18) kS, .ld 20 (.t 19) kS, .mv 21 (.t 1), .mv 22 (.t 5), .ia 23 (.t 21) (.t 22) kS, .ld 24 (.t 23) kS] [.bi 25 .neq (.t 20) (.t 24)]) (.cd (.t 25) (.sq (.rg [.mv 4 (.b false)]) (.rt)) (.skip)))) (.rg [.mv 15 (.t 5), .bi 16 .add (.t 15) (.i 1), .mv 5 (.t 16)])))))) (.sq (.rg [.mv 4 (.b true)]) (.rt))))
def ir15 : C := .sq (.rg [.mv 4 (.b false)]) (.sq (.rg [.mv 5 (.t 0), .mv 6 (.t 1), .cv (some 7) 66 [((.t 5), .v (kL kS)), ((.t 6), .v (kL kS))], .mv 4 (.t 7)]) (.rt))
def ir17 : C := .sq (.rg [.mv 4 (.b false)]) (.sq (.rg [.mv 5 (.t 0), .mv 6 (.t 1), .cv (some 7) 67 [((.t 5), .v (kL kS)), ((.t 6), .v (kL kS))], .mv 4 (.t 7)]) (.rt))
def ir70 : C := .sq (.rg [.mv 4 (.b false)]) (.sq (.sq (.rg [.mv 6 (.t 0), .ln 7 false (.t 6), .mv 8 (.t 1), .ln 9 false (.t 8), .bi 10 .neq (.t 7) (.t 9)]) (.cd (.t 10) (.sq (.rg [.mv 4 (.b false)]) (.rt)) (.skip))) (.sq (.sq (.rg [.mv 11 (.t 0), .ln 12 false (.t 11), .mv 13 (.i 0)]) (.bk 0 (.lp (.sq (.rg [.bi 14 .lss (.t 13) (.t 12)]) (.sq (.cd (.t 14) (.skip) (.ex 0)) (.sq (.bk 1 (.sq (.rg [.mv 15 (.t 13), .mv 5 (.t 15)]) (.sq (.dr [] [.mv 16 (.t 0), .mv 17 (.t 5), .ia 18 (.t 16) (.t 17) kI, .ld 19 (.t 18) kI, .mv 20 (.t 1), .mv 21 (.t 5), .ia 22 (.t 20) (.t 21) kI, .ld 23 (.t 22) kI] [.bi 24 .neq (.t 19) (.t 23)]) (.cd (.t 24) (.sq (.rg [.mv 4 (.b false)]) (.rt)) (.skip))))) (.rg [.bi 25 .add (.t 13) (.i 1), .mv 13 (.t 25)]))))))) (.sq (.rg [.mv 4 (.b true)]) (.rt))))
def ir20 : C := .sq (.rg [.bx 2 (.t 0) (kR 14), .bx 3 (.t 1) (kR 14), .mv 4 (.b false)]) (.sq (.sq (.rg [.fa 6 (.t 2) 14 0 0, .ld 7 (.t 6) kI, .fa 8 (.t 3) 14 0 0, .ld 9 (.t 8) kI, .bi 10 .neq (.t 7) (.t 9), .mv 11 (.t 10), .g 11 false (.fa 12 (.t 2) 14 1 1), .g 11 false (.ld 13 (.t 12) (kL kI)), .g 11 false (.ln 14 false (.t 13)), .g 11 false (.fa 15 (.t 3) 14 1 1), .g 11 false (.ld 16 (.t 15) (kL kI)), .g 11 false (.ln 17 false (.t 16)), .g 11 false (.bi 18 .neq (.t 14) (.t 17)), .pk 19 (.t 11) (.b true) (.t 18)]) (.cd (.t 19) (.sq (.rg [.mv 4 (.b false)]) (.rt)) (.skip))) (.sq (.sq (.rg [.mv 5 (.i 0)]) (.bk 0 (.lp (.sq (.sq (.rg [.mv 20 (.t 5), .fa 21 (.t 2) 14 1 1, .ld 22 (.t 21) (kL kI), .ln 23 false (.t 22), .bi 24 .lss (.t 20) (.t 23)]) (.cd (.t 24) (.skip) (.ex 0))) (.sq (.bk 1 (.sq (.dr [] [.fa 27 (.t 2) 14 1 1, .ld 28 (.t 27) (kL kI), .mv 29 (.t 5), .ia 30 (.t 28) (.t 29) kI, .ld 31 (.t 30) kI, .fa 32 (.t 3) 14 1 1, .ld 33 (.t 32) (kL kI), .mv 34 (.t 5), .ia 35 (.t 33) (.t 34) kI, .ld 36 (.t 35) kI] [.bi 37 .neq (.t 31) (.t 36)]) (.cd (.t 37) (.sq (.rg [.mv 4 (.b false)]) (.rt)) (.skip)))) (.rg [.mv 25 (.t 5), .bi 26 .add (.t 25) (.i 1), .mv 5 (.t 26)])))))) (.sq (.rg [.mv 4 (.b true)]) (.rt))))
def ir22 : C := .sq (.rg [.bx 2 (.t 0) (kR 14), .bx 3 (.t 1) (kR 14), .mv 4 (.b false)]) (.sq (.rg [.fa 5 (.t 2) 14 0 0, .ld 6 (.t 5) kI, .fa 7 (.t 3) 14 0 0, .ld 8 (.t 7) kI, .bi 9 .eql (.t 6) (.t 8), .mv 10 (.t 9), .g 10 true (.fa 11 (.t 2) 14 1 1), .g 10 true (.ld 12 (.t 11) (kL kI)), .g 10 true (.fa 13 (.t 3) 14 1 1), .g 10 true (.ld 14 (.t 13) (kL kI)), .g 10 true (.cv (some 15) 70 [((.t 12), .v (kL kI)), ((.t 14), .v (kL kI))]), .pk 16 (.t 10) (.t 15) (.b false), .mv 4 (.t 16)]) (.rt))
theorem eqb_congr {α β : Type} {a b : α} {c d : β} (h : a = b ↔ c = d) : eqb a b = eqb c d := by rw [Bool.eq_iff_iff, eqb_true, eqb_true]; exact h
noncomputable def c67 : List SA → Option RA := con2 (kL kS) (kL kS) fun a b => .v .bool (eqb a b)
theorem s67 (a b : List Str) : Sp Try.prog 67 [.v (kL kS) a, .v (kL kS) b] (.v .bool (eqb a b)) := by
  refine Sp_intro [] trivial (N := 26) (vs := [.t 4 (.v .bool)]) (c := ir67) Try.func67 (by kernel_rfl) rfl ?_
  unfold ir67
  simp only [go_sem]
  intro h1 h2
  refine ⟨fun h3 => fun h => h3 (by rw [h]), fun h3 _ => ?_⟩
  refine LP_intro (X := ⟨Try.prog, 26, []⟩) trivial [0, 1, 4, 12, 13] [] (fun i : Nat => ⟨[(0, .v (kL kS) a), (1, .v (kL kS) b), (4, .v .bool false), (12, .v kI (a.length : Int)), (13, .v kI (i : Int))], []⟩) (fun i => i ≤ a.length ∧ ∀ j : Nat, j < i → gt a (j : Int) kS.z = gt b (j : Int) kS.z) (fun i => a.length - i) ⟨0, ⟨Nat.zero_le _, fun j hj => absurd hj (Nat.not_lt_zero j)⟩, ?_⟩ (fun i hi => ?_)
  · simp only [go_sem]; rfl
  obtain ⟨hi1, hi2⟩ := hi
  simp only [go_sem]
  refine ⟨fun hlt => ⟨hlt, by omega, fun hne => fun h => hne (by rw [h]), fun he => ⟨i + 1, ⟨hlt, below_succ hi2 he⟩, by dsimp only; omega, ?_⟩⟩, fun hge => (row_eq (by omega) fun j hj => hi2 j (by omega))⟩
  simp only [go_sem]
  rw [wrap_nat (by omega)]
noncomputable def c66 : List SA → Option RA := con2 (kL kS) (kL kS) fun a b => .v .bool (eqb a b)
theorem s66 (a b : List Str) : Sp Try.prog 66 [.v (kL kS) a, .v (kL kS) b] (.v .bool (eqb a b)) := by
  refine Sp_intro [] trivial (N := 26) (vs := [.t 4 (.v .bool)]) (c := ir66) Try.func66 (by kernel_rfl) rfl ?_
  unfold ir66
  simp only [go_sem]
  intro h1 h2
  refine ⟨fun h3 => fun h => h3 (by rw [h]), fun h3 => ?_⟩
  refine LP_intro (X := ⟨Try.prog, 26, []⟩) trivial [0, 1, 4, 5] [] (fun i : Nat => ⟨[(0, .v (kL kS) a), (1, .v (kL kS) b), (4, .v .bool false), (5, .v kI (i : Int))], []⟩) (fun i => i ≤ a.length ∧ ∀ j : Nat, j < i → gt a (j : Int) kS.z = gt b (j : Int) kS.z) (fun i => a.length - i) ⟨0, ⟨Nat.zero_le _, fun j hj => absurd hj (Nat.not_lt_zero j)⟩, ?_⟩ (fun i hi => ?_)
  · simp only [go_sem]; rfl
  obtain ⟨hi1, hi2⟩ := hi
  simp only [go_sem]
  intro _
  refine ⟨fun hlt => ⟨hlt, by omega, fun hne => fun h => hne (by rw [h]), fun he => ⟨i + 1, ⟨hlt, below_succ hi2 he⟩, by dsimp only; omega, ?_⟩⟩, fun hge => (row_eq (by omega) fun j hj => hi2 j (by omega))⟩
  simp only [go_sem]
  rw [wrap_nat (by omega)]
noncomputable def c15 : List SA → Option RA := con2 (kL kS) (kL kS) fun a b => .v .bool (eqb a b)
theorem s15 (a b : List Str) : Sp Try.prog 15 [.v (kL kS) a, .v (kL kS) b] (.v .bool (eqb a b)) := by
  refine Sp_intro [(66, c66)] ⟨con2_ok s66, trivial⟩ (N := 8) (vs := [.t 4 (.v .bool)]) (c := ir15) Try.func15 (by kernel_rfl) rfl ?_
  unfold ir15
  simp only [go_sem, c66]
noncomputable def c17 : List SA → Option RA := con2 (kL kS) (kL kS) fun a b => .v .bool (eqb a b)
theorem s17 (a b : List Str) : Sp Try.prog 17 [.v (kL kS) a, .v (kL kS) b] (.v .bool (eqb a b)) := by
  refine Sp_intro [(67, c67)] ⟨con2_ok s67, trivial⟩ (N := 8) (vs := [.t 4 (.v .bool)]) (c := ir17) Try.func17 (by kernel_rfl) rfl ?_
  unfold ir17
  simp only [go_sem, c67]
noncomputable def c70 : List SA → Option RA := con2 (kL kI) (kL kI) fun a b => .v .bool (eqb a b)
theorem s70 (a b : List Int) : Sp Try.prog 70 [.v (kL kI) a, .v (kL kI) b] (.v .bool (eqb a b)) := by
  refine Sp_intro [] trivial (N := 26) (vs := [.t 4 (.v .bool)]) (c := ir70) Try.func70 (by kernel_rfl) rfl ?_
  unfold ir70
  simp only [go_sem]
  intro h1 h2
  refine ⟨fun h3 => fun h => h3 (by rw [h]), fun h3 _ => ?_⟩
  refine LP_intro (X := ⟨Try.prog, 26, []⟩) trivial [0, 1, 4, 12, 13] [] (fun i : Nat => ⟨[(0, .v (kL kI) a), (1, .v (kL kI) b), (4, .v .bool false), (12, .v kI (a.length : Int)), (13, .v kI (i : Int))], []⟩) (fun i => i ≤ a.length ∧ ∀ j : Nat, j < i → gt a (j : Int) kI.z = gt b (j : Int) kI.z) (fun i => a.length - i) ⟨0, ⟨Nat.zero_le _, fun j hj => absurd hj (Nat.not_lt_zero j)⟩, ?_⟩ (fun i hi => ?_)
  · simp only [go_sem]; rfl
  obtain ⟨hi1, hi2⟩ := hi
  simp only [go_sem]
  refine ⟨fun hlt => ⟨hlt, by omega, fun hne => fun h => hne (by rw [h]), fun he => ⟨i + 1, ⟨hlt, below_succ hi2 he⟩, by dsimp only; omega, ?_⟩⟩, fun hge => (row_eq (by omega) fun j hj => hi2 j (by omega))⟩
  simp only [go_sem]
  rw [wrap_nat (by omega)]
noncomputable def c20 : List SA → Option RA := con2 (kR 14) (kR 14) fun a b => .v .bool (eqb a b)
theorem s20 (a b : Key) : Sp Try.prog 20 [.v (kR 14) a, .v (kR 14) b] (.v .bool (eqb a b)) := by
  refine Sp_intro [] trivial (N := 38) (vs := [.t 4 (.v .bool)]) (c := ir20) Try.func20 (by kernel_rfl) rfl ?_
  unfold ir20
  simp only [go_sem]
  refine ⟨fun ht h1 h2 => ⟨fun h => fun e => h (by rw [e]), fun hl => ?_⟩, fun h => fun e => h (by rw [e])⟩
  refine LP_intro (X := ⟨Try.prog, 38, []⟩) trivial [2, 3, 4, 5] [[2], [3]] (fun i : Nat => ⟨[(2, .pt [2] 0), (3, .pt [3] 0), (4, .v .bool false), (5, .v kI (i : Int))], [([2], .box [.v kI a.tag, .v (kL kI) a.rows]), ([3], .box [.v kI b.tag, .v (kL kI) b.rows])]⟩) (fun i => i ≤ b.rows.length ∧ ∀ j : Nat, j < i → gt a.rows (j : Int) kI.z = gt b.rows (j : Int) kI.z) (fun i => a.rows.length - i) ⟨0, ⟨Nat.zero_le _, fun j hj => absurd hj (Nat.not_lt_zero j)⟩, ?_⟩ (fun i hi => ?_)
  · simp only [go_sem]; rfl
  obtain ⟨hi1, hi2⟩ := hi
  simp only [go_sem]
  intro _
  refine ⟨fun hlt => ⟨by omega, by omega, fun hne => fun h => hne (by rw [h]), fun he => ⟨i + 1, ⟨by omega, below_succ hi2 he⟩, by dsimp only; omega, ?_⟩⟩, fun hge => ?_⟩
  · simp only [go_sem]
    rw [wrap_nat (by omega)]
  · have := row_eq (by omega) fun j hj => hi2 j (by omega)
    cases a; cases b; simp_all
noncomputable def c22 : List SA → Option RA := con2 (kR 14) (kR 14) fun a b => .v .bool (eqb a b)
theorem s22 (a b : Key) : Sp Try.prog 22 [.v (kR 14) a, .v (kR 14) b] (.v .bool (eqb a b)) := by
  refine Sp_intro [(70, c70)] ⟨con2_ok s70, trivial⟩ (N := 17) (vs := [.t 4 (.v .bool)]) (c := ir22) Try.func22 (by kernel_rfl) rfl ?_
  unfold ir22
  simp only [go_sem, c70, ext_14]
  all_goals simp +contextual
  all_goals (intros; refine eqb_congr ?_; rw [ext_14]; simp [*])
end Go.Q
