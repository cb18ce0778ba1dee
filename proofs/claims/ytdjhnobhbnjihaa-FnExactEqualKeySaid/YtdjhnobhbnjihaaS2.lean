/- The functions that FnExactEqualKey calls answer as their contracts say. -/
import Derived.Test.YtdjhnobhbnjihaaQd
import Derived.Test.YtdjhnobhbnjihaaProg
import Derived.KernelRfl
set_option linter.unusedVariables false
set_option linter.unusedSimpArgs false
namespace Go.Q
open Go.Proofs
set_option linter.unusedSimpArgs false
set_option linter.unusedVariables false
def ir71 : C := .sq (.rg [.mv 4 (.b false)]) (.sq (.sq (.rg [.mv 6 (.t 0), .ln 7 false (.t 6), .mv 8 (.t 1), .ln 9 false (.t 8), .bi 10 .neq (.t 7) (.t 9)]) (.cd (.t 10) (.sq (.rg [.mv 4 (.b false)]) (.rt)) (.skip))) (.sq (.sq (.rg [.mv 5 (.i 0)]) (.bk 0 (.lp (.sq (.sq (.rg [.mv 11 (.t 5), .mv 12 (.t 0), .ln 13 false (.t 12), .bi 14 .lss (.t 11) (.t 13)]) (.cd (.t 14) (.skip) (.ex 0))) (.sq (.bk 1 (.sq (.dr [.mv 17 (.t 0), .mv 18 (.t 5), .ia 19 (.t 17) (.t 18) kI, .ld 20 (.t 19) kI, .mv 21 (.t 1), .mv 22 (.t 5), .ia 23 (.t 21) (.t 22) kI, .ld 24 (.t 23) kI, .bi 25 .neq (.t 20) (.t 24)] []) (.cd (.t 25) (.sq (.rg [.mv 4 (.b false)]) (.rt)) (.skip)))) (.rg [.mv 15 (.t 5), .bi 16 .add (.t 15) (.i 1), .mv 5 (.t 16)])))))) (.sq (.rg [.mv 4 (.b true)]) (.rt))))
def ir20 : C := .sq (.rg [.bx 2 (.t 0) (kR 14), .bx 3 (.t 1) (kR 14), .mv 4 (.b false)]) (.sq (.sq (.rg [.fa 6 (.t 2) 14 0 0, .ld 7 (.t 6) kI, .fa 8 (.t 3) 14 0 0, .ld 9 (.t 8) kI, .bi 10 .neq (.t 7) (.t 9), .mv 11 (.t 10), .g 11 false (.fa 12 (.t 2) 14 1 1), .g 11 false (.ld 13 (.t 12) (kL kI)), .g 11 false (.ln 14 false (.t 13)), .g 11 false (.fa 15 (.t 3) 14 1 1), .g 11 false (.ld 16 (.t 15) (kL kI)), .g 11 false (.ln 17 false (.t 16)), .g 11 false (.bi 18 .neq (.t 14) (.t 17)), .pk 19 (.t 11) (.b true) (.t 18)]) (.cd (.t 19) (.sq (.rg [.mv 4 (.b false)]) (.rt)) (.skip))) (.sq (.sq (.rg [.mv 5 (.i 0)]) (.bk 0 (.lp (.sq (.sq (.rg [.mv 20 (.t 5), .fa 21 (.t 2) 14 1 1, .ld 22 (.t 21) (kL kI), .ln 23 false (.t 22), .bi 24 .lss (.t 20) (.t 23)]) (.cd (.t 24) (.skip) (.ex 0))) (.sq (.bk 1 (.sq (.dr [.fa 27 (.t 2) 14 1 1, .ld 28 (.t 27) (kL kI), .mv 29 (.t 5), .ia 30 (.t 28) (.t 29) kI, .ld 31 (.t 30) kI, .fa 32 (.t 3) 14 1 1, .ld 33 (.t 32) (kL kI), .mv 34 (.t 5), .ia 35 (.t 33) (.t 34) kI, .ld 36 (.t 35) kI, .bi 37 .neq (.t 31) (.t 36)] []) (.cd (.t 37) (.sq (.rg [.mv 4 (.b false)]) (.rt)) (.skip)))) (.rg [.mv 25 (.t 5), .bi 26 .add (.t 25) (.i 1), .mv 5 (.t 26)])))))) (.sq (.rg [.mv 4 (.b true)]) (.rt))))
def ir22 : C := .sq (.rg [.bx 2 (.t 0) (kR 14), .bx 3 (.t 1) (kR 14), .mv 4 (.b false)]) (.sq (.rg [.fa 5 (.t 2) 14 0 0, .ld 6 (.t 5) kI, .fa 7 (.t 3) 14 0 0, .ld 8 (.t 7) kI, .bi 9 .eql (.t 6) (.t 8), .mv 10 (.t 9), .g 10 true (.fa 11 (.t 2) 14 1 1), .g 10 true (.ld 12 (.t 11) (kL kI)), .g 10 true (.fa 13 (.t 3) 14 1 1), .g 10 true (.ld 14 (.t 13) (kL kI)), .g 10 true (.cv (some 15) 70 [((.t 12), .v (kL kI)), ((.t 14), .v (kL kI))]), .pk 16 (.t 10) (.t 15) (.b false), .mv 4 (.t 16)]) (.rt))
def ir23 : C := .sq (.rg [.bx 2 (.t 0) (kR 14), .bx 3 (.t 1) (kR 14), .mv 4 (.b false)]) (.sq (.sq (.rg [.fa 5 (.t 2) 14 0 0, .ld 6 (.t 5) kI, .fa 7 (.t 3) 14 0 0, .ld 8 (.t 7) kI, .bi 9 .neq (.t 6) (.t 8)]) (.cd (.t 9) (.sq (.rg [.mv 4 (.b false)]) (.rt)) (.skip))) (.sq (.sq (.rg [.fa 10 (.t 2) 14 1 1, .ld 11 (.t 10) (kL kI), .fa 12 (.t 3) 14 1 1, .ld 13 (.t 12) (kL kI), .cv (some 14) 71 [((.t 11), .v (kL kI)), ((.t 13), .v (kL kI))], .un 15 .not (.t 14)]) (.cd (.t 15) (.sq (.rg [.mv 4 (.b false)]) (.rt)) (.skip))) (.sq (.rg [.mv 4 (.b true)]) (.rt))))
def ir19 : C := .sq (.rg [.bx 2 (.t 0) (kR 14), .mv 4 (.i 0)]) (.sq (.rg [.fa 5 (.t 2) 14 1 1, .ld 6 (.t 5) (kL kI), .mv 7 (.t 1), .cv (some 8) 68 [((.t 6), .v (kL kI)), ((.t 7), .v kI)], .mv 1 (.t 8)]) (.sq (.sq (.rg [.mv 9 (.t 1), .bi 10 .lss (.t 9) (.i 0)]) (.cd (.t 10) (.sq (.rg [.mv 4 (.i (-1))]) (.rt)) (.skip))) (.sq (.rg [.mv 11 (.t 1), .mv 4 (.t 11)]) (.rt))))
def ir69 : C := .sq (.rg [.mv 2 (.nl kI)]) (.sq (.rg [.mv 5 (.t 0), .ln 6 false (.t 5), .mk 7 true kI (.t 6), .mv 3 (.t 7)]) (.sq (.sq (.rg [.mv 4 (.i 0)]) (.bk 0 (.lp (.sq (.sq (.rg [.mv 8 (.t 4), .mv 9 (.t 0), .ln 10 false (.t 9), .bi 11 .lss (.t 8) (.t 10)]) (.cd (.t 11) (.skip) (.ex 0))) (.sq (.bk 1 (.rg [.mv 14 (.t 3), .mv 15 (.t 4), .mv 16 (.t 0), .mv 17 (.t 4), .ia 18 (.t 16) (.t 17) kI, .ld 19 (.t 18) kI, .ia 20 (.t 14) (.t 15) kI, .st (.t 20) (.t 19) kI])) (.rg [.mv 12 (.t 4), .bi 13 .add (.t 12) (.i 1), .mv 4 (.t 13)])))))) (.sq (.rg [.mv 21 (.t 3), .mv 2 (.t 21)]) (.rt))))
def ir70 : C := .sq (.rg [.mv 4 (.b false)]) (.sq (.sq (.rg [.mv 6 (.t 0), .ln 7 false (.t 6), .mv 8 (.t 1), .ln 9 false (.t 8), .bi 10 .neq (.t 7) (.t 9)]) (.cd (.t 10) (.sq (.rg [.mv 4 (.b false)]) (.rt)) (.skip))) (.sq (.sq (.rg [.mv 11 (.t 0), .ln 12 false (.t 11), .mv 13 (.i 0)]) (.bk 0 (.lp (.sq (.rg [.bi 14 .lss (.t 13) (.t 12)]) (.sq (.cd (.t 14) (.skip) (.ex 0)) (.sq (.bk 1 (.sq (.rg [.mv 15 (.t 13), .mv 5 (.t 15)]) (.sq (.dr [.mv 16 (.t 0), .mv 17 (.t 5), .ia 18 (.t 16) (.t 17) kI, .ld 19 (.t 18) kI, .mv 20 (.t 1), .mv 21 (.t 5), .ia 22 (.t 20) (.t 21) kI, .ld 23 (.t 22) kI, .bi 24 .neq (.t 19) (.t 23)] []) (.cd (.t 24) (.sq (.rg [.mv 4 (.b false)]) (.rt)) (.skip))))) (.rg [.bi 25 .add (.t 13) (.i 1), .mv 13 (.t 25)]))))))) (.sq (.rg [.mv 4 (.b true)]) (.rt))))
def ir68 : C := .sq (.rg [.mv 4 (.i 0)]) (.sq (.rg [.mv 5 (.t 1), .mv 6 (.t 0), .ln 7 false (.t 6), .bi 8 .sub (.t 5) (.t 7), .mv 1 (.t 8)]) (.sq (.sq (.rg [.mv 9 (.t 1), .bi 10 .lss (.t 9) (.i 0)]) (.cd (.t 10) (.sq (.rg [.mv 4 (.i (-1))]) (.rt)) (.skip))) (.sq (.rg [.mv 11 (.t 1), .mv 4 (.t 11)]) (.rt))))
def ir21 : C := .sq (.rg [.bx 1 (.t 0) (kR 14), .al 2 (kR 14)]) (.sq (.rg [.al 3 (kR 14)]) (.sq (.rg [.fa 4 (.t 1) 14 0 0, .ld 5 (.t 4) kI, .fa 6 (.t 3) 14 0 0, .st (.t 6) (.t 5) kI]) (.sq (.rg [.fa 7 (.t 1) 14 1 1, .ld 8 (.t 7) (kL kI), .cv (some 9) 69 [((.t 8), .v (kL kI))], .fa 10 (.t 3) 14 1 1, .st (.t 10) (.t 9) (kL kI)]) (.sq (.rg [.ld 11 (.t 3) (kR 14), .st (.t 2) (.t 11) (kR 14)]) (.rt)))))
def ir4 : C := .sq (.rg [.bx 2 (.t 0) (kR 14), .bx 3 (.t 1) (kR 14), .mv 4 (.b false)]) (.sq (.rg [.mv 5 (.i 1048576)]) (.sq (.rg [.ld 10 (.t 2) (kR 14), .mv 11 (.t 5), .cv (some 12) 19 [((.t 10), .v (kR 14)), ((.t 11), .v kI)], .mv 5 (.t 12)]) (.sq (.sq (.rg [.mv 13 (.t 5), .bi 14 .lss (.t 13) (.i 0)]) (.cd (.t 14) (.sq (.rg [.mv 4 (.b true)]) (.rt)) (.skip))) (.sq (.rg [.ld 15 (.t 3) (kR 14), .mv 16 (.t 5), .cv (some 17) 19 [((.t 15), .v (kR 14)), ((.t 16), .v kI)], .mv 5 (.t 17)]) (.sq (.sq (.rg [.mv 18 (.t 5), .bi 19 .lss (.t 18) (.i 0)]) (.cd (.t 19) (.sq (.rg [.mv 4 (.b true)]) (.rt)) (.skip))) (.sq (.dr [.ld 20 (.t 2) (kR 14), .cv (some 21) 21 [((.t 20), .v (kR 14))], .ld 22 (.t 3) (kR 14), .cv (some 23) 21 [((.t 22), .v (kR 14))], .cv (some 24) 20 [((.t 21), .v (kR 14)), ((.t 23), .v (kR 14))]] [.mv 6 (.t 24)]) (.sq (.rg [.ld 25 (.t 2) (kR 14), .cv (some 26) 21 [((.t 25), .v (kR 14))], .al 7 (kR 14), .st (.t 7) (.t 26) (kR 14)]) (.sq (.rg [.ld 27 (.t 3) (kR 14), .cv (some 28) 21 [((.t 27), .v (kR 14))], .al 8 (kR 14), .st (.t 8) (.t 28) (kR 14)]) (.sq (.rg [.ld 29 (.t 7) (kR 14), .ld 30 (.t 8) (kR 14), .cv (some 31) 22 [((.t 29), .v (kR 14)), ((.t 30), .v (kR 14))], .mv 9 (.t 31)]) (.sq (.sq (.rg [.mv 32 (.t 9), .mv 33 (.t 6), .be 34 true (.t 32) (.t 33)]) (.cd (.t 34) (.sq (.rg [.mv 4 (.b false)]) (.rt)) (.skip))) (.sq (.sq (.dr [.ld 35 (.t 7) (kR 14), .ld 36 (.t 2) (kR 14), .cv (some 37) 21 [((.t 36), .v (kR 14))], .cv (some 38) 23 [((.t 35), .v (kR 14)), ((.t 37), .v (kR 14))], .un 39 .not (.t 38)] []) (.cd (.t 39) (.sq (.rg [.mv 4 (.b false)]) (.rt)) (.skip))) (.sq (.sq (.dr [.ld 40 (.t 8) (kR 14), .ld 41 (.t 3) (kR 14), .cv (some 42) 21 [((.t 41), .v (kR 14))], .cv (some 43) 23 [((.t 40), .v (kR 14)), ((.t 42), .v (kR 14))], .un 44 .not (.t 43)] []) (.cd (.t 44) (.sq (.rg [.mv 4 (.b false)]) (.rt)) (.skip))) (.sq (.rg [.mv 4 (.b true)]) (.rt))))))))))))))
noncomputable def c71 : List SA → Option RA := con2 (kL kI) (kL kI) fun a b => .v .bool (eqb a b)
noncomputable def c70 : List SA → Option RA := con2 (kL kI) (kL kI) fun a b => .v .bool (eqb a b)
noncomputable def c20 : List SA → Option RA := con2 (kR 14) (kR 14) fun a b => .v .bool (eqb a b)
noncomputable def c22 : List SA → Option RA := con2 (kR 14) (kR 14) fun a b => .v .bool (eqb a b)
noncomputable def c23 : List SA → Option RA := con2 (kR 14) (kR 14) fun a b => .v .bool (eqb a b)
def c69 : List SA → Option RA := con1p (kL kI) (fun a => decide (List.length a ≤ 1048576)) fun a => .v (kL kI) a
def c21 : List SA → Option RA := con1p (kR 14) (fun a => decide (List.length (Key.rows a) ≤ 1048576)) fun a => .v (kR 14) a
def c68 : List SA → Option RA := con2p (kL kI) kI (fun (a : List Int) (n : Int) => decide (0 ≤ n) && decide (n ≤ 1048576)) fun (a : List Int) (n : Int) => .v kI (sz1 (List.length a) n)
def c19 : List SA → Option RA := con2p (kR 14) kI (fun (a : Key) (n : Int) => decide (0 ≤ n) && decide (n ≤ 1048576)) fun (a : Key) (n : Int) => .v kI (sz1 (List.length (Key.rows a)) n)
theorem s71 (a b : List Int) : Sp Try.prog 71 [.v (kL kI) a, .v (kL kI) b] (.v .bool (eqb a b)) := by
  refine Sp_intro [] trivial (N := 26) (vs := [.t 4 (.v .bool)]) (c := ir71) Try.func71 (by kernel_rfl) rfl ?_
  unfold ir71
  simp only [go_sem]
  intro h1 h2
  refine ⟨fun h3 => eqb_ne fun h => h3 (by rw [h]), fun h3 => ?_⟩
  refine LP_intro (X := ⟨Try.prog, 26, []⟩) trivial [0, 1, 4, 5] [] (fun i : Nat => ⟨[(0, .v (kL kI) a), (1, .v (kL kI) b), (4, .v .bool false), (5, .v kI (i : Int))], []⟩) (fun i => i ≤ a.length ∧ ∀ j : Nat, j < i → gt a (j : Int) kI.z = gt b (j : Int) kI.z) (fun i => a.length - i) ⟨0, ⟨Nat.zero_le _, fun j hj => absurd hj (Nat.not_lt_zero j)⟩, ?_⟩ (fun i hi => ?_)
  · simp only [go_sem]; rfl
  obtain ⟨hi1, hi2⟩ := hi
  simp only [go_sem]
  intro _
  refine ⟨fun hlt => ⟨hlt, by omega, fun hne => eqb_ne fun h => hne (by rw [h]), fun he => ⟨i + 1, ⟨hlt, below_succ hi2 he⟩, by dsimp only; omega, ?_⟩⟩, fun hge => eqb_eq (row_eq (by omega) fun j hj => hi2 j (by omega))⟩
  simp only [go_sem]
  rw [wrap_nat (by omega)]
theorem s70 (a b : List Int) : Sp Try.prog 70 [.v (kL kI) a, .v (kL kI) b] (.v .bool (eqb a b)) := by
  refine Sp_intro [] trivial (N := 26) (vs := [.t 4 (.v .bool)]) (c := ir70) Try.func70 (by kernel_rfl) rfl ?_
  unfold ir70
  simp only [go_sem]
  intro h1 h2
  refine ⟨fun h3 => eqb_ne fun h => h3 (by rw [h]), fun h3 _ => ?_⟩
  refine LP_intro (X := ⟨Try.prog, 26, []⟩) trivial [0, 1, 4, 12, 13] [] (fun i : Nat => ⟨[(0, .v (kL kI) a), (1, .v (kL kI) b), (4, .v .bool false), (12, .v kI (a.length : Int)), (13, .v kI (i : Int))], []⟩) (fun i => i ≤ a.length ∧ ∀ j : Nat, j < i → gt a (j : Int) kI.z = gt b (j : Int) kI.z) (fun i => a.length - i) ⟨0, ⟨Nat.zero_le _, fun j hj => absurd hj (Nat.not_lt_zero j)⟩, ?_⟩ (fun i hi => ?_)
  · simp only [go_sem]; rfl
  obtain ⟨hi1, hi2⟩ := hi
  simp only [go_sem]
  refine ⟨fun hlt => ⟨hlt, by omega, fun hne => eqb_ne fun h => hne (by rw [h]), fun he => ⟨i + 1, ⟨hlt, below_succ hi2 he⟩, by dsimp only; omega, ?_⟩⟩, fun hge => eqb_eq (row_eq (by omega) fun j hj => hi2 j (by omega))⟩
  simp only [go_sem]
  rw [wrap_nat (by omega)]
theorem s20 (a b : Key) : Sp Try.prog 20 [.v (kR 14) a, .v (kR 14) b] (.v .bool (eqb a b)) := by
  refine Sp_intro [] trivial (N := 38) (vs := [.t 4 (.v .bool)]) (c := ir20) Try.func20 (by kernel_rfl) rfl ?_
  unfold ir20
  simp only [go_sem]
  refine ⟨fun ht h1 h2 => ⟨fun h => eqb_ne fun e => h (by rw [e]), fun hl => ?_⟩, fun h => eqb_ne fun e => h (by rw [e])⟩
  refine LP_intro (X := ⟨Try.prog, 38, []⟩) trivial [2, 3, 4, 5] [[2], [3]] (fun i : Nat => ⟨[(2, .pt [2] 0), (3, .pt [3] 0), (4, .v .bool false), (5, .v kI (i : Int))], [([2], .box [.v kI a.tag, .v (kL kI) a.rows]), ([3], .box [.v kI b.tag, .v (kL kI) b.rows])]⟩) (fun i => i ≤ b.rows.length ∧ ∀ j : Nat, j < i → gt a.rows (j : Int) kI.z = gt b.rows (j : Int) kI.z) (fun i => a.rows.length - i) ⟨0, ⟨Nat.zero_le _, fun j hj => absurd hj (Nat.not_lt_zero j)⟩, ?_⟩ (fun i hi => ?_)
  · simp only [go_sem]; rfl
  obtain ⟨hi1, hi2⟩ := hi
  simp only [go_sem]
  intro _
  refine ⟨fun hlt => ⟨by omega, by omega, fun hne => eqb_ne fun h => hne (by rw [h]), fun he => ⟨i + 1, ⟨by omega, below_succ hi2 he⟩, by dsimp only; omega, ?_⟩⟩, fun hge => eqb_eq ?_⟩
  · simp only [go_sem]
    rw [wrap_nat (by omega)]
  · have := row_eq (by omega) fun j hj => hi2 j (by omega)
    cases a; cases b; simp_all
theorem s22 (a b : Key) : Sp Try.prog 22 [.v (kR 14) a, .v (kR 14) b] (.v .bool (eqb a b)) := by
  refine Sp_intro [(70, c70)] ⟨con2_ok s70, trivial⟩ (N := 17) (vs := [.t 4 (.v .bool)]) (c := ir22) Try.func22 (by kernel_rfl) rfl ?_
  unfold ir22 c70
  simp only [go_sem]
  cases a; cases b; simp only [eqb, Key.mk.injEq]
  exact ⟨fun h => by simp [h], fun h => by simp [h]⟩
theorem s23 (a b : Key) : Sp Try.prog 23 [.v (kR 14) a, .v (kR 14) b] (.v .bool (eqb a b)) := by
  refine Sp_intro [(71, c71)] ⟨con2_ok s71, trivial⟩ (N := 16) (vs := [.t 4 (.v .bool)]) (c := ir23) Try.func23 (by kernel_rfl) rfl ?_
  unfold ir23 c71
  simp only [go_sem, eqb_true, eqb_false]
  cases a; cases b; simp only [eqb, Key.mk.injEq]
  refine ⟨fun h => by simp [h], fun h => ⟨fun h' => by simp [h'], fun h' => by simp [h, h']⟩⟩
theorem s69 (a : List Int) (hl : decide (a.length ≤ 1048576) = true) : Sp Try.prog 69 [.v (kL kI) a] (.v (kL kI) a) := by
  refine Sp_intro [] trivial (N := 22) (vs := [.t 2 (.v (kL kI))]) (c := ir69) Try.func69 (by kernel_rfl) rfl ?_
  unfold ir69
  simp only [decide_eq_true_eq] at hl
  simp only [go_sem]
  intro _
  refine ⟨by omega, ?_⟩
  refine LP_intro (X := ⟨Try.prog, 22, []⟩) trivial [0, 2, 3, 4] [[7]] (fun i : Nat => ⟨[(0, .v (kL kI) a), (2, .nl kI), (3, .sl [7]), (4, .v kI (i : Int))], [([7], .row true false kI (cpy a i kI.z))]⟩) (fun i => i ≤ a.length) (fun i => a.length - i) ⟨0, Nat.zero_le _, ?_⟩ (fun i hi => ?_)
  · simp only [go_sem, ← cpy_zero]; rfl
  simp only [go_sem, cpy_len]
  intro _
  refine ⟨fun hlt => ⟨hlt, hlt, hlt, ⟨i + 1, hlt, by dsimp only; omega, ?_⟩⟩, fun hge => cpy_all a _ hge⟩
  simp only [go_sem]
  rw [wrap_nat (by omega), cpy_set a _ _ hlt]
theorem s21 (a : Key) (hl : decide (a.rows.length ≤ 1048576) = true) : Sp Try.prog 21 [.v (kR 14) a] (.v (kR 14) a) := by
  refine Sp_intro [(69, c69)] ⟨con1p_ok s69, trivial⟩ (N := 12) (vs := [.c 2 (.v (kR 14))]) (c := ir21) Try.func21 (by kernel_rfl) rfl ?_
  unfold ir21 c69
  simp only [go_sem] at hl ⊢
  exact hl
theorem s68 (a : List Int) (n : Int) (hn : (decide (0 ≤ n) && decide (n ≤ 1048576)) = true) : Sp Try.prog 68 [.v (kL kI) a, .v kI n] (.v kI (sz1 a.length n)) := by
  refine Sp_intro [] trivial (N := 12) (vs := [.t 4 (.v kI)]) (c := ir68) Try.func68 (by kernel_rfl) rfl ?_
  unfold ir68
  simp only [go_sem] at hn ⊢
  intro h
  rw [wrap_id (by omega) (by omega), sz1]
  exact ⟨fun h => by rw [if_pos h], fun h => by rw [if_neg (by omega)]⟩
theorem s19 (a : Key) (n : Int) (hn : (decide (0 ≤ n) && decide (n ≤ 1048576)) = true) : Sp Try.prog 19 [.v (kR 14) a, .v kI n] (.v kI (sz1 a.rows.length n)) := by
  refine Sp_intro [(68, c68)] ⟨con2p_ok s68, trivial⟩ (N := 12) (vs := [.t 4 (.v kI)]) (c := ir19) Try.func19 (by kernel_rfl) rfl ?_
  unfold ir19 c68
  simp only [go_sem] at hn ⊢
  refine ⟨hn, ?_⟩
  unfold sz1
  split
  · simp
  · intro h; omega
theorem s4 (a b : Key) : Sp Try.prog 4 [.v (kR 14) a, .v (kR 14) b] (.v .bool true) := by
  refine Sp_intro [(19, c19), (20, c20), (21, c21), (22, c22), (23, c23)] ⟨con2p_ok s19, con2_ok s20, con1p_ok s21, con2_ok s22, con2_ok s23, trivial⟩ (N := 45) (vs := [.t 4 (.v .bool)]) (c := ir4) Try.func4 (by kernel_rfl) rfl ?_
  unfold ir4 c19 c20 c21 c22 c23
  simp only [go_sem, eqb_self]
  intro h
  obtain ⟨h1, h2⟩ := sz1_nn h
  rw [h2] at h ⊢
  refine ⟨by omega, fun h3 => ?_⟩
  obtain ⟨h4, h5⟩ := sz1_nn h3
  omega
#print axioms s4
end Go.Q
