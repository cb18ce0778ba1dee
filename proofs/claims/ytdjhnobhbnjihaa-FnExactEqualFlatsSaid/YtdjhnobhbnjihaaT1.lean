/- How the program and the reference compare values: what each function answers. -/
import Derived.Test.YtdjhnobhbnjihaaQd
import Derived.Test.YtdjhnobhbnjihaaProg
import Derived.KernelRfl
set_option linter.unusedVariables false
set_option linter.unusedSimpArgs false
namespace Go.Q
open Go.Proofs
set_option linter.unusedSimpArgs false
set_option linter.unusedVariables false
def ir164 : C := .sq (.rg [.mv 2 (.b false)]) (.sq (.rg [.mv 3 (.t 0), .mv 4 (.t 0), .bi 5 .neq (.t 3) (.t 4), .mv 2 (.t 5)]) (.rt))
def ir166 : C := .sq (.rg [.mv 2 (.b false)]) (.sq (.rg [.mv 3 (.t 0), .mv 4 (.t 0), .bi 5 .neq (.t 3) (.t 4), .mv 2 (.t 5)]) (.rt))
def ir165 : C := .sq (.rg [.mv 4 (.i 0)]) (.sq (.rg [.mv 7 (.t 0), .cv (some 8) 166 [((.t 7), .v kS)], .mv 5 (.t 8)]) (.sq (.rg [.mv 9 (.t 1), .cv (some 10) 166 [((.t 9), .v kS)], .mv 6 (.t 10)]) (.sq (.sq (.rg [.mv 11 (.t 5)]) (.cd (.t 11) (.sq (.sq (.rg [.mv 12 (.t 6)]) (.cd (.t 12) (.sq (.rg [.mv 4 (.i 0)]) (.rt)) (.skip))) (.sq (.rg [.mv 4 (.i (-1))]) (.rt))) (.skip))) (.sq (.sq (.rg [.mv 13 (.t 6)]) (.cd (.t 13) (.sq (.rg [.mv 4 (.i 1)]) (.rt)) (.skip))) (.sq (.sq (.rg [.mv 14 (.t 0), .mv 15 (.t 1), .bi 16 .lss (.t 14) (.t 15)]) (.cd (.t 16) (.sq (.rg [.mv 4 (.i (-1))]) (.rt)) (.skip))) (.sq (.sq (.rg [.mv 17 (.t 0), .mv 18 (.t 1), .bi 19 .gtr (.t 17) (.t 18)]) (.cd (.t 19) (.sq (.rg [.mv 4 (.i 1)]) (.rt)) (.skip))) (.sq (.rg [.mv 4 (.i 0)]) (.rt))))))))
def ir154 : C := .sq (.rg [.mv 4 (.i 0)]) (.sq (.rg [.mv 7 (.t 0), .cv (some 8) 164 [((.t 7), .v kI)], .mv 5 (.t 8)]) (.sq (.rg [.mv 9 (.t 1), .cv (some 10) 164 [((.t 9), .v kI)], .mv 6 (.t 10)]) (.sq (.sq (.rg [.mv 11 (.t 5)]) (.cd (.t 11) (.sq (.sq (.rg [.mv 12 (.t 6)]) (.cd (.t 12) (.sq (.rg [.mv 4 (.i 0)]) (.rt)) (.skip))) (.sq (.rg [.mv 4 (.i (-1))]) (.rt))) (.skip))) (.sq (.sq (.rg [.mv 13 (.t 6)]) (.cd (.t 13) (.sq (.rg [.mv 4 (.i 1)]) (.rt)) (.skip))) (.sq (.sq (.rg [.mv 14 (.t 0), .mv 15 (.t 1), .bi 16 .lss (.t 14) (.t 15)]) (.cd (.t 16) (.sq (.rg [.mv 4 (.i (-1))]) (.rt)) (.skip))) (.sq (.sq (.rg [.mv 17 (.t 0), .mv 18 (.t 1), .bi 19 .gtr (.t 17) (.t 18)]) (.cd (.t 19) (.sq (.rg [.mv 4 (.i 1)]) (.rt)) (.skip))) (.sq (.rg [.mv 4 (.i 0)]) (.rt))))))))
def ir153 : C := .sq (.rg [.mv 2 (.i 0)]) (.sq (.rg [.mv 3 (.i 0)]) (.sq (.sq (.rg [.mv 6 (.t 0), .ln 7 false (.t 6), .mv 8 (.i 0)]) (.bk 0 (.lp (.sq (.rg [.bi 9 .lss (.t 8) (.t 7)]) (.sq (.cd (.t 9) (.skip) (.ex 0)) (.sq (.bk 1 (.sq (.rg [.ia 10 (.t 6) (.t 8) kI, .ld 11 (.t 10) kI, .mv 5 (.t 11)]) (.sq (.rg [.mv 12 (.t 5), .mv 13 (.t 3), .bi 14 .neq (.t 12) (.t 13)]) (.cd (.t 14) (.sq (.rg [.mv 15 (.t 5), .mv 2 (.t 15)]) (.rt)) (.skip))))) (.rg [.bi 16 .add (.t 8) (.i 1), .mv 8 (.t 16)]))))))) (.sq (.rg [.mv 17 (.t 3), .mv 2 (.t 17)]) (.rt))))
def ir155 : C := .sq (.rg [.mv 4 (.i 0)]) (.sq (.sq (.rg [.mv 9 (.t 0), .ln 10 false (.t 9), .mv 11 (.i 0)]) (.bk 0 (.lp (.sq (.rg [.bi 12 .lss (.t 11) (.t 10)]) (.sq (.cd (.t 12) (.skip) (.ex 0)) (.sq (.bk 1 (.sq (.rg [.mv 13 (.t 11), .ia 14 (.t 9) (.t 11) kS, .ld 15 (.t 14) kS, .mv 5 (.t 13), .mv 6 (.t 15)]) (.sq (.sq (.rg [.mv 16 (.t 5), .mv 17 (.t 1), .ln 18 false (.t 17), .bi 19 .geq (.t 16) (.t 18)]) (.cd (.t 19) (.sq (.rg [.mv 4 (.i 1)]) (.rt)) (.skip))) (.sq (.rg [.mv 20 (.t 1), .mv 21 (.t 5), .ia 22 (.t 20) (.t 21) kS, .ld 23 (.t 22) kS, .mv 7 (.t 23)]) (.sq (.rg [.mv 24 (.t 6), .mv 25 (.t 7), .cv (some 26) 165 [((.t 24), .v kS), ((.t 25), .v kS)], .mv 8 (.t 26)]) (.sq (.rg [.mv 27 (.t 8), .bi 28 .neq (.t 27) (.i 0)]) (.cd (.t 28) (.sq (.rg [.mv 29 (.t 8), .mv 4 (.t 29)]) (.rt)) (.skip)))))))) (.rg [.bi 30 .add (.t 11) (.i 1), .mv 11 (.t 30)]))))))) (.sq (.sq (.rg [.mv 31 (.t 0), .ln 32 false (.t 31), .mv 33 (.t 1), .ln 34 false (.t 33), .bi 35 .lss (.t 32) (.t 34)]) (.cd (.t 35) (.sq (.rg [.mv 4 (.i (-1))]) (.rt)) (.skip))) (.sq (.rg [.mv 4 (.i 0)]) (.rt))))
def c164 : List SA → Option RA := con1 kI fun (a : Int) => .v .bool false
theorem s164 (a : Int) : Sp Try.prog 164 [.v kI a] (.v .bool false) := by
  refine Sp_intro [] trivial (N := 6) (vs := [.t 2 (.v .bool)]) (c := ir164) Try.func164 (by kernel_rfl) rfl ?_
  unfold ir164
  simp only [go_sem]
def c166 : List SA → Option RA := con1 kS fun (a : Str) => .v .bool false
theorem s166 (a : Str) : Sp Try.prog 166 [.v kS a] (.v .bool false) := by
  refine Sp_intro [] trivial (N := 6) (vs := [.t 2 (.v .bool)]) (c := ir166) Try.func166 (by kernel_rfl) rfl ?_
  unfold ir166
  simp only [go_sem]
def c165 : List SA → Option RA := con2 kS kS fun (a b : Str) => .v kI (cmpS a b)
theorem s165 (a b : Str) : Sp Try.prog 165 [.v kS a, .v kS b] (.v kI (cmpS a b)) := by
  refine Sp_intro [(166, c166)] ⟨con1_ok s166, trivial⟩ (N := 20) (vs := [.t 4 (.v kI)]) (c := ir165) Try.func165 (by kernel_rfl) rfl ?_
  unfold ir165
  simp only [go_sem, c166]
  refine ⟨fun h => by simp [cmpS, h], fun h => ⟨fun h2 => by simp [cmpS, h, h2.2], fun h2 => ?_⟩⟩
  have : a = b := by simpa [h] using h2
  simp [cmpS, this, less_irrefl]
def c154 : List SA → Option RA := con2 kI kI fun (a b : Int) => .v kI (cmpI a b)
theorem s154 (a b : Int) : Sp Try.prog 154 [.v kI a, .v kI b] (.v kI (cmpI a b)) := by
  refine Sp_intro [(164, c164)] ⟨con1_ok s164, trivial⟩ (N := 20) (vs := [.t 4 (.v kI)]) (c := ir154) Try.func154 (by kernel_rfl) rfl ?_
  unfold ir154
  simp only [go_sem, c164]
  refine ⟨fun h => by simp [cmpI, h], fun h => ⟨fun h2 => ?_, fun h2 => ?_⟩⟩
  · rw [cmpI, if_neg (by omega), if_pos h2]
  · rw [cmpI, if_neg (by omega), if_neg (by omega)]
theorem or0_drop (a : List Int) {i : Nat} (h : i < a.length) : (a.drop i).foldr or0 0 = or0 (gt a (i : Int) (Ki.z kI)) ((a.drop (i + 1)).foldr or0 0) := by
  rw [drop_at a h (Ki.z kI)]; rfl
def c153 : List SA → Option RA := con1 (kL kI) fun (a : List Int) => .v kI (a.foldr or0 0)
theorem s153 (a : List Int) : Sp Try.prog 153 [.v (kL kI) a] (.v kI (a.foldr or0 0)) := by
  refine Sp_intro [] trivial (N := 18) (vs := [.t 2 (.v kI)]) (c := ir153) Try.func153 (by kernel_rfl) rfl ?_
  unfold ir153
  simp only [go_sem]
  intro hl
  refine LP_intro (X := ⟨Try.prog, 18, []⟩) trivial [2, 3, 6, 7, 8] [] (fun i : Nat => ⟨[(2, .v kI 0), (3, .v kI 0), (6, .v (kL kI) a), (7, .v kI (a.length : Int)), (8, .v kI (i : Int))], []⟩) (fun i => i ≤ a.length ∧ (a.drop i).foldr or0 0 = a.foldr or0 0) (fun i => a.length - i) ⟨0, ⟨Nat.zero_le _, rfl⟩, ?_⟩ (fun i hi => ?_)
  · simp only [go_sem]; rfl
  obtain ⟨hi1, hi2⟩ := hi
  simp only [go_sem]
  refine ⟨fun hlt => ⟨hlt, fun hne => ?_, fun he => ⟨i + 1, ⟨hlt, ?_⟩, by dsimp only; omega, ?_⟩⟩, fun hge => ?_⟩
  · rw [← hi2, or0_drop a hlt, or0_of hne]
  · rw [← hi2, or0_drop a hlt, he, or0_z]
  · simp only [go_sem]
    rw [wrap_nat (by omega)]
  · rw [← hi2, List.drop_eq_nil_of_le (by omega)]; rfl
def c155 : List SA → Option RA := con2 (kL kS) (kL kS) fun (a b : List Str) => .v kI (cmpL a b)
theorem s155 (a b : List Str) : Sp Try.prog 155 [.v (kL kS) a, .v (kL kS) b] (.v kI (cmpL a b)) := by
  refine Sp_intro [(165, c165)] ⟨con2_ok s165, trivial⟩ (N := 36) (vs := [.t 4 (.v kI)]) (c := ir155) Try.func155 (by kernel_rfl) rfl ?_
  unfold ir155
  simp only [go_sem, c165]
  intro hl
  refine LP_intro (X := ⟨Try.prog, 36, [(165, c165)]⟩) ⟨con2_ok s165, trivial⟩ [0, 1, 4, 9, 10, 11] [] (fun i : Nat => ⟨[(0, .v (kL kS) a), (1, .v (kL kS) b), (4, .v kI 0), (9, .v (kL kS) a), (10, .v kI (a.length : Int)), (11, .v kI (i : Int))], []⟩) (fun i => i ≤ a.length ∧ cmpL (a.drop i) (b.drop i) = cmpL a b) (fun i => a.length - i) ⟨0, ⟨Nat.zero_le _, rfl⟩, ?_⟩ (fun i hi => ?_)
  · simp only [go_sem]; rfl
  obtain ⟨hi1, hi2⟩ := hi
  simp only [go_sem, c165]
  refine ⟨fun hlt => ⟨hlt, fun hb => ⟨fun hge => ?_, fun hlt2 => ⟨hlt2, fun hne => ?_, fun he => ⟨i + 1, ⟨hlt, ?_⟩, by dsimp only; omega, ?_⟩⟩⟩⟩, fun hge _ hb => ⟨fun h => ?_, fun h => ?_⟩⟩
  · rw [← hi2, cmpL_over a b hlt (by omega)]
  · rw [← hi2, cmpL_drop a b hlt (by omega) (Ki.z kS), or0_of hne]
  · rw [← hi2, cmpL_drop a b hlt (by omega) (Ki.z kS), he, or0_z]
  · simp only [go_sem]
    rw [wrap_nat (by omega)]
  · rw [← hi2, cmpL_end a b (by omega) hi1, if_pos (by omega)]
  · rw [← hi2, cmpL_end a b (by omega) hi1, if_neg (by omega)]
end Go.Q
