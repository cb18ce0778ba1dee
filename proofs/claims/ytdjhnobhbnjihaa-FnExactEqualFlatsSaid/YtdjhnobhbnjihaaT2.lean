/- How the program and the reference compare values. -/
import Derived.Test.YtdjhnobhbnjihaaT1
import Derived.Test.YtdjhnobhbnjihaaProg
import Derived.KernelRfl
set_option linter.unusedVariables false
set_option linter.unusedSimpArgs false
namespace Go.Q
open Go.Proofs
set_option linter.unusedSimpArgs false
set_option linter.unusedVariables false
def ir127 : C := .sq (.rg [.bx 2 (.t 0) (kR 1), .bx 3 (.t 1) (kR 1), .mv 4 (.i 0)]) (.sq (.dr [] [.fa 7 (.t 2) 1 0 0, .ld 8 (.t 7) kI, .fa 9 (.t 3) 1 0 0, .ld 10 (.t 9) kI, .cv (some 11) 154 [((.t 8), .v kI), ((.t 10), .v kI)], .fa 12 (.t 2) 1 1 1, .ld 13 (.t 12) kI, .fa 14 (.t 3) 1 1 1, .ld 15 (.t 14) kI, .cv (some 16) 154 [((.t 13), .v kI), ((.t 15), .v kI)], .fa 17 (.t 2) 1 3 3, .ld 18 (.t 17) (kL (kR 1)), .ln 19 false (.t 18), .fa 20 (.t 3) 1 3 3, .ld 21 (.t 20) (kL (kR 1)), .ln 22 false (.t 21), .cv (some 23) 154 [((.t 19), .v kI), ((.t 22), .v kI)], .fa 24 (.t 2) 1 2 2, .ld 25 (.t 24) (kL kS), .fa 26 (.t 3) 1 2 2, .ld 27 (.t 26) (kL kS)] [.cv (some 28) 155 [((.t 25), .v (kL kS)), ((.t 27), .v (kL kS))], .bs 29 true kI [(.t 11), (.t 16), (.t 23), (.t 28)], .cv (some 30) 153 [((.t 29), .v (kL kI))], .mv 5 (.t 30)]) (.sq (.sq (.rg [.mv 6 (.i 0)]) (.bk 0 (.lp (.sq (.sq (.rg [.mv 31 (.t 5), .bi 32 .eql (.t 31) (.i 0), .mv 33 (.t 32), .g 33 true (.mv 34 (.t 6)), .g 33 true (.fa 35 (.t 2) 1 3 3), .g 33 true (.ld 36 (.t 35) (kL (kR 1))), .g 33 true (.ln 37 false (.t 36)), .g 33 true (.bi 38 .lss (.t 34) (.t 37)), .pk 39 (.t 33) (.t 38) (.b false)]) (.cd (.t 39) (.skip) (.ex 0))) (.sq (.bk 1 (.dr [] [.fa 42 (.t 2) 1 3 3, .ld 43 (.t 42) (kL (kR 1)), .mv 44 (.t 6), .ia 45 (.t 43) (.t 44) (kR 1), .ld 46 (.t 45) (kR 1), .fa 47 (.t 3) 1 3 3, .ld 48 (.t 47) (kL (kR 1)), .mv 49 (.t 6), .ia 50 (.t 48) (.t 49) (kR 1), .ld 51 (.t 50) (kR 1)] [.cv (some 52) 127 [((.t 46), .v (kR 1)), ((.t 51), .v (kR 1))], .mv 5 (.t 52)])) (.rg [.mv 40 (.t 6), .bi 41 .add (.t 40) (.i 1), .mv 6 (.t 41)])))))) (.sq (.rg [.mv 53 (.t 5), .mv 4 (.t 53)]) (.rt))))
def ir93 : C := .sq (.rg [.mv 2 (.i 0)]) (.sq (.sq (.rg [.mv 3 (.t 0)]) (.cd (.t 3) (.sq (.rg [.mv 2 (.i 1)]) (.rt)) (.skip))) (.sq (.rg [.mv 2 (.i 0)]) (.rt)))
def ir150 : C := .sq (.rg [.mv 4 (.i 0)]) (.sq (.rg [.mv 5 (.t 0), .mv 6 (.t 1), .bi 7 .gtr (.t 5) (.t 6), .cv (some 8) 93 [((.t 7), .v .bool)], .mv 9 (.t 0), .mv 10 (.t 1), .bi 11 .lss (.t 9) (.t 10), .cv (some 12) 93 [((.t 11), .v .bool)], .bi 13 .sub (.t 8) (.t 12), .mv 4 (.t 13)]) (.rt))
def ir151 : C := .sq (.rg [.mv 4 (.i 0)]) (.sq (.sq (.rg [.mv 5 (.i 0)]) (.bk 0 (.lp (.sq (.sq (.rg [.mv 6 (.t 5), .mv 7 (.t 0), .ln 8 false (.t 7), .bi 9 .lss (.t 6) (.t 8), .mv 10 (.t 9), .g 10 true (.mv 11 (.t 5)), .g 10 true (.mv 12 (.t 1)), .g 10 true (.ln 13 false (.t 12)), .g 10 true (.bi 14 .lss (.t 11) (.t 13)), .pk 15 (.t 10) (.t 14) (.b false)]) (.cd (.t 15) (.skip) (.ex 0))) (.sq (.bk 1 (.sq (.dr [] [.mv 18 (.t 0), .mv 19 (.t 5), .ia 20 (.t 18) (.t 19) kS, .ld 21 (.t 20) kS, .mv 22 (.t 1), .mv 23 (.t 5), .ia 24 (.t 22) (.t 23) kS, .ld 25 (.t 24) kS] [.bi 26 .neq (.t 21) (.t 25)]) (.cd (.t 26) (.sq (.dr [] [.mv 27 (.t 0), .mv 28 (.t 5), .ia 29 (.t 27) (.t 28) kS, .ld 30 (.t 29) kS, .mv 31 (.t 1), .mv 32 (.t 5), .ia 33 (.t 31) (.t 32) kS, .ld 34 (.t 33) kS, .bi 35 .gtr (.t 30) (.t 34), .cv (some 36) 93 [((.t 35), .v .bool)], .mv 37 (.t 0), .mv 38 (.t 5), .ia 39 (.t 37) (.t 38) kS, .ld 40 (.t 39) kS, .mv 41 (.t 1), .mv 42 (.t 5), .ia 43 (.t 41) (.t 42) kS, .ld 44 (.t 43) kS, .bi 45 .lss (.t 40) (.t 44)] [.cv (some 46) 93 [((.t 45), .v .bool)], .bi 47 .sub (.t 36) (.t 46), .mv 4 (.t 47)]) (.rt)) (.skip)))) (.rg [.mv 16 (.t 5), .bi 17 .add (.t 16) (.i 1), .mv 5 (.t 17)])))))) (.sq (.rg [.mv 48 (.t 0), .ln 49 false (.t 48), .mv 50 (.t 1), .ln 51 false (.t 50), .cv (some 52) 150 [((.t 49), .v kI), ((.t 51), .v kI)], .mv 4 (.t 52)]) (.rt)))
def ir125 : C := .sq (.rg [.bx 2 (.t 0) (kR 1), .bx 3 (.t 1) (kR 1), .mv 4 (.i 0)]) (.sq (.sq (.rg [.fa 7 (.t 2) 1 0 0, .ld 8 (.t 7) kI, .fa 9 (.t 3) 1 0 0, .ld 10 (.t 9) kI, .bi 11 .neq (.t 8) (.t 10)]) (.cd (.t 11) (.sq (.rg [.fa 12 (.t 2) 1 0 0, .ld 13 (.t 12) kI, .fa 14 (.t 3) 1 0 0, .ld 15 (.t 14) kI, .cv (some 16) 150 [((.t 13), .v kI), ((.t 15), .v kI)], .mv 4 (.t 16)]) (.rt)) (.skip))) (.sq (.sq (.rg [.fa 17 (.t 2) 1 1 1, .ld 18 (.t 17) kI, .fa 19 (.t 3) 1 1 1, .ld 20 (.t 19) kI, .bi 21 .neq (.t 18) (.t 20)]) (.cd (.t 21) (.sq (.rg [.fa 22 (.t 2) 1 1 1, .ld 23 (.t 22) kI, .fa 24 (.t 3) 1 1 1, .ld 25 (.t 24) kI, .cv (some 26) 150 [((.t 23), .v kI), ((.t 25), .v kI)], .mv 4 (.t 26)]) (.rt)) (.skip))) (.sq (.sq (.rg [.fa 27 (.t 2) 1 3 3, .ld 28 (.t 27) (kL (kR 1)), .ln 29 false (.t 28), .fa 30 (.t 3) 1 3 3, .ld 31 (.t 30) (kL (kR 1)), .ln 32 false (.t 31), .bi 33 .neq (.t 29) (.t 32)]) (.cd (.t 33) (.sq (.rg [.fa 34 (.t 2) 1 3 3, .ld 35 (.t 34) (kL (kR 1)), .ln 36 false (.t 35), .fa 37 (.t 3) 1 3 3, .ld 38 (.t 37) (kL (kR 1)), .ln 39 false (.t 38), .cv (some 40) 150 [((.t 36), .v kI), ((.t 39), .v kI)], .mv 4 (.t 40)]) (.rt)) (.skip))) (.sq (.rg [.fa 41 (.t 2) 1 2 2, .ld 42 (.t 41) (kL kS), .fa 43 (.t 3) 1 2 2, .ld 44 (.t 43) (kL kS), .cv (some 45) 151 [((.t 42), .v (kL kS)), ((.t 44), .v (kL kS))], .mv 5 (.t 45)]) (.sq (.sq (.rg [.mv 6 (.i 0)]) (.bk 0 (.lp (.sq (.sq (.rg [.mv 46 (.t 6), .fa 47 (.t 2) 1 3 3, .ld 48 (.t 47) (kL (kR 1)), .ln 49 false (.t 48), .bi 50 .lss (.t 46) (.t 49), .mv 51 (.t 50), .g 51 true (.mv 52 (.t 5)), .g 51 true (.bi 53 .eql (.t 52) (.i 0)), .pk 54 (.t 51) (.t 53) (.b false)]) (.cd (.t 54) (.skip) (.ex 0))) (.sq (.bk 1 (.dr [] [.fa 57 (.t 2) 1 3 3, .ld 58 (.t 57) (kL (kR 1)), .mv 59 (.t 6), .ia 60 (.t 58) (.t 59) (kR 1), .ld 61 (.t 60) (kR 1), .fa 62 (.t 3) 1 3 3, .ld 63 (.t 62) (kL (kR 1)), .mv 64 (.t 6), .ia 65 (.t 63) (.t 64) (kR 1), .ld 66 (.t 65) (kR 1)] [.cv (some 67) 125 [((.t 61), .v (kR 1)), ((.t 66), .v (kR 1))], .mv 5 (.t 67)])) (.rg [.mv 55 (.t 6), .bi 56 .add (.t 55) (.i 1), .mv 6 (.t 56)])))))) (.sq (.rg [.mv 68 (.t 5), .mv 4 (.t 68)]) (.rt)))))))
def ir80 : C := .sq (.rg [.bx 2 (.t 0) (kR 1), .bx 3 (.t 1) (kR 1), .mv 4 (.b false)]) (.sq (.rg [.ld 5 (.t 2) (kR 1), .ld 6 (.t 3) (kR 1), .cv (some 7) 127 [((.t 5), .v (kR 1)), ((.t 6), .v (kR 1))], .bi 8 .eql (.t 7) (.i 0), .mv 4 (.t 8)]) (.rt))
theorem or0_eq {a b : Int} (h : a = 0) : or0 a b = b := if_pos h
theorem cmpH_fold (a b : Val) : List.foldr or0 0 [cmpI a.kind b.kind, cmpI a.n b.n, cmpI ↑a.args.length ↑b.args.length, cmpL a.labels b.labels] = cmpH a b := by
  simp only [List.foldr, or0_n, cmpH]
noncomputable def d127 (m : Nat) : List SA → Option RA := con2p (kR 1) (kR 1) (fun (a b : Val) => decide (zVal a < m)) fun (a b : Val) => .v kI (cmpV a b)
theorem s127m : ∀ (m : Nat) (a b : Val), decide (zVal a < m) = true → Sp Try.prog 127 [.v (kR 1) a, .v (kR 1) b] (.v kI (cmpV a b))
  | 0, a, b, h => by simp at h
  | m + 1, a, b, hn => by
    have ih := s127m m
    simp only [decide_eq_true_eq] at hn
    refine Sp_intro [(127, d127 m), (154, c154), (155, c155), (153, c153)] ⟨con2p_ok ih, con2_ok s154, con2_ok s155, con1_ok s153, trivial⟩ (N := 54) (vs := [.t 4 (.v kI)]) (c := ir127) Try.func127 (by kernel_rfl) rfl ?_
    unfold ir127
    simp only [go_sem, d127, c154, c155, c153]
    intro hla hlb
    rw [cmpH_fold]
    have hz := zVal_f a
    refine LP_intro (X := ⟨Try.prog, 54, [(127, d127 m), (154, c154), (155, c155), (153, c153)]⟩) ⟨con2p_ok ih, con2_ok s154, con2_ok s155, con1_ok s153, trivial⟩ [2, 3, 4, 5, 6] [[2], [3]] (fun t : Nat × Int => ⟨[(2, .pt [2] 0), (3, .pt [3] 0), (4, .v kI 0), (5, .v kI t.2), (6, .v kI (t.1 : Int))], [([2], .box (lvs 1 a)), ([3], .box (lvs 1 b))]⟩) (fun t => t.1 ≤ a.args.length ∧ (t.2 = 0 → a.args.length = b.args.length) ∧ or0 t.2 (cmpVs (a.args.drop t.1) (b.args.drop t.1)) = cmpV a b) (fun t => a.args.length - t.1) ⟨(0, cmpH a b), ⟨Nat.zero_le _, fun h => (cmpH_zero.1 h).2.2.1, (cmpV_f a b).symm⟩, ?_⟩ (fun t ht => ?_)
    · simp only [go_sem, d127, c154, c155, c153]
      rfl
    obtain ⟨i, c⟩ := t
    obtain ⟨h1, h2, h3⟩ := ht
    simp only at h1 h2 h3
    simp only [go_sem, d127, c154, c155, c153]
    refine ⟨fun hc _ => ⟨fun hlt => ?_, fun hge => ?_⟩, fun hc => ?_⟩
    · have hlen := h2 hc
      have h4 := szL_at zVal a.args hlt (Ki.z (kR 1))
      refine ⟨hlt, by omega, by omega, (i + 1, cmpV (gt a.args (i : Int) (Ki.z (kR 1))) (gt b.args (i : Int) (Ki.z (kR 1)))), ⟨hlt, fun _ => hlen, ?_⟩, by dsimp only; omega, ?_⟩
      · rw [← h3, or0_eq hc, cmpVs_drop a.args b.args hlt (by omega) (Ki.z (kR 1))]
      · simp only [go_sem, d127, c154, c155, c153]
        rw [wrap_nat (by omega)]
    · rw [← h3, cmpVs_end _ _ (by omega), or0_n]
    · rw [← h3, or0_of hc]
noncomputable def c127 : List SA → Option RA := con2 (kR 1) (kR 1) fun (a b : Val) => .v kI (cmpV a b)
theorem s127 (a b : Val) : Sp Try.prog 127 [.v (kR 1) a, .v (kR 1) b] (.v kI (cmpV a b)) := s127m (zVal a + 1) a b (by simp)
def c93 : List SA → Option RA := con1 .bool fun (b : Bool) => .v kI (if b then 1 else 0)
theorem s93 (b : Bool) : Sp Try.prog 93 [.v .bool b] (.v kI (if b then 1 else 0)) := by
  refine Sp_intro [] trivial (N := 4) (vs := [.t 2 (.v kI)]) (c := ir93) Try.func93 (by kernel_rfl) rfl ?_
  unfold ir93
  cases b <;> simp only [go_sem]
def c150 : List SA → Option RA := con2 kI kI fun (a b : Int) => .v kI (cmpI a b)
theorem s150 (a b : Int) : Sp Try.prog 150 [.v kI a, .v kI b] (.v kI (cmpI a b)) := by
  refine Sp_intro [(93, c93)] ⟨con1_ok s93, trivial⟩ (N := 14) (vs := [.t 4 (.v kI)]) (c := ir150) Try.func150 (by kernel_rfl) rfl ?_
  unfold ir150
  simp only [go_sem, c93]
  unfold cmpI
  rw [wrap_id (by split <;> split <;> omega) (by split <;> split <;> omega)]
  show @Eq Int _ _
  split <;> split <;> (try split) <;> omega
def c151 : List SA → Option RA := con2 (kL kS) (kL kS) fun (a b : List Str) => .v kI (cmpL a b)
theorem s151 (a b : List Str) : Sp Try.prog 151 [.v (kL kS) a, .v (kL kS) b] (.v kI (cmpL a b)) := by
  refine Sp_intro [(93, c93), (150, c150)] ⟨con1_ok s93, con2_ok s150, trivial⟩ (N := 53) (vs := [.t 4 (.v kI)]) (c := ir151) Try.func151 (by kernel_rfl) rfl ?_
  unfold ir151
  simp only [go_sem, c93, c150]
  refine LP_intro (X := ⟨Try.prog, 53, [(93, c93), (150, c150)]⟩) ⟨con1_ok s93, con2_ok s150, trivial⟩ [0, 1, 4, 5] [] (fun i : Nat => ⟨[(0, .v (kL kS) a), (1, .v (kL kS) b), (4, .v kI 0), (5, .v kI (i : Int))], []⟩) (fun i => i ≤ a.length ∧ i ≤ b.length ∧ cmpL (a.drop i) (b.drop i) = cmpL a b) (fun i => a.length - i) ⟨0, ⟨Nat.zero_le _, Nat.zero_le _, rfl⟩, ?_⟩ (fun i hi => ?_)
  · simp only [go_sem]; rfl
  obtain ⟨hi1, hi2, hi3⟩ := hi
  simp only [go_sem, c93, c150]
  have hend : a.length ≤ i ∨ b.length ≤ i → cmpI (a.length : Int) (b.length : Int) = cmpL a b := by
    intro h
    by_cases ha : a.length ≤ i
    · rw [← hi3, cmpL_end a b ha hi1, cmpI]
      split
      · rfl
      · rw [if_neg (by omega)]
    · rw [← hi3, cmpL_over a b (by omega) (by omega), cmpI, if_neg (by omega), if_pos (by omega)]
  refine fun hl => ⟨fun hlt hb => ⟨fun hlt2 => ⟨hlt, hlt2, fun hne => ⟨hlt, hlt2, hlt, hlt2, ?_⟩, fun he => ⟨i + 1, ⟨hlt, hlt2, ?_⟩, by dsimp only; omega, ?_⟩⟩, fun hge _ _ => hend (.inr hge)⟩, fun hge _ _ => hend (.inl hge)⟩
  · have h0 : ¬ cmpS (gt a (i : Int) (Ki.z kS)) (gt b (i : Int) (Ki.z kS)) = 0 := fun h => hne (cmpS_zero.1 h)
    rw [← hi3, cmpL_drop a b hlt hlt2 (Ki.z kS), or0_of h0]
    unfold cmpS
    cases hbl : Op.bytesLess (gt a (i : Int) (Ki.z kS)) (gt b (i : Int) (Ki.z kS)) with
    | true => simp; rfl
    | false => simp [hne]; rfl
  · rw [← hi3, cmpL_drop a b hlt hlt2 (Ki.z kS), or0_eq (cmpS_zero.2 he)]
  · simp only [go_sem]
    rw [wrap_nat (by omega)]
noncomputable def d125 (m : Nat) : List SA → Option RA := con2p (kR 1) (kR 1) (fun (a b : Val) => decide (zVal a < m)) fun (a b : Val) => .v kI (cmpV a b)
theorem s125m : ∀ (m : Nat) (a b : Val), decide (zVal a < m) = true → Sp Try.prog 125 [.v (kR 1) a, .v (kR 1) b] (.v kI (cmpV a b))
  | 0, a, b, h => by simp at h
  | m + 1, a, b, hn => by
    have ih := s125m m
    simp only [decide_eq_true_eq] at hn
    refine Sp_intro [(125, d125 m), (150, c150), (151, c151)] ⟨con2p_ok ih, con2_ok s150, con2_ok s151, trivial⟩ (N := 69) (vs := [.t 4 (.v kI)]) (c := ir125) Try.func125 (by kernel_rfl) rfl ?_
    unfold ir125
    simp only [go_sem, d125, c150, c151]
    have hz := zVal_f a
    have hne : ¬ cmpH a b = 0 → cmpV a b = cmpH a b := fun h => by rw [cmpV_f, or0_of h]
    refine ⟨fun h => ?_, fun e1 => ⟨fun h => ?_, fun e2 hla hlb => ⟨fun h => ?_, fun e3 => ?_⟩⟩⟩
    · have h0 : ¬ cmpI a.kind b.kind = 0 := fun e => h (cmpI_zero.1 e)
      have : cmpH a b = cmpI a.kind b.kind := by rw [cmpH, or0_of h0]
      rw [hne (by rw [this]; exact h0), this]
    · have h0 : ¬ cmpI a.n b.n = 0 := fun e => h (cmpI_zero.1 e)
      have : cmpH a b = cmpI a.n b.n := by rw [cmpH, or0_eq (cmpI_zero.2 e1), or0_of h0]
      rw [hne (by rw [this]; exact h0), this]
    · have h0 : ¬ cmpI (a.args.length : Int) b.args.length = 0 := fun e => h (Int.natCast_inj.1 (cmpI_zero.1 e))
      intro _ _
      have : cmpH a b = cmpI (a.args.length : Int) b.args.length := by rw [cmpH, or0_eq (cmpI_zero.2 e1), or0_eq (cmpI_zero.2 e2), or0_of h0]
      rw [hne (by rw [this]; exact h0), this]
    have hH : cmpL a.labels b.labels = cmpH a b := by
      rw [cmpH, or0_eq (cmpI_zero.2 e1), or0_eq (cmpI_zero.2 e2), or0_eq (cmpI_zero.2 (by rw [e3]))]
    rw [hH]
    refine LP_intro (X := ⟨Try.prog, 69, [(125, d125 m), (150, c150), (151, c151)]⟩) ⟨con2p_ok ih, con2_ok s150, con2_ok s151, trivial⟩ [2, 3, 4, 5, 6] [[2], [3]] (fun t : Nat × Int => ⟨[(2, .pt [2] 0), (3, .pt [3] 0), (4, .v kI 0), (5, .v kI t.2), (6, .v kI (t.1 : Int))], [([2], .box (lvs 1 a)), ([3], .box (lvs 1 b))]⟩) (fun t => t.1 ≤ a.args.length ∧ or0 t.2 (cmpVs (a.args.drop t.1) (b.args.drop t.1)) = cmpV a b) (fun t => a.args.length - t.1) ⟨(0, cmpH a b), ⟨Nat.zero_le _, (cmpV_f a b).symm⟩, ?_⟩ (fun t ht => ?_)
    · simp only [go_sem, d125, c150, c151]
      rfl
    obtain ⟨i, c⟩ := t
    obtain ⟨h1, h3⟩ := ht
    simp only at h1 h3
    simp only [go_sem, d125, c150, c151]
    intro _
    refine ⟨fun hlt => ⟨fun hc => ?_, fun hc => ?_⟩, fun hge => ?_⟩
    · have h4 := szL_at zVal a.args hlt (Ki.z (kR 1))
      refine ⟨hlt, by omega, by omega, (i + 1, cmpV (gt a.args (i : Int) (Ki.z (kR 1))) (gt b.args (i : Int) (Ki.z (kR 1)))), ⟨hlt, ?_⟩, by dsimp only; omega, ?_⟩
      · rw [← h3, or0_eq hc, cmpVs_drop a.args b.args hlt (by omega) (Ki.z (kR 1))]
      · simp only [go_sem, d125, c150, c151]
        rw [wrap_nat (by omega)]
    · rw [← h3, or0_of hc]
    · rw [← h3, cmpVs_end _ _ hge, or0_n]
noncomputable def c125 : List SA → Option RA := con2 (kR 1) (kR 1) fun (a b : Val) => .v kI (cmpV a b)
theorem s125 (a b : Val) : Sp Try.prog 125 [.v (kR 1) a, .v (kR 1) b] (.v kI (cmpV a b)) := s125m (zVal a + 1) a b (by simp)
noncomputable def c80 : List SA → Option RA := con2 (kR 1) (kR 1) fun (a b : Val) => .v .bool (eqb a b)
theorem s80 (a b : Val) : Sp Try.prog 80 [.v (kR 1) a, .v (kR 1) b] (.v .bool (eqb a b)) := by
  refine Sp_intro [(127, c127)] ⟨con2_ok s127, trivial⟩ (N := 9) (vs := [.t 4 (.v .bool)]) (c := ir80) Try.func80 (by kernel_rfl) rfl ?_
  unfold ir80
  simp only [go_sem, c127]
  rw [Bool.eq_iff_iff, beq_iff_eq, eqb_true]
  exact cmpV_zero
end Go.Q
