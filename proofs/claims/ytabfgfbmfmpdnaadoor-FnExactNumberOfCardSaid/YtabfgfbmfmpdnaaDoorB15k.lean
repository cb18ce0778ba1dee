/- Texts of keys. -/
import Derived.Test.YtabfgfbmfmpdnaaDoorQe
import Derived.Test.YtabfgfbmfmpdnaaDoorB15
import Derived.Test.YtabfgfbmfmpdnaaDoorA5p
set_option linter.unusedVariables false
set_option linter.unusedSimpArgs false
set_option linter.unusedVariables false
set_option linter.unusedSimpArgs false
set_option maxHeartbeats 1000000
namespace Go.Q
theorem Rd.int {n : Int} (h : Rd kI n) : -9223372036854775808 ≤ n ∧ n ≤ 9223372036854775807 := by
  obtain ⟨F, w, u, h⟩ := h
  exact (Kx_int.1 h).2
theorem p_fmtI (nf : Nat) (n : Int) : m_impl_FormatInt nf n = some (Lib.itoa n) := by
  rw [m_impl_FormatInt_eq]; rfl
/-- The text of a key. -/
def kText (x : Key) : Str := Lib.itoa x.tag ++ x.rows.flatMap fun n => 46 :: Lib.itoa n
def kPre (x : Key) (i : Nat) : Str := Lib.itoa x.tag ++ (x.rows.take i).flatMap fun n => 46 :: Lib.itoa n
theorem kPre_succ (x : Key) {i : Nat} (h : i < x.rows.length) : kPre x (i + 1) = kPre x i ++ 46 :: Lib.itoa (gt x.rows (i : Int) 0) := by
  unfold kPre
  rw [List.take_add_one, List.flatMap_append, List.getElem?_eq_getElem h, gt_at x.rows i h]
  simp [List.append_assoc]
theorem kPre_len (x : Key) (hr : Rd (kR 14) x) : ∀ i, i ≤ x.rows.length → (kPre x i).length ≤ 22 + 22 * i
  | 0, _ => by
    obtain ⟨q0, q1, _⟩ : Rd kI x.tag ∧ Rd (kL kI) x.rows ∧ True := hr.st
    have := Lib.itoa_length_le x.tag (Rd.int q0).1 (Rd.int q0).2
    simp only [kPre, List.take_zero, List.flatMap_nil, List.append_nil]; omega
  | i + 1, h => by
    obtain ⟨q0, q1, _⟩ : Rd kI x.tag ∧ Rd (kL kI) x.rows ∧ True := hr.st
    have q := Rd.int (q1.at (i := i) (by omega) (0 : Int))
    have := Lib.itoa_length_le _ q.1 q.2
    have := kPre_len x hr i (by omega)
    rw [kPre_succ x (by omega), List.length_append, List.length_cons]
    omega
theorem kPre_all (x : Key) : kPre x x.rows.length = kText x := by unfold kPre kText; rw [List.take_length]
theorem p_kTextI (nf : Nat) (x : Key) (hr : Rd (kR 14) x) (h : x.rows.length < nf) (hs : x.rows.length ≤ 1048576) : m_impl_KeyText nf x = some (kText x) := by
  obtain ⟨q0, q1, _⟩ : Rd kI x.tag ∧ Rd (kL kI) x.rows ∧ True := hr.st
  have e0 : kPre x 0 = Lib.itoa x.tag := by simp only [kPre, List.take_zero, List.flatMap_nil, List.append_nil]
  rw [m_impl_KeyText_eq, p_fmtI, cb_some, mark_eq, ← e0]
  refine for_loop (fun m i s => l8_impl_KeyText nf m x s i) x.rows.length (fun i => kPre x i) (some (kText x)) (fun m i hi => ?_) (fun m => ?_) nf h
  · have c0 : (i : Int) < (x.rows.length : Int) := by omega
    have c1 : 0 ≤ (i : Int) ∧ (i : Int) < (x.rows.length : Int) := by omega
    have q := Rd.int (q1.at hi (0 : Int))
    have hl := Lib.itoa_length_le _ q.1 q.2
    have hp := kPre_len x hr i (by omega)
    show _ = _
    rw [l8_impl_KeyText_eq, br_pos c0, gg_pos c1, p_fmtI, cb_some, gg_pos (by simp only [List.length_cons, List.length_nil]; omega), gg_pos (by simp only [List.length_append, List.length_cons, List.length_nil]; omega), mark_eq, w64_nat (n := i) (by omega), kPre_succ x hi]
    rfl
  · have c0 : ¬ (x.rows.length : Int) < (x.rows.length : Int) := by omega
    show _ = _
    rw [l8_impl_KeyText_eq, br_neg c0, kPre_all]

/-! ### a text has one key -/
def dval (s : Str) : Nat := s.foldl (fun r c => 10 * r + (c.toNat - 48)) 0
theorem byte_toNat {u : Nat} (h : u < 256) : (UInt8.ofNat u).toNat = u := by simp [UInt8.toNat_ofNat, Nat.mod_eq_of_lt h]
theorem dval_dec (u : Nat) : dval (Lib.decDigits u) = u := by
  induction u using Nat.strongRecOn with
  | _ u ih =>
    by_cases h : u < 10
    · rw [Lib.decDigits, dif_pos h]
      simp only [dval, List.foldl_cons, List.foldl_nil, byte_toNat (show 48 + u < 256 by omega)]
      omega
    · rw [Lib.decDigits, dif_neg h]
      have hi := ih (u / 10) (by omega)
      unfold dval at hi ⊢
      rw [List.foldl_append, hi]
      simp only [List.foldl_cons, List.foldl_nil, byte_toNat (show 48 + u % 10 < 256 by omega)]
      omega
theorem dec_digits (u : Nat) : ∀ c ∈ Lib.decDigits u, 48 ≤ c.toNat := by
  induction u using Nat.strongRecOn with
  | _ u ih =>
    intro c hc
    by_cases h : u < 10
    · rw [Lib.decDigits, dif_pos h, List.mem_singleton] at hc
      subst hc
      rw [byte_toNat (by omega)]; omega
    · rw [Lib.decDigits, dif_neg h, List.mem_append, List.mem_singleton] at hc
      rcases hc with hc | rfl
      · exact ih (u / 10) (by omega) c hc
      · rw [byte_toNat (by omega)]; omega
theorem itoa_no_dot (n : Int) : ∀ c ∈ Lib.itoa n, c ≠ 46 := by
  intro c hc e
  subst e
  unfold Lib.itoa at hc
  split at hc
  · rcases List.mem_cons.1 hc with h | h
    · exact absurd h (by decide)
    · exact absurd (dec_digits _ _ h) (by decide)
  · exact absurd (dec_digits _ _ hc) (by decide)
theorem itoa_inj {n m : Int} (h : Lib.itoa n = Lib.itoa m) : n = m := by
  unfold Lib.itoa at h
  split at h <;> split at h
  · have := congrArg dval (List.cons.inj h).2
    rw [dval_dec, dval_dec] at this
    omega
  · have h1 := dec_digits m.toNat 45 (by rw [← h]; exact List.mem_cons_self ..)
    exact absurd h1 (by decide)
  · have h1 := dec_digits n.toNat 45 (by rw [h]; exact List.mem_cons_self ..)
    exact absurd h1 (by decide)
  · have := congrArg dval h
    rw [dval_dec, dval_dec] at this
    omega
def isDot : Str → Bool
  | [] => true
  | c :: _ => c == 46
theorem dot_split : ∀ {a b x y : Str}, (∀ c ∈ a, c ≠ 46) → (∀ c ∈ b, c ≠ 46) → isDot x = true → isDot y = true → a ++ x = b ++ y → a = b ∧ x = y
  | [], [], _, _, _, _, _, _, h => ⟨rfl, h⟩
  | [], c :: b, x, y, ha, hb, hx, hy, h => by
    cases x with
    | nil => simp at h
    | cons d x =>
      simp only [List.nil_append, List.cons_append, List.cons.injEq] at h
      simp only [isDot, beq_iff_eq] at hx
      exact absurd (h.1.symm.trans hx) (hb c (by simp))
  | c :: a, [], x, y, ha, hb, hx, hy, h => by
    cases y with
    | nil => simp at h
    | cons d y =>
      simp only [List.nil_append, List.cons_append, List.cons.injEq] at h
      simp only [isDot, beq_iff_eq] at hy
      exact absurd (h.1.trans hy) (ha c (by simp))
  | c :: a, d :: b, x, y, ha, hb, hx, hy, h => by
    simp only [List.cons_append, List.cons.injEq] at h
    obtain ⟨h1, h2⟩ := dot_split (fun c hc => ha c (List.mem_cons_of_mem _ hc)) (fun c hc => hb c (List.mem_cons_of_mem _ hc)) hx hy h.2
    exact ⟨by rw [h.1, h1], h2⟩
def kRest (xs : List Int) : Str := xs.flatMap fun n => 46 :: Lib.itoa n
theorem kRest_dot : ∀ xs, isDot (kRest xs) = true
  | [] => rfl
  | x :: xs => rfl
theorem kRest_inj : ∀ {xs ys : List Int}, kRest xs = kRest ys → xs = ys
  | [], [], _ => rfl
  | [], y :: ys, h => by simp [kRest] at h
  | x :: xs, [], h => by simp [kRest] at h
  | x :: xs, y :: ys, h => by
    have h' : Lib.itoa x ++ kRest xs = Lib.itoa y ++ kRest ys := by
      simp only [kRest, List.flatMap_cons, List.cons_append, List.cons.injEq, true_and] at h
      exact h
    obtain ⟨h1, h2⟩ := dot_split (itoa_no_dot x) (itoa_no_dot y) (kRest_dot xs) (kRest_dot ys) h'
    rw [itoa_inj h1, kRest_inj h2]
theorem kText_inj {x y : Key} (h : kText x = kText y) : x = y := by
  obtain ⟨h1, h2⟩ := dot_split (itoa_no_dot x.tag) (itoa_no_dot y.tag) (kRest_dot x.rows) (kRest_dot y.rows) h
  cases x
  cases y
  simp only [Key.mk.injEq]
  exact ⟨itoa_inj h1, kRest_inj h2⟩
end Go.Q
