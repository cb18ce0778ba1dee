/- KeyText. -/
import Derived.Test.YtabfgfbmfmpdnaaDoorQe
import Derived.Test.YtabfgfbmfmpdnaaDoorA5k
set_option linter.unusedVariables false
set_option linter.unusedSimpArgs false
set_option linter.unusedVariables false
set_option linter.unusedSimpArgs false
set_option maxHeartbeats 1000000
namespace Go.Q
theorem p_toIntS (nf : Nat) (a : List Int) (h : a.length < nf) (hb : nf ≤ 2147483647) : m_laws_toIntS nf a = some a := by
  rw [m_laws_toIntS_eq, gg_pos (by omega), mark_eq, Int.toNat_natCast, cpy_zero]
  refine for_loop (fun m i s => l8_laws_toIntS nf m a i s) a.length (fun i => cpy a i (0 : Int)) (some a) (fun m i hi => ?_) (fun m => ?_) nf h
  · have hl := cpy_len a i (0 : Int)
    have c0 : (i : Int) < (a.length : Int) := by omega
    have c1 : 0 ≤ (i : Int) ∧ (i : Int) < (a.length : Int) := by omega
    have c2 : 0 ≤ (i : Int) ∧ (i : Int) < ((cpy a i (0 : Int)).length : Int) := by omega
    simp only [l8_laws_toIntS_eq, br_pos c0, gg_pos c1, gg_pos c2, mark_eq, w64_nat (n := i) (by omega), Int.toNat_natCast, cpy_set a _ _ hi]
  · have c0 : ¬ (a.length : Int) < (a.length : Int) := by omega
    simp only [l8_laws_toIntS_eq, br_neg c0, cpy_all a _ (Nat.le_refl _)]
theorem p_szIntS (nf : Nat) (a : List Int) (left : Int) (hr : Rd (kL kI) a) (h0 : 0 ≤ left) (h1 : left ≤ 1048576) (hn : 1048576 < nf) : ∃ r, m_laws_szIntS nf a left = some r ∧ -1 ≤ r ∧ r ≤ left ∧ (0 ≤ r → r + (a.length : Nat) = left) := by
  have hl := hr.len
  have ew : w64 (left - (a.length : Int)) = left - (a.length : Int) := w64_id (by omega) (by omega)
  by_cases hc : left - (a.length : Int) < 0
  · exact ⟨-1, by simp only [m_laws_szIntS_eq, ew, br_pos hc], by omega, by omega, by omega⟩
  · exact ⟨left - (a.length : Int), by simp only [m_laws_szIntS_eq, ew, br_neg hc], by omega, by omega, by omega⟩
theorem p_eqIntS (nf : Nat) (a : List Int) (h : a.length < nf) (hb : nf ≤ 2147483647) : m_laws_eqIntS nf a a = some true := by
  simp only [m_laws_eqIntS_eq, beq_self_eq_true, Bool.not_true, br_false, mark_eq]
  refine for_loop (fun m i (_ : Unit) => l14_laws_eqIntS nf m a a i) a.length (fun _ => ()) (some true) (fun m i hi => ?_) (fun m => ?_) nf h
  · have c0 : (i : Int) < (a.length : Int) := by omega
    have c1 : 0 ≤ (i : Int) ∧ (i : Int) < (a.length : Int) := by omega
    simp only [l14_laws_eqIntS_eq, br_pos c0, gg_pos c1, beq_self_eq_true, Bool.not_true, br_false, mark_eq, w64_nat (n := i) (by omega)]
  · have c0 : ¬ (a.length : Int) < (a.length : Int) := by omega
    simp only [l14_laws_eqIntS_eq, br_neg c0]
theorem p_toKey (nf : Nat) (x : Key) (h : 8 * (zKey x) + 1 < nf) (hn : nf ≤ 2147483647) : m_laws_toKey nf x = some x := by
  have hz := zKey_f x
  have e1 := p_toIntS nf x.rows (by omega) (by omega)
  simp only [m_laws_toKey_eq, e1, cb_some, Comp.h_eq, FComp.h_eq, Head.h_eq, Plan.h_eq, Query.h_eq, TDecl.h_eq, Tm.h_eq, Ty.h_eq, Typing.h_eq, Val.h_eq]
theorem p_szKey (nf : Nat) (x : Key) (left : Int) (hr : Rd (kR 14) x) (h0 : 0 ≤ left) (h1 : left ≤ 1048576) (hn : 8388700 < nf) : ∃ r, m_laws_szKey nf x left = some r ∧ -1 ≤ r ∧ r ≤ left ∧ (0 ≤ r → r + (zKey x : Nat) = left) := by
  have hz := zKey_f x
  obtain ⟨q0, q1, _⟩ : Rd kI x.tag ∧ Rd (kL kI) x.rows ∧ True := hr.st
  obtain ⟨r1, w1, u1, v1, z1⟩ := p_szIntS nf x.rows left q1 (by omega) (by omega) (by omega)
  by_cases c1 : r1 < 0
  · exact ⟨-1, by simp only [m_laws_szKey_eq, w1, cb_some, Comp.h_eq, FComp.h_eq, Head.h_eq, Plan.h_eq, Query.h_eq, TDecl.h_eq, Tm.h_eq, Ty.h_eq, Typing.h_eq, Val.h_eq, br_pos c1], by omega, by omega, by omega⟩
  exact ⟨r1, by simp only [m_laws_szKey_eq, w1, cb_some, br_neg c1, Comp.h_eq, FComp.h_eq, Head.h_eq, Plan.h_eq, Query.h_eq, TDecl.h_eq, Tm.h_eq, Ty.h_eq, Typing.h_eq, Val.h_eq], by omega, by omega, by omega⟩
theorem p_eqKey (nf : Nat) (x : Key) (h : 8 * (zKey x) + 1 < nf) (hn : nf ≤ 2147483647) : m_laws_eqKey nf x x = some true := by
  have hz := zKey_f x
  have e1 := p_eqIntS nf x.rows (by omega) (by omega)
  simp only [m_laws_eqKey_eq, e1, cb_some, Comp.h_eq, FComp.h_eq, Head.h_eq, Plan.h_eq, Query.h_eq, TDecl.h_eq, Tm.h_eq, Ty.h_eq, Typing.h_eq, Val.h_eq, beq_self_eq_true, Bool.not_true, br_false]
theorem Rd.int {n : Int} (h : Rd kI n) : -9223372036854775808 ≤ n ∧ n ≤ 9223372036854775807 := by
  obtain ⟨F, w, u, h⟩ := h
  exact (Kx_int.1 h).2
theorem natAbs_rem (x : Int) : (Int.tmod x 10).natAbs = x.natAbs % 10 := by rw [Int.natAbs_tmod]; rfl
theorem natAbs_quo (x : Int) : (Int.tdiv x 10).natAbs = x.natAbs / 10 := by rw [Int.natAbs_tdiv]; rfl
theorem dig_byte (d : Nat) (h : d < 10) : bytesOf ([(IntKind.u8.wrap (w64 ((48 : Int) + (d : Int))))] : List Int) = [UInt8.ofNat (48 + d)] := by
  have h1 : w64 ((48 : Int) + (d : Int)) = 48 + (d : Int) := w64_id (by omega) (by omega)
  rw [h1]
  have : ∀ d : _root_.Fin 10, bytesOf ([(IntKind.u8.wrap ((48 : Int) + (d.1 : Int)))] : List Int) = [UInt8.ofNat (48 + d.1)] := by decide
  exact this ⟨d, h⟩
theorem fmt_loop (nf : Nat) (n : Int) : ∀ (m : Nat) (x : Int) (acc : Str), -9223372036854775808 ≤ x → x ≤ 9223372036854775807 → Lib.nDigits x.natAbs < m → acc.length + Lib.nDigits x.natAbs ≤ 9223372036854775000 →
    l16_spec_FormatInt nf m n x acc = j35_spec_FormatInt nf n ((if x = 0 then [] else Lib.decDigits x.natAbs) ++ acc)
  | 0, _, _, _, _, h, _ => absurd h (Nat.not_lt_zero _)
  | m + 1, x, acc, h0, h1, h, hl => by
    rw [l16_spec_FormatInt_eq]
    by_cases hx : x = 0
    · subst hx
      simp only [beq_self_eq_true, Bool.not_true, br_false, mark_eq, if_true, List.nil_append]
    · have e0 : (x == 0) = false := by simpa using hx
      have hp := Lib.nDigits_pos x.natAbs
      have hr := natAbs_rem x
      have hq := natAbs_quo x
      have hlt : x.natAbs % 10 < 10 := Nat.mod_lt _ (by decide)
      have e1 : w64 (Int.tmod x 10) = Int.tmod x 10 := w64_id (by omega) (by omega)
      have e2 : w64 (Int.tdiv x 10) = Int.tdiv x 10 := w64_id (by omega) (by omega)
      rw [e0, Bool.not_false, br_true, gg_pos (by decide), e1]
      have step : ∀ d : Int, d = ((x.natAbs % 10 : Nat) : Int) → j32_spec_FormatInt nf m x n acc d = j35_spec_FormatInt nf n (Lib.decDigits x.natAbs ++ acc) := by
        rintro _ rfl
        rw [j32_spec_FormatInt_eq, dig_byte _ hlt, gg_pos (by simp only [List.length_cons, List.length_nil]; omega), gg_pos (by decide), mark_eq, e2]
        by_cases hs : x.natAbs < 10
        · have hz : Int.tdiv x 10 = 0 := by omega
          have hd : Lib.nDigits (Int.tdiv x 10).natAbs = 1 := by rw [hz]; exact Lib.nDigits_small (by decide)
          rw [Lib.nDigits_small hs] at h hl
          have hm : x.natAbs % 10 = x.natAbs := Nat.mod_eq_of_lt hs
          obtain ⟨m', rfl⟩ : ∃ m', m = m' + 1 := ⟨m - 1, by omega⟩
          rw [hz, l16_spec_FormatInt_eq]
          simp only [beq_self_eq_true, Bool.not_true, br_false, mark_eq]
          rw [hm, Lib.decDigits, dif_pos hs]
        · rw [Lib.nDigits_big hs, ← hq] at h hl
          have hz : ¬ Int.tdiv x 10 = 0 := by omega
          rw [fmt_loop nf n m _ _ (by omega) (by omega) (by omega) (by simp only [List.length_append, List.length_cons, List.length_nil]; omega), if_neg hz, hq, ← List.append_assoc]
          have dd : Lib.decDigits x.natAbs = Lib.decDigits (x.natAbs / 10) ++ [UInt8.ofNat (48 + x.natAbs % 10)] := by rw [Lib.decDigits, dif_neg hs]
          rw [dd]
      rw [if_neg hx]
      by_cases hd : Int.tmod x 10 < 0
      · rw [br_pos hd, mark_eq]
        have e3 : w64 (0 - Int.tmod x 10) = 0 - Int.tmod x 10 := w64_id (by omega) (by omega)
        rw [e3]
        exact step _ (by omega)
      · rw [br_neg hd, mark_eq]
        exact step _ (by omega)
theorem p_fmtS (nf : Nat) (n : Int) (h0 : -9223372036854775808 ≤ n) (h1 : n ≤ 9223372036854775807) (hn : 100 < nf) : m_spec_FormatInt nf n = some (Lib.itoa n) := by
  rw [m_spec_FormatInt_eq]
  by_cases hz : n = 0
  · subst hz
    have e : Lib.itoa 0 = [48] := by
      have := Lib.itoa_nonneg 0
      rw [Lib.decDigits_one (by decide)] at this
      exact this
    rw [e]; rfl
  · have e0 : (n == 0) = false := by simpa using hz
    have hb : Lib.nDigits n.natAbs ≤ 22 := by
      have := Lib.itoa_length_le n h0 h1
      unfold Lib.itoa at this
      split at this
      · simp only [List.length_cons, Lib.decDigits_length] at this; omega
      · rw [Lib.decDigits_length] at this
        have e : n.toNat = n.natAbs := by omega
        rw [e] at this
        omega
    rw [e0, br_false, mark_eq, fmt_loop nf n nf n [] h0 h1 (by omega) (by simp only [List.length_nil]; omega), if_neg hz, List.append_nil, j35_spec_FormatInt_eq]
    unfold Lib.itoa
    by_cases hc : n < 0
    · rw [br_pos hc, if_pos hc, gg_pos (by simp only [List.length_cons, List.length_nil, Lib.decDigits_length]; omega)]; rfl
    · rw [br_neg hc, if_neg hc]
      have : n.toNat = n.natAbs := by omega
      rw [this]
theorem p_fmtI (nf : Nat) (n : Int) : m_impl_FormatInt nf n = some (Lib.itoa n) := by
  rw [m_impl_FormatInt_eq]; rfl
/-- The text of a key. -/
def kText (x : Key) : Str := Lib.itoa x.tag ++ x.rows.flatMap fun n => 46 :: Lib.itoa n
def kPre (x : Key) (i : Nat) : Str := Lib.itoa x.tag ++ (x.rows.take i).flatMap fun n => 46 :: Lib.itoa n
theorem kPre_succ (x : Key) {i : Nat} (h : i < x.rows.length) : kPre x (i + 1) = kPre x i ++ 46 :: Lib.itoa (gt x.rows (i : Int) 0) := by
  unfold kPre
  rw [List.take_add_one, List.flatMap_append, List.getElem?_eq_getElem h, gt_at x.rows i h]
  simp [List.append_assoc]
theorem kPre_len (x : Key) (hr : Rd (kR 14) x) : ∀ i, i ≤ x.rows.length → (kPre x i).length ≤ 22 + 22 * i
  | 0, _ => by
    obtain ⟨q0, q1, _⟩ : Rd kI x.tag ∧ Rd (kL kI) x.rows ∧ True := hr.st
    have := Lib.itoa_length_le x.tag (Rd.int q0).1 (Rd.int q0).2
    simp only [kPre, List.take_zero, List.flatMap_nil, List.append_nil]; omega
  | i + 1, h => by
    obtain ⟨q0, q1, _⟩ : Rd kI x.tag ∧ Rd (kL kI) x.rows ∧ True := hr.st
    have q := Rd.int (q1.at (i := i) (by omega) (0 : Int))
    have := Lib.itoa_length_le _ q.1 q.2
    have := kPre_len x hr i (by omega)
    rw [kPre_succ x (by omega), List.length_append, List.length_cons]
    omega
theorem kPre_all (x : Key) : kPre x x.rows.length = kText x := by unfold kPre kText; rw [List.take_length]
theorem p_kTextS (nf : Nat) (x : Key) (hr : Rd (kR 14) x) (h : x.rows.length < nf) (hs : x.rows.length ≤ 1048576) (hn : 100 < nf) : m_spec_KeyText nf x = some (kText x) := by
  obtain ⟨q0, q1, _⟩ : Rd kI x.tag ∧ Rd (kL kI) x.rows ∧ True := hr.st
  have e0 : kPre x 0 = Lib.itoa x.tag := by simp only [kPre, List.take_zero, List.flatMap_nil, List.append_nil]
  rw [m_spec_KeyText_eq, p_fmtS nf x.tag (Rd.int q0).1 (Rd.int q0).2 hn, cb_some, mark_eq, ← e0]
  refine for_loop (fun m i s => l8_spec_KeyText nf m x s i) x.rows.length (fun i => kPre x i) (some (kText x)) (fun m i hi => ?_) (fun m => ?_) nf h
  · have c0 : (i : Int) < (x.rows.length : Int) := by omega
    have c1 : 0 ≤ (i : Int) ∧ (i : Int) < (x.rows.length : Int) := by omega
    have q := Rd.int (q1.at hi (0 : Int))
    have hl := Lib.itoa_length_le _ q.1 q.2
    have hp := kPre_len x hr i (by omega)
    show _ = _
    rw [l8_spec_KeyText_eq, br_pos c0, gg_pos (by simp only [List.length_cons, List.length_nil]; omega), gg_pos c1, p_fmtS nf _ q.1 q.2 hn, cb_some, gg_pos (by simp only [List.length_append, List.length_cons, List.length_nil]; omega), mark_eq, w64_nat (n := i) (by omega), kPre_succ x hi, List.append_assoc]
    rfl
  · have c0 : ¬ (x.rows.length : Int) < (x.rows.length : Int) := by omega
    show _ = _
    rw [l8_spec_KeyText_eq, br_neg c0, kPre_all]
theorem p_kTextI (nf : Nat) (x : Key) (hr : Rd (kR 14) x) (h : x.rows.length < nf) (hs : x.rows.length ≤ 1048576) : m_impl_KeyText nf x = some (kText x) := by
  obtain ⟨q0, q1, _⟩ : Rd kI x.tag ∧ Rd (kL kI) x.rows ∧ True := hr.st
  have e0 : kPre x 0 = Lib.itoa x.tag := by simp only [kPre, List.take_zero, List.flatMap_nil, List.append_nil]
  rw [m_impl_KeyText_eq, p_fmtI, cb_some, mark_eq, ← e0]
  refine for_loop (fun m i s => l8_impl_KeyText nf m x s i) x.rows.length (fun i => kPre x i) (some (kText x)) (fun m i hi => ?_) (fun m => ?_) nf h
  · have c0 : (i : Int) < (x.rows.length : Int) := by omega
    have c1 : 0 ≤ (i : Int) ∧ (i : Int) < (x.rows.length : Int) := by omega
    have q := Rd.int (q1.at hi (0 : Int))
    have hl := Lib.itoa_length_le _ q.1 q.2
    have hp := kPre_len x hr i (by omega)
    show _ = _
    rw [l8_impl_KeyText_eq, br_pos c0, gg_pos c1, p_fmtI, cb_some, gg_pos (by simp only [List.length_cons, List.length_nil]; omega), gg_pos (by simp only [List.length_append, List.length_cons, List.length_nil]; omega), mark_eq, w64_nat (n := i) (by omega), kPre_succ x hi]
    rfl
  · have c0 : ¬ (x.rows.length : Int) < (x.rows.length : Int) := by omega
    show _ = _
    rw [l8_impl_KeyText_eq, br_neg c0, kPre_all]
theorem p_law (a : Key) (ha : Rd (kR 14) a) : m_laws_FnExactKeyText 1073741824 a = some true := by
  obtain ⟨r, h1, h2, h3, h4⟩ := p_szKey 1073741824 a 1048576 ha (by omega) (by omega) (by omega)
  have hz := zKey_f a
  rw [m_laws_FnExactKeyText_eq, h1, cb_some]
  by_cases hc : r < 0
  · rw [br_pos hc]
  · have hzz := h4 (by omega)
    rw [br_neg hc, p_toKey _ a (by omega) (by omega), cb_some, p_kTextS _ a ha (by omega) (by omega) (by omega), cb_some, cb_some, p_kTextI _ a ha (by omega) (by omega), cb_some, beq_self_eq_true, Bool.not_true, br_false, cb_some, p_eqKey _ a (by omega) (by omega), cb_some, Bool.not_true, br_false]
end Go.Q
