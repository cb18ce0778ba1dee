/- The families' plain laws: to, sz, eq. -/
import Derived.Test.YtabfgfbmfmpdnaaDoorQe
import Derived.Test.YtabfgfbmfmpdnaaDoorA5
set_option linter.unusedVariables false
set_option linter.unusedSimpArgs false
set_option linter.unusedVariables false
set_option linter.unusedSimpArgs false
set_option maxHeartbeats 1000000
namespace Go.Q
theorem p_toIntS (nf : Nat) (a : List Int) (h : a.length < nf) (hb : nf ≤ 2147483647) : m_laws_toIntS nf a = some a := by
  rw [m_laws_toIntS_eq, gg_pos (by omega), mark_eq, Int.toNat_natCast, cpy_zero]
  refine for_loop (fun m i s => l8_laws_toIntS nf m a i s) a.length (fun i => cpy a i (0 : Int)) (some a) (fun m i hi => ?_) (fun m => ?_) nf h
  · have hl := cpy_len a i (0 : Int)
    have c0 : (i : Int) < (a.length : Int) := by omega
    have c1 : 0 ≤ (i : Int) ∧ (i : Int) < (a.length : Int) := by omega
    have c2 : 0 ≤ (i : Int) ∧ (i : Int) < ((cpy a i (0 : Int)).length : Int) := by omega
    simp only [l8_laws_toIntS_eq, br_pos c0, gg_pos c1, gg_pos c2, mark_eq, w64_nat (n := i) (by omega), Int.toNat_natCast, cpy_set a _ _ hi]
  · have c0 : ¬ (a.length : Int) < (a.length : Int) := by omega
    simp only [l8_laws_toIntS_eq, br_neg c0, cpy_all a _ (Nat.le_refl _)]
theorem p_szIntS (nf : Nat) (a : List Int) (left : Int) (hr : Rd (kL kI) a) (h0 : 0 ≤ left) (h1 : left ≤ 1048576) (hn : 1048576 < nf) : ∃ r, m_laws_szIntS nf a left = some r ∧ -1 ≤ r ∧ r ≤ left ∧ (0 ≤ r → r + (a.length : Nat) = left) := by
  have hl := hr.len
  have ew : w64 (left - (a.length : Int)) = left - (a.length : Int) := w64_id (by omega) (by omega)
  by_cases hc : left - (a.length : Int) < 0
  · exact ⟨-1, by simp only [m_laws_szIntS_eq, ew, br_pos hc], by omega, by omega, by omega⟩
  · exact ⟨left - (a.length : Int), by simp only [m_laws_szIntS_eq, ew, br_neg hc], by omega, by omega, by omega⟩
theorem p_eqIntS (nf : Nat) (a : List Int) (h : a.length < nf) (hb : nf ≤ 2147483647) : m_laws_eqIntS nf a a = some true := by
  simp only [m_laws_eqIntS_eq, beq_self_eq_true, Bool.not_true, br_false, mark_eq]
  refine for_loop (fun m i (_ : Unit) => l14_laws_eqIntS nf m a a i) a.length (fun _ => ()) (some true) (fun m i hi => ?_) (fun m => ?_) nf h
  · have c0 : (i : Int) < (a.length : Int) := by omega
    have c1 : 0 ≤ (i : Int) ∧ (i : Int) < (a.length : Int) := by omega
    simp only [l14_laws_eqIntS_eq, br_pos c0, gg_pos c1, beq_self_eq_true, Bool.not_true, br_false, mark_eq, w64_nat (n := i) (by omega)]
  · have c0 : ¬ (a.length : Int) < (a.length : Int) := by omega
    simp only [l14_laws_eqIntS_eq, br_neg c0]
theorem p_toStringS (nf : Nat) (a : List Str) (h : a.length < nf) (hb : nf ≤ 2147483647) : m_laws_toStringS nf a = some a := by
  rw [m_laws_toStringS_eq, gg_pos (by omega), mark_eq, Int.toNat_natCast, cpy_zero]
  refine for_loop (fun m i s => l8_laws_toStringS nf m a i s) a.length (fun i => cpy a i ([] : Str)) (some a) (fun m i hi => ?_) (fun m => ?_) nf h
  · have hl := cpy_len a i ([] : Str)
    have c0 : (i : Int) < (a.length : Int) := by omega
    have c1 : 0 ≤ (i : Int) ∧ (i : Int) < (a.length : Int) := by omega
    have c2 : 0 ≤ (i : Int) ∧ (i : Int) < ((cpy a i ([] : Str)).length : Int) := by omega
    simp only [l8_laws_toStringS_eq, br_pos c0, gg_pos c1, gg_pos c2, mark_eq, w64_nat (n := i) (by omega), Int.toNat_natCast, cpy_set a _ _ hi]
  · have c0 : ¬ (a.length : Int) < (a.length : Int) := by omega
    simp only [l8_laws_toStringS_eq, br_neg c0, cpy_all a _ (Nat.le_refl _)]
theorem p_szStringS (nf : Nat) (a : List Str) (left : Int) (hr : Rd (kL kS) a) (h0 : 0 ≤ left) (h1 : left ≤ 1048576) (hn : 1048576 < nf) : ∃ r, m_laws_szStringS nf a left = some r ∧ -1 ≤ r ∧ r ≤ left ∧ (0 ≤ r → r + (szL List.length a : Nat) = left) := by
  have hl := hr.len
  have ew : w64 (left - (a.length : Int)) = left - (a.length : Int) := w64_id (by omega) (by omega)
  by_cases hc : left - (a.length : Int) < 0
  · exact ⟨-1, by simp only [m_laws_szStringS_eq, ew, br_pos hc], by omega, by omega, by omega⟩
  simp only [m_laws_szStringS_eq, ew, br_neg hc, mark_eq]
  refine for_rel (fun m i s => l16_laws_szStringS nf m a s i) a.length (fun i s => 0 ≤ s ∧ s + (pfx List.length a i : Nat) + (a.length : Nat) = left) _ (fun m i s hi hs => ?_) (fun m s hs => ?_) nf _ (by omega) ⟨by omega, by simp only [pfx_zero]; omega⟩
  · have c0 : (i : Int) < (a.length : Int) := by omega
    have c1 : 0 ≤ (i : Int) ∧ (i : Int) < (a.length : Int) := by omega
    have hs1 := (hr.at hi ([] : Str)).slen
    have hp := pfx_succ List.length a hi ([] : Str)
    have e1 : w64 (s - (List.length (gt a (i : Int) ([] : Str)) : Int)) = s - (List.length (gt a (i : Int) ([] : Str)) : Int) := w64_id (by omega) (by omega)
    by_cases hd : s - (List.length (gt a (i : Int) ([] : Str)) : Int) < 0
    · exact .inl ⟨-1, by simp only [l16_laws_szStringS_eq, br_pos c0, gg_pos c1, e1, br_pos hd], by omega, by omega, by omega⟩
    · exact .inr ⟨s - (List.length (gt a (i : Int) ([] : Str)) : Int), ⟨by omega, by omega⟩, by simp only [l16_laws_szStringS_eq, br_pos c0, gg_pos c1, e1, br_neg hd, mark_eq, w64_nat (n := i) (by omega)]⟩
  · have c0 : ¬ (a.length : Int) < (a.length : Int) := by omega
    have hp := pfx_all List.length a (Nat.le_refl _)
    have hz : szL List.length a = a.length + (a.map List.length).sum := rfl
    exact ⟨s, by simp only [l16_laws_szStringS_eq, br_neg c0], by omega, by omega, by omega⟩
theorem p_eqStringS (nf : Nat) (a : List Str) (h : a.length < nf) (hb : nf ≤ 2147483647) : m_laws_eqStringS nf a a = some true := by
  simp only [m_laws_eqStringS_eq, beq_self_eq_true, Bool.not_true, br_false, mark_eq]
  refine for_loop (fun m i (_ : Unit) => l14_laws_eqStringS nf m a a i) a.length (fun _ => ()) (some true) (fun m i hi => ?_) (fun m => ?_) nf h
  · have c0 : (i : Int) < (a.length : Int) := by omega
    have c1 : 0 ≤ (i : Int) ∧ (i : Int) < (a.length : Int) := by omega
    simp only [l14_laws_eqStringS_eq, br_pos c0, gg_pos c1, beq_self_eq_true, Bool.not_true, br_false, mark_eq, w64_nat (n := i) (by omega)]
  · have c0 : ¬ (a.length : Int) < (a.length : Int) := by omega
    simp only [l14_laws_eqStringS_eq, br_neg c0]
theorem g_to_Value (nf : Nat) (hn : nf ≤ 2147483647) : ∀ kf : Nat, (∀ x : List Val, 8 * (szL zVal x) + 0 < kf → 8 * (szL zVal x) + 0 < nf → m_laws_toValueS nf kf x = some x) ∧ (∀ x : Val, 8 * (zVal x) + 1 < kf → 8 * (zVal x) + 1 < nf → m_laws_toValue nf kf x = some x)
  | 0 => ⟨fun x h => absurd h (Nat.not_lt_zero _), fun x h => absurd h (Nat.not_lt_zero _)⟩
  | kf + 1 => by
    obtain ⟨ih0, ih1⟩ := g_to_Value nf hn kf
    refine ⟨?_, ?_⟩
    · intro x h h'
      have hal : x.length ≤ szL zVal x := by unfold szL; omega
      rw [m_laws_toValueS_eq, gg_pos (by omega), mark_eq, Int.toNat_natCast, cpy_zero]
      refine for_loop (fun m i s => l8_laws_toValueS nf (kf + 1) m x i s) x.length (fun i => cpy x i Val.zero) (some x) (fun m i hi => ?_) (fun m => ?_) nf (by omega)
      · have hl := cpy_len x i Val.zero
        have hz := szL_at zVal x hi Val.zero
        have c0 : (i : Int) < (x.length : Int) := by omega
        have c1 : 0 ≤ (i : Int) ∧ (i : Int) < (x.length : Int) := by omega
        have c2 : 0 ≤ (i : Int) ∧ (i : Int) < ((cpy x i Val.zero).length : Int) := by omega
        have he := ih1 (gt x (i : Int) Val.zero) (by omega) (by omega)
        simp only [l8_laws_toValueS_eq, br_pos c0, gg_pos c1, gg_pos c2, he, cb_some, Comp.h_eq, FComp.h_eq, Head.h_eq, Plan.h_eq, Query.h_eq, TDecl.h_eq, Tm.h_eq, Ty.h_eq, Typing.h_eq, Val.h_eq, mark_eq, w64_nat (n := i) (by omega), Int.toNat_natCast, cpy_set x _ _ hi]
      · have c0 : ¬ (x.length : Int) < (x.length : Int) := by omega
        simp only [l8_laws_toValueS_eq, br_neg c0, cpy_all x _ (Nat.le_refl _)]
    · intro x h h'
      have hz := zVal_f x
      have l2 : x.labels.length ≤ szL List.length x.labels := by unfold szL; omega
      have e2 := p_toStringS nf x.labels (by omega) (by omega)
      have e3 := ih0 x.args (by omega) (by omega)
      simp only [m_laws_toValue_eq, e2, e3, cb_some, Comp.h_eq, FComp.h_eq, Head.h_eq, Plan.h_eq, Query.h_eq, TDecl.h_eq, Tm.h_eq, Ty.h_eq, Typing.h_eq, Val.h_eq, Val.eta]
theorem p_toValueS (nf : Nat) (x : List Val) (h : 8 * (szL zVal x) + 0 < nf) (hn : nf ≤ 2147483647) : m_laws_toValueS nf nf x = some x := (g_to_Value nf hn nf).1 x h h
theorem g_sz_Value (nf : Nat) (hn : 8388700 < nf) : ∀ kf : Nat, (∀ (x : List Val) (left : Int), Rd (kL (kR 1)) x → 0 ≤ left → left ≤ 1048576 → 8 * left + 1 < (kf : Int) → ∃ r, m_laws_szValueS nf kf x left = some r ∧ -1 ≤ r ∧ r ≤ left ∧ (0 ≤ r → r + (szL zVal x : Nat) = left)) ∧ (∀ (x : Val) (left : Int), Rd (kR 1) x → 0 ≤ left → left ≤ 1048576 → 8 * left + 2 < (kf : Int) → ∃ r, m_laws_szValue nf kf x left = some r ∧ -1 ≤ r ∧ r ≤ left ∧ (0 ≤ r → r + (zVal x : Nat) = left))
  | 0 => ⟨fun x left _ h0 _ h => absurd h (by omega), fun x left _ h0 _ h => absurd h (by omega)⟩
  | kf + 1 => by
    obtain ⟨ih0, ih1⟩ := g_sz_Value nf hn kf
    refine ⟨?_, ?_⟩
    · intro x left hr h0 h1 h
      have hl := hr.len
      have ew : w64 (left - (x.length : Int)) = left - (x.length : Int) := w64_id (by omega) (by omega)
      by_cases hc : left - (x.length : Int) < 0
      · exact ⟨-1, by simp only [m_laws_szValueS_eq, ew, br_pos hc], by omega, by omega, by omega⟩
      simp only [m_laws_szValueS_eq, ew, br_neg hc, mark_eq]
      refine for_rel (fun m i s => l16_laws_szValueS nf (kf + 1) m x s i) x.length (fun i s => 0 ≤ s ∧ s + (pfx zVal x i : Nat) + (x.length : Nat) = left) _ (fun m i s hi hs => ?_) (fun m s hs => ?_) nf _ (by omega) ⟨by omega, by simp only [pfx_zero]; omega⟩
      · have c0 : (i : Int) < (x.length : Int) := by omega
        have c1 : 0 ≤ (i : Int) ∧ (i : Int) < (x.length : Int) := by omega
        have hp := pfx_succ zVal x hi Val.zero
        obtain ⟨r, he, q1, q2, q3⟩ := ih1 (gt x (i : Int) Val.zero) s (hr.at hi Val.zero) (by omega) (by omega) (by omega)
        by_cases hd : r < 0
        · exact .inl ⟨-1, by simp only [l16_laws_szValueS_eq, br_pos c0, gg_pos c1, he, cb_some, Comp.h_eq, FComp.h_eq, Head.h_eq, Plan.h_eq, Query.h_eq, TDecl.h_eq, Tm.h_eq, Ty.h_eq, Typing.h_eq, Val.h_eq, br_pos hd], by omega, by omega, by omega⟩
        · exact .inr ⟨r, ⟨by omega, by omega⟩, by simp only [l16_laws_szValueS_eq, br_pos c0, gg_pos c1, he, cb_some, Comp.h_eq, FComp.h_eq, Head.h_eq, Plan.h_eq, Query.h_eq, TDecl.h_eq, Tm.h_eq, Ty.h_eq, Typing.h_eq, Val.h_eq, br_neg hd, mark_eq, w64_nat (n := i) (by omega)]⟩
      · have c0 : ¬ (x.length : Int) < (x.length : Int) := by omega
        have hp := pfx_all zVal x (Nat.le_refl _)
        have hz : szL zVal x = x.length + (x.map zVal).sum := rfl
        exact ⟨s, by simp only [l16_laws_szValueS_eq, br_neg c0], by omega, by omega, by omega⟩
    · intro x left hr h0 h1 h
      have hz := zVal_f x
      obtain ⟨q0, q1, q2, q3, _⟩ : Rd kI x.kind ∧ Rd kI x.n ∧ Rd (kL kS) x.labels ∧ Rd (kL (kR 1)) x.args ∧ True := hr.st
      obtain ⟨r2, w2, u2, v2, z2⟩ := p_szStringS nf x.labels left q2 (by omega) (by omega) (by omega)
      by_cases c2 : r2 < 0
      · exact ⟨-1, by simp only [m_laws_szValue_eq, w2, cb_some, Comp.h_eq, FComp.h_eq, Head.h_eq, Plan.h_eq, Query.h_eq, TDecl.h_eq, Tm.h_eq, Ty.h_eq, Typing.h_eq, Val.h_eq, br_pos c2], by omega, by omega, by omega⟩
      obtain ⟨r3, w3, u3, v3, z3⟩ := ih0 x.args r2 q3 (by omega) (by omega) (by omega)
      by_cases c3 : r3 < 0
      · exact ⟨-1, by simp only [m_laws_szValue_eq, w2, cb_some, br_neg c2, w3, cb_some, Comp.h_eq, FComp.h_eq, Head.h_eq, Plan.h_eq, Query.h_eq, TDecl.h_eq, Tm.h_eq, Ty.h_eq, Typing.h_eq, Val.h_eq, br_pos c3], by omega, by omega, by omega⟩
      exact ⟨r3, by simp only [m_laws_szValue_eq, w2, cb_some, br_neg c2, w3, cb_some, br_neg c3, Comp.h_eq, FComp.h_eq, Head.h_eq, Plan.h_eq, Query.h_eq, TDecl.h_eq, Tm.h_eq, Ty.h_eq, Typing.h_eq, Val.h_eq], by omega, by omega, by omega⟩
theorem p_szValueS (nf : Nat) (x : List Val) (left : Int) (hr : Rd (kL (kR 1)) x) (h0 : 0 ≤ left) (h1 : left ≤ 1048576) (hn : 8388700 < nf) : ∃ r, m_laws_szValueS nf nf x left = some r ∧ -1 ≤ r ∧ r ≤ left ∧ (0 ≤ r → r + (szL zVal x : Nat) = left) := (g_sz_Value nf hn nf).1 x left hr h0 h1 (by omega)
theorem g_eq_Value (nf : Nat) (hn : nf ≤ 2147483647) : ∀ kf : Nat, (∀ x : List Val, 8 * (szL zVal x) + 0 < kf → 8 * (szL zVal x) + 0 < nf → m_laws_eqValueS nf kf x x = some true) ∧ (∀ x : Val, 8 * (zVal x) + 1 < kf → 8 * (zVal x) + 1 < nf → m_laws_eqValue nf kf x x = some true)
  | 0 => ⟨fun x h => absurd h (Nat.not_lt_zero _), fun x h => absurd h (Nat.not_lt_zero _)⟩
  | kf + 1 => by
    obtain ⟨ih0, ih1⟩ := g_eq_Value nf hn kf
    refine ⟨?_, ?_⟩
    · intro x h h'
      have hal : x.length ≤ szL zVal x := by unfold szL; omega
      simp only [m_laws_eqValueS_eq, beq_self_eq_true, Bool.not_true, br_false, mark_eq]
      refine for_loop (fun m i (_ : Unit) => l14_laws_eqValueS nf (kf + 1) m x x i) x.length (fun _ => ()) (some true) (fun m i hi => ?_) (fun m => ?_) nf (by omega)
      · have hz := szL_at zVal x hi Val.zero
        have c0 : (i : Int) < (x.length : Int) := by omega
        have c1 : 0 ≤ (i : Int) ∧ (i : Int) < (x.length : Int) := by omega
        have he := ih1 (gt x (i : Int) Val.zero) (by omega) (by omega)
        simp only [l14_laws_eqValueS_eq, br_pos c0, gg_pos c1, he, cb_some, Comp.h_eq, FComp.h_eq, Head.h_eq, Plan.h_eq, Query.h_eq, TDecl.h_eq, Tm.h_eq, Ty.h_eq, Typing.h_eq, Val.h_eq, Bool.not_true, br_false, mark_eq, w64_nat (n := i) (by omega)]
      · have c0 : ¬ (x.length : Int) < (x.length : Int) := by omega
        simp only [l14_laws_eqValueS_eq, br_neg c0]
    · intro x h h'
      have hz := zVal_f x
      have l2 : x.labels.length ≤ szL List.length x.labels := by unfold szL; omega
      have e2 := p_eqStringS nf x.labels (by omega) (by omega)
      have e3 := ih0 x.args (by omega) (by omega)
      simp only [m_laws_eqValue_eq, e2, e3, cb_some, Comp.h_eq, FComp.h_eq, Head.h_eq, Plan.h_eq, Query.h_eq, TDecl.h_eq, Tm.h_eq, Ty.h_eq, Typing.h_eq, Val.h_eq, beq_self_eq_true, Bool.not_true, br_false]
theorem p_eqValueS (nf : Nat) (x : List Val) (h : 8 * (szL zVal x) + 0 < nf) (hn : nf ≤ 2147483647) : m_laws_eqValueS nf nf x x = some true := (g_eq_Value nf hn nf).1 x h h
theorem p_toKey (nf : Nat) (x : Key) (h : 8 * (zKey x) + 1 < nf) (hn : nf ≤ 2147483647) : m_laws_toKey nf x = some x := by
  have hz := zKey_f x
  have e1 := p_toIntS nf x.rows (by omega) (by omega)
  simp only [m_laws_toKey_eq, e1, cb_some, Comp.h_eq, FComp.h_eq, Head.h_eq, Plan.h_eq, Query.h_eq, TDecl.h_eq, Tm.h_eq, Ty.h_eq, Typing.h_eq, Val.h_eq]
theorem p_szKey (nf : Nat) (x : Key) (left : Int) (hr : Rd (kR 14) x) (h0 : 0 ≤ left) (h1 : left ≤ 1048576) (hn : 8388700 < nf) : ∃ r, m_laws_szKey nf x left = some r ∧ -1 ≤ r ∧ r ≤ left ∧ (0 ≤ r → r + (zKey x : Nat) = left) := by
  have hz := zKey_f x
  obtain ⟨q0, q1, _⟩ : Rd kI x.tag ∧ Rd (kL kI) x.rows ∧ True := hr.st
  obtain ⟨r1, w1, u1, v1, z1⟩ := p_szIntS nf x.rows left q1 (by omega) (by omega) (by omega)
  by_cases c1 : r1 < 0
  · exact ⟨-1, by simp only [m_laws_szKey_eq, w1, cb_some, Comp.h_eq, FComp.h_eq, Head.h_eq, Plan.h_eq, Query.h_eq, TDecl.h_eq, Tm.h_eq, Ty.h_eq, Typing.h_eq, Val.h_eq, br_pos c1], by omega, by omega, by omega⟩
  exact ⟨r1, by simp only [m_laws_szKey_eq, w1, cb_some, br_neg c1, Comp.h_eq, FComp.h_eq, Head.h_eq, Plan.h_eq, Query.h_eq, TDecl.h_eq, Tm.h_eq, Ty.h_eq, Typing.h_eq, Val.h_eq], by omega, by omega, by omega⟩
theorem p_eqKey (nf : Nat) (x : Key) (h : 8 * (zKey x) + 1 < nf) (hn : nf ≤ 2147483647) : m_laws_eqKey nf x x = some true := by
  have hz := zKey_f x
  have e1 := p_eqIntS nf x.rows (by omega) (by omega)
  simp only [m_laws_eqKey_eq, e1, cb_some, Comp.h_eq, FComp.h_eq, Head.h_eq, Plan.h_eq, Query.h_eq, TDecl.h_eq, Tm.h_eq, Ty.h_eq, Typing.h_eq, Val.h_eq, beq_self_eq_true, Bool.not_true, br_false]
theorem p_toFlatRow (nf : Nat) (x : FRow) (h : 8 * (zFRow x) + 1 < nf) (hn : nf ≤ 2147483647) : m_laws_toFlatRow nf x = some x := by
  have hz := zFRow_f x
  have e0 := p_toKey nf x.outer (by omega) (by omega)
  have e1 := p_toKey nf x.own (by omega) (by omega)
  have e2 := p_toValueS nf x.cols (by omega) (by omega)
  simp only [m_laws_toFlatRow_eq, e0, e1, e2, cb_some, Comp.h_eq, FComp.h_eq, Head.h_eq, Plan.h_eq, Query.h_eq, TDecl.h_eq, Tm.h_eq, Ty.h_eq, Typing.h_eq, Val.h_eq]
theorem p_toFlatRowS (nf : Nat) (x : List FRow) (h : 8 * (szL zFRow x) + 0 < nf) (hn : nf ≤ 2147483647) : m_laws_toFlatRowS nf x = some x := by
  have hal : x.length ≤ szL zFRow x := by unfold szL; omega
  rw [m_laws_toFlatRowS_eq, gg_pos (by omega), mark_eq, Int.toNat_natCast, cpy_zero]
  refine for_loop (fun m i s => l8_laws_toFlatRowS nf m x i s) x.length (fun i => cpy x i FRow.zero) (some x) (fun m i hi => ?_) (fun m => ?_) nf (by omega)
  · have hl := cpy_len x i FRow.zero
    have hz := szL_at zFRow x hi FRow.zero
    have c0 : (i : Int) < (x.length : Int) := by omega
    have c1 : 0 ≤ (i : Int) ∧ (i : Int) < (x.length : Int) := by omega
    have c2 : 0 ≤ (i : Int) ∧ (i : Int) < ((cpy x i FRow.zero).length : Int) := by omega
    have he := p_toFlatRow nf (gt x (i : Int) FRow.zero) (by omega) (by omega)
    simp only [l8_laws_toFlatRowS_eq, br_pos c0, gg_pos c1, gg_pos c2, he, cb_some, Comp.h_eq, FComp.h_eq, Head.h_eq, Plan.h_eq, Query.h_eq, TDecl.h_eq, Tm.h_eq, Ty.h_eq, Typing.h_eq, Val.h_eq, mark_eq, w64_nat (n := i) (by omega), Int.toNat_natCast, cpy_set x _ _ hi]
  · have c0 : ¬ (x.length : Int) < (x.length : Int) := by omega
    simp only [l8_laws_toFlatRowS_eq, br_neg c0, cpy_all x _ (Nat.le_refl _)]
theorem p_szFlatRow (nf : Nat) (x : FRow) (left : Int) (hr : Rd (kR 15) x) (h0 : 0 ≤ left) (h1 : left ≤ 1048576) (hn : 8388700 < nf) : ∃ r, m_laws_szFlatRow nf x left = some r ∧ -1 ≤ r ∧ r ≤ left ∧ (0 ≤ r → r + (zFRow x : Nat) = left) := by
  have hz := zFRow_f x
  obtain ⟨q0, q1, q2, _⟩ : Rd (kR 14) x.outer ∧ Rd (kR 14) x.own ∧ Rd (kL (kR 1)) x.cols ∧ True := hr.st
  obtain ⟨r0, w0, u0, v0, z0⟩ := p_szKey nf x.outer left q0 (by omega) (by omega) (by omega)
  by_cases c0 : r0 < 0
  · exact ⟨-1, by simp only [m_laws_szFlatRow_eq, w0, cb_some, Comp.h_eq, FComp.h_eq, Head.h_eq, Plan.h_eq, Query.h_eq, TDecl.h_eq, Tm.h_eq, Ty.h_eq, Typing.h_eq, Val.h_eq, br_pos c0], by omega, by omega, by omega⟩
  obtain ⟨r1, w1, u1, v1, z1⟩ := p_szKey nf x.own r0 q1 (by omega) (by omega) (by omega)
  by_cases c1 : r1 < 0
  · exact ⟨-1, by simp only [m_laws_szFlatRow_eq, w0, cb_some, br_neg c0, w1, cb_some, Comp.h_eq, FComp.h_eq, Head.h_eq, Plan.h_eq, Query.h_eq, TDecl.h_eq, Tm.h_eq, Ty.h_eq, Typing.h_eq, Val.h_eq, br_pos c1], by omega, by omega, by omega⟩
  obtain ⟨r2, w2, u2, v2, z2⟩ := p_szValueS nf x.cols r1 q2 (by omega) (by omega) (by omega)
  by_cases c2 : r2 < 0
  · exact ⟨-1, by simp only [m_laws_szFlatRow_eq, w0, cb_some, br_neg c0, w1, cb_some, br_neg c1, w2, cb_some, Comp.h_eq, FComp.h_eq, Head.h_eq, Plan.h_eq, Query.h_eq, TDecl.h_eq, Tm.h_eq, Ty.h_eq, Typing.h_eq, Val.h_eq, br_pos c2], by omega, by omega, by omega⟩
  exact ⟨r2, by simp only [m_laws_szFlatRow_eq, w0, cb_some, br_neg c0, w1, cb_some, br_neg c1, w2, cb_some, br_neg c2, Comp.h_eq, FComp.h_eq, Head.h_eq, Plan.h_eq, Query.h_eq, TDecl.h_eq, Tm.h_eq, Ty.h_eq, Typing.h_eq, Val.h_eq], by omega, by omega, by omega⟩
theorem p_szFlatRowS (nf : Nat) (x : List FRow) (left : Int) (hr : Rd (kL (kR 15)) x) (h0 : 0 ≤ left) (h1 : left ≤ 1048576) (hn : 8388700 < nf) : ∃ r, m_laws_szFlatRowS nf x left = some r ∧ -1 ≤ r ∧ r ≤ left ∧ (0 ≤ r → r + (szL zFRow x : Nat) = left) := by
  have hl := hr.len
  have ew : w64 (left - (x.length : Int)) = left - (x.length : Int) := w64_id (by omega) (by omega)
  by_cases hc : left - (x.length : Int) < 0
  · exact ⟨-1, by simp only [m_laws_szFlatRowS_eq, ew, br_pos hc], by omega, by omega, by omega⟩
  simp only [m_laws_szFlatRowS_eq, ew, br_neg hc, mark_eq]
  refine for_rel (fun m i s => l16_laws_szFlatRowS nf m x s i) x.length (fun i s => 0 ≤ s ∧ s + (pfx zFRow x i : Nat) + (x.length : Nat) = left) _ (fun m i s hi hs => ?_) (fun m s hs => ?_) nf _ (by omega) ⟨by omega, by simp only [pfx_zero]; omega⟩
  · have c0 : (i : Int) < (x.length : Int) := by omega
    have c1 : 0 ≤ (i : Int) ∧ (i : Int) < (x.length : Int) := by omega
    have hp := pfx_succ zFRow x hi FRow.zero
    obtain ⟨r, he, q1, q2, q3⟩ := p_szFlatRow nf (gt x (i : Int) FRow.zero) s (hr.at hi FRow.zero) (by omega) (by omega) (by omega)
    by_cases hd : r < 0
    · exact .inl ⟨-1, by simp only [l16_laws_szFlatRowS_eq, br_pos c0, gg_pos c1, he, cb_some, Comp.h_eq, FComp.h_eq, Head.h_eq, Plan.h_eq, Query.h_eq, TDecl.h_eq, Tm.h_eq, Ty.h_eq, Typing.h_eq, Val.h_eq, br_pos hd], by omega, by omega, by omega⟩
    · exact .inr ⟨r, ⟨by omega, by omega⟩, by simp only [l16_laws_szFlatRowS_eq, br_pos c0, gg_pos c1, he, cb_some, Comp.h_eq, FComp.h_eq, Head.h_eq, Plan.h_eq, Query.h_eq, TDecl.h_eq, Tm.h_eq, Ty.h_eq, Typing.h_eq, Val.h_eq, br_neg hd, mark_eq, w64_nat (n := i) (by omega)]⟩
  · have c0 : ¬ (x.length : Int) < (x.length : Int) := by omega
    have hp := pfx_all zFRow x (Nat.le_refl _)
    have hz : szL zFRow x = x.length + (x.map zFRow).sum := rfl
    exact ⟨s, by simp only [l16_laws_szFlatRowS_eq, br_neg c0], by omega, by omega, by omega⟩
theorem p_eqFlatRow (nf : Nat) (x : FRow) (h : 8 * (zFRow x) + 1 < nf) (hn : nf ≤ 2147483647) : m_laws_eqFlatRow nf x x = some true := by
  have hz := zFRow_f x
  have e0 := p_eqKey nf x.outer (by omega) (by omega)
  have e1 := p_eqKey nf x.own (by omega) (by omega)
  have e2 := p_eqValueS nf x.cols (by omega) (by omega)
  simp only [m_laws_eqFlatRow_eq, e0, e1, e2, cb_some, Comp.h_eq, FComp.h_eq, Head.h_eq, Plan.h_eq, Query.h_eq, TDecl.h_eq, Tm.h_eq, Ty.h_eq, Typing.h_eq, Val.h_eq, beq_self_eq_true, Bool.not_true, br_false]
theorem p_eqFlatRowS (nf : Nat) (x : List FRow) (h : 8 * (szL zFRow x) + 0 < nf) (hn : nf ≤ 2147483647) : m_laws_eqFlatRowS nf x x = some true := by
  have hal : x.length ≤ szL zFRow x := by unfold szL; omega
  simp only [m_laws_eqFlatRowS_eq, beq_self_eq_true, Bool.not_true, br_false, mark_eq]
  refine for_loop (fun m i (_ : Unit) => l14_laws_eqFlatRowS nf m x x i) x.length (fun _ => ()) (some true) (fun m i hi => ?_) (fun m => ?_) nf (by omega)
  · have hz := szL_at zFRow x hi FRow.zero
    have c0 : (i : Int) < (x.length : Int) := by omega
    have c1 : 0 ≤ (i : Int) ∧ (i : Int) < (x.length : Int) := by omega
    have he := p_eqFlatRow nf (gt x (i : Int) FRow.zero) (by omega) (by omega)
    simp only [l14_laws_eqFlatRowS_eq, br_pos c0, gg_pos c1, he, cb_some, Comp.h_eq, FComp.h_eq, Head.h_eq, Plan.h_eq, Query.h_eq, TDecl.h_eq, Tm.h_eq, Ty.h_eq, Typing.h_eq, Val.h_eq, Bool.not_true, br_false, mark_eq, w64_nat (n := i) (by omega)]
  · have c0 : ¬ (x.length : Int) < (x.length : Int) := by omega
    simp only [l14_laws_eqFlatRowS_eq, br_neg c0]
theorem p_toFlatRowSS (nf : Nat) (x : List (List FRow)) (h : 8 * (szL (szL zFRow) x) + 0 < nf) (hn : nf ≤ 2147483647) : m_laws_toFlatRowSS nf x = some x := by
  have hal : x.length ≤ szL (szL zFRow) x := by unfold szL; omega
  rw [m_laws_toFlatRowSS_eq, gg_pos (by omega), mark_eq, Int.toNat_natCast, cpy_zero]
  refine for_loop (fun m i s => l8_laws_toFlatRowSS nf m x i s) x.length (fun i => cpy x i ([] : List FRow)) (some x) (fun m i hi => ?_) (fun m => ?_) nf (by omega)
  · have hl := cpy_len x i ([] : List FRow)
    have hz := szL_at (szL zFRow) x hi ([] : List FRow)
    have c0 : (i : Int) < (x.length : Int) := by omega
    have c1 : 0 ≤ (i : Int) ∧ (i : Int) < (x.length : Int) := by omega
    have c2 : 0 ≤ (i : Int) ∧ (i : Int) < ((cpy x i ([] : List FRow)).length : Int) := by omega
    have he := p_toFlatRowS nf (gt x (i : Int) ([] : List FRow)) (by omega) (by omega)
    simp only [l8_laws_toFlatRowSS_eq, br_pos c0, gg_pos c1, gg_pos c2, he, cb_some, Comp.h_eq, FComp.h_eq, Head.h_eq, Plan.h_eq, Query.h_eq, TDecl.h_eq, Tm.h_eq, Ty.h_eq, Typing.h_eq, Val.h_eq, mark_eq, w64_nat (n := i) (by omega), Int.toNat_natCast, cpy_set x _ _ hi]
  · have c0 : ¬ (x.length : Int) < (x.length : Int) := by omega
    simp only [l8_laws_toFlatRowSS_eq, br_neg c0, cpy_all x _ (Nat.le_refl _)]
theorem p_szFlatRowSS (nf : Nat) (x : List (List FRow)) (left : Int) (hr : Rd (kL (kL (kR 15))) x) (h0 : 0 ≤ left) (h1 : left ≤ 1048576) (hn : 8388700 < nf) : ∃ r, m_laws_szFlatRowSS nf x left = some r ∧ -1 ≤ r ∧ r ≤ left ∧ (0 ≤ r → r + (szL (szL zFRow) x : Nat) = left) := by
  have hl := hr.len
  have ew : w64 (left - (x.length : Int)) = left - (x.length : Int) := w64_id (by omega) (by omega)
  by_cases hc : left - (x.length : Int) < 0
  · exact ⟨-1, by simp only [m_laws_szFlatRowSS_eq, ew, br_pos hc], by omega, by omega, by omega⟩
  simp only [m_laws_szFlatRowSS_eq, ew, br_neg hc, mark_eq]
  refine for_rel (fun m i s => l16_laws_szFlatRowSS nf m x s i) x.length (fun i s => 0 ≤ s ∧ s + (pfx (szL zFRow) x i : Nat) + (x.length : Nat) = left) _ (fun m i s hi hs => ?_) (fun m s hs => ?_) nf _ (by omega) ⟨by omega, by simp only [pfx_zero]; omega⟩
  · have c0 : (i : Int) < (x.length : Int) := by omega
    have c1 : 0 ≤ (i : Int) ∧ (i : Int) < (x.length : Int) := by omega
    have hp := pfx_succ (szL zFRow) x hi ([] : List FRow)
    obtain ⟨r, he, q1, q2, q3⟩ := p_szFlatRowS nf (gt x (i : Int) ([] : List FRow)) s (hr.at hi ([] : List FRow)) (by omega) (by omega) (by omega)
    by_cases hd : r < 0
    · exact .inl ⟨-1, by simp only [l16_laws_szFlatRowSS_eq, br_pos c0, gg_pos c1, he, cb_some, Comp.h_eq, FComp.h_eq, Head.h_eq, Plan.h_eq, Query.h_eq, TDecl.h_eq, Tm.h_eq, Ty.h_eq, Typing.h_eq, Val.h_eq, br_pos hd], by omega, by omega, by omega⟩
    · exact .inr ⟨r, ⟨by omega, by omega⟩, by simp only [l16_laws_szFlatRowSS_eq, br_pos c0, gg_pos c1, he, cb_some, Comp.h_eq, FComp.h_eq, Head.h_eq, Plan.h_eq, Query.h_eq, TDecl.h_eq, Tm.h_eq, Ty.h_eq, Typing.h_eq, Val.h_eq, br_neg hd, mark_eq, w64_nat (n := i) (by omega)]⟩
  · have c0 : ¬ (x.length : Int) < (x.length : Int) := by omega
    have hp := pfx_all (szL zFRow) x (Nat.le_refl _)
    have hz : szL (szL zFRow) x = x.length + (x.map (szL zFRow)).sum := rfl
    exact ⟨s, by simp only [l16_laws_szFlatRowSS_eq, br_neg c0], by omega, by omega, by omega⟩
theorem p_eqFlatRowSS (nf : Nat) (x : List (List FRow)) (h : 8 * (szL (szL zFRow) x) + 0 < nf) (hn : nf ≤ 2147483647) : m_laws_eqFlatRowSS nf x x = some true := by
  have hal : x.length ≤ szL (szL zFRow) x := by unfold szL; omega
  simp only [m_laws_eqFlatRowSS_eq, beq_self_eq_true, Bool.not_true, br_false, mark_eq]
  refine for_loop (fun m i (_ : Unit) => l14_laws_eqFlatRowSS nf m x x i) x.length (fun _ => ()) (some true) (fun m i hi => ?_) (fun m => ?_) nf (by omega)
  · have hz := szL_at (szL zFRow) x hi ([] : List FRow)
    have c0 : (i : Int) < (x.length : Int) := by omega
    have c1 : 0 ≤ (i : Int) ∧ (i : Int) < (x.length : Int) := by omega
    have he := p_eqFlatRowS nf (gt x (i : Int) ([] : List FRow)) (by omega) (by omega)
    simp only [l14_laws_eqFlatRowSS_eq, br_pos c0, gg_pos c1, he, cb_some, Comp.h_eq, FComp.h_eq, Head.h_eq, Plan.h_eq, Query.h_eq, TDecl.h_eq, Tm.h_eq, Ty.h_eq, Typing.h_eq, Val.h_eq, Bool.not_true, br_false, mark_eq, w64_nat (n := i) (by omega)]
  · have c0 : ¬ (x.length : Int) < (x.length : Int) := by omega
    simp only [l14_laws_eqFlatRowSS_eq, br_neg c0]
end Go.Q
