/- TypeOf, IsQuery and CountQueries: both sides answer the same. -/
import Derived.Test.YtjogpopbgmjlbaaGreatU9q
set_option linter.unusedVariables false
set_option linter.unusedSimpArgs false
set_option linter.unusedVariables false
set_option linter.unusedSimpArgs false
set_option maxHeartbeats 2000000
namespace Go.Q
def typO (s : Schema) (ctx : List Typing) (e : Tm) : Option Ty := if (nSchema s && (nCtx ctx && nValT e)) = true then nT s 16 ctx e else none
theorem typO_val {s : Schema} {ctx : List Typing} {e : Tm} {t : Ty} (h : typO s ctx e = some t) : nVal t = true := by
  unfold typO at h
  split at h
  · exact nT_val h
  · cases h
theorem schema_rows {s : Schema} (h : nSchema s = true) : ∀ x ∈ s.tables, nVal x.row = true := fun x hx => by
  simp only [nSchema, Bool.and_eq_true] at h
  have := List.all_eq_true.1 h.1 x hx
  simp only [nRow, Bool.and_eq_true] at this
  exact this.2.1
theorem ctx_cx {c : List Typing} (h : nCtx c = true) : Cx c 16 := by
  simp only [nCtx, Bool.and_eq_true, decide_eq_true_eq] at h
  refine ⟨by omega, fun i hi => ?_⟩
  have := all_at h.1 hi Typing.zero
  simp only [Bool.and_eq_true] at this
  exact this.2
theorem p_implTypeOf (nf : Nat) (hn : 200000000 < nf) (s : Schema) (c : List Typing) (e : Tm) (hS : 8 * zSchema s + 1 < nf) (hSb : zSchema s ≤ 16777216) (hc : 8 * szL zTyping c + 1 < nf) (hcb : szL zTyping c ≤ 16777216) (he : 8 * zTm e + 1 < nf) (heb : zTm e ≤ 16777216) : m_impl_TypeOf nf s c e = some (ansO (typO s c e)) := by
  rw [m_impl_TypeOf_eq, p_implSchema nf s hS hSb, cb_some, p_implCtx nf c hc hcb, cb_some, p_implValT nf e he heb, cb_some]
  have h5 : j5_impl_TypeOf nf c e s true = some (ansO none) := by rw [j5_impl_TypeOf_eq, br_true]; rfl
  simp only [mark_eq]
  unfold typO
  cases h1 : nSchema s with
  | false => rw [Bool.not_false, br_tf, h5]; rfl
  | true =>
    cases h2 : nCtx c with
    | false => rw [Bool.not_true, br_ff2, Bool.not_false, br_tf, h5]; rfl
    | true =>
      cases h3 : nValT e with
      | false => rw [Bool.not_true, br_ff2, br_ff2, Bool.not_false, h5]; rfl
      | true =>
        have h3' := h3
        simp only [nValT, Bool.and_eq_true, decide_eq_true_eq] at h3'
        obtain ⟨r, er, g1, g2⟩ := T_impl nf hn s hS hSb (schema_rows h1) 16 nf c e (by omega) h3'.2.1 (ctx_cx h2) h3'.2.2 he heb
        rw [Bool.not_true, br_ff2, br_ff2, j5_impl_TypeOf_eq, br_false, er, cb_some, show (if (true && (true && true)) = true then nT s 16 c e else none) = nT s 16 c e from rfl]
        cases ht : nT s 16 c e with
        | none =>
          rw [ht] at g1
          rw [g1]; rfl
        | some t =>
          rw [ht] at g1 g2
          have hz := val_z (nT_val ht)
          rw [g1, g2 t rfl, show (!(some t : Option Ty).isSome) = false from rfl, br_false, Ty.h_eq, p_cloneType nf nf t (by omega) (by omega) (by omega), cb_some, Ty.h_eq]
          rfl
theorem p_specTypeOf (nf : Nat) (hn : 200000000 < nf) (s : Schema) (c : List Typing) (e : Tm) (hS : 8 * zSchema s + 1 < nf) (hSb : zSchema s ≤ 16777216) (hc : 8 * szL zTyping c + 1 < nf) (hcb : szL zTyping c ≤ 16777216) (he : 8 * zTm e + 1 < nf) (heb : zTm e ≤ 16777216) : m_spec_TypeOf nf s c e = some (ansO (typO s c e)) := by
  rw [m_spec_TypeOf_eq, p_specSchema nf s hS hSb, cb_some, p_specCtx nf c hc hcb, cb_some, Tm.h_eq, p_specValT nf e he heb, cb_some]
  have h5 : j5_spec_TypeOf nf c s e true = some (ansO none) := by rw [j5_spec_TypeOf_eq, br_true]; rfl
  simp only [mark_eq]
  unfold typO
  cases h1 : nSchema s with
  | false => rw [Bool.not_false, br_tf, h5]; rfl
  | true =>
    cases h2 : nCtx c with
    | false => rw [Bool.not_true, br_ff2, Bool.not_false, br_tf, h5]; rfl
    | true =>
      cases h3 : nValT e with
      | false => rw [Bool.not_true, br_ff2, br_ff2, Bool.not_false, h5]; rfl
      | true =>
        have h3' := h3
        simp only [nValT, Bool.and_eq_true, decide_eq_true_eq] at h3'
        obtain ⟨r, er, ⟨g1, g2⟩, g3⟩ := T_spec nf hn s hS hSb (schema_rows h1) 16 nf c e (by omega) h3'.2.1 (ctx_cx h2) h3'.2.2 he heb
        rw [Bool.not_true, br_ff2, br_ff2, j5_spec_TypeOf_eq, br_false, Tm.h_eq, er, cb_some, show (if (true && (true && true)) = true then nT s 16 c e else none) = nT s 16 c e from rfl, Ty.h_eq]
        cases ht : nT s 16 c e with
        | none =>
          rw [ht] at g1 g3
          rw [g1, g3 rfl]; rfl
        | some t =>
          rw [ht] at g1 g2
          rw [g1, g2 t rfl]; rfl
/-- A query. -/
def isQ (s : Schema) (e : Tm) : Bool := (typO s [] e).isSome && (((ansO (typO s [] e)).1.kind == 4) && (nVal (ansO (typO s [] e)).1 && !nHas 5 (ansO (typO s [] e)).1))
theorem typO_z (s : Schema) (c : List Typing) (e : Tm) : zTy (ansO (typO s c e)).1 ≤ 527 := by
  cases h : typO s c e with
  | none => have : zTy (ansO none).1 = 0 := zZero; omega
  | some t => exact val_z (typO_val h)
theorem ansO_2 (o : Option Ty) : (ansO o).2 = o.isSome := by cases o <;> rfl
theorem p_queryType (nf : Nat) (hn : 200000000 < nf) (s : Schema) (e : Tm) (hS : 8 * zSchema s + 1 < nf) (hSb : zSchema s ≤ 16777216) (he : 8 * zTm e + 1 < nf) (heb : zTm e ≤ 16777216) : m_impl_queryType nf s e = some ((ansO (typO s [] e)).1, isQ s e) := by
  have hz := typO_z s [] e
  rw [m_impl_queryType_eq, Tm.h_eq, p_implTypeOf nf hn s [] e hS hSb (by simp [szL]; omega) (by simp [szL]) he heb, cb_some, Ty.h_eq, p_implData nf _ (by omega) (by omega), cb_some, ansO_2]
  unfold isQ
  generalize ((ansO (typO s [] e)).1.kind == (4 : Int)) = k
  cases (typO s [] e).isSome <;> cases k <;> rfl
theorem p_specIsQ (nf : Nat) (hn : 200000000 < nf) (s : Schema) (e : Tm) (hS : 8 * zSchema s + 1 < nf) (hSb : zSchema s ≤ 16777216) (he : 8 * zTm e + 1 < nf) (heb : zTm e ≤ 16777216) : m_spec_IsQuery nf s e = some (isQ s e) := by
  have hz := typO_z s [] e
  rw [m_spec_IsQuery_eq, Tm.h_eq, p_specTypeOf nf hn s [] e hS hSb (by simp [szL]; omega) (by simp [szL]) he heb, cb_some, Ty.h_eq, p_specData nf _ (by omega) (by omega), cb_some, ansO_2]
  unfold isQ
  generalize ((ansO (typO s [] e)).1.kind == (4 : Int)) = k
  cases (typO s [] e).isSome <;> cases k <;> rfl
def bagBit (k : Int) : Nat := if k = 4 then 1 else 0
theorem bagBit_le (k : Int) : bagBit k ≤ 1 := by unfold bagBit; split <;> omega
mutual
def nCB : Ty → Nat
  | .mk k _ c => bagBit k + nCBL c
def nCBL : List Ty → Nat
  | [] => 0
  | t :: ts => nCB t + nCBL ts
end
theorem nCB_eq (t : Ty) : nCB t = bagBit t.kind + nCBL t.args := by cases t; simp only [nCB, Ty.args_mk, Ty.kind_mk]
theorem nCBL_sum : ∀ ts : List Ty, nCBL ts = (ts.map nCB).sum
  | [] => rfl
  | t :: ts => by simp [nCBL, nCBL_sum ts]
theorem nCBL_take (ts : List Ty) {i : Nat} (h : i < ts.length) : nCBL (ts.take (i + 1)) = nCBL (ts.take i) + nCB (gt ts (i : Int) Ty.zero) := by
  rw [← take_gt ts h Ty.zero, nCBL_sum, nCBL_sum]
  simp
theorem nCBL_le (ts : List Ty) (i : Nat) : nCBL (ts.take i) ≤ nCBL ts := by
  rw [nCBL_sum, nCBL_sum]
  conv => rhs; rw [← List.take_append_drop i ts]
  rw [List.map_append, List.sum_append]
  omega
mutual
theorem nCB_le : ∀ t : Ty, nCB t ≤ nSz t
  | .mk k l c => by
    rw [nCB_eq, nSz_eq]
    simp only [Ty.args_mk, Ty.kind_mk]
    have := nCBL_le2 c
    have := bagBit_le k
    omega
theorem nCBL_le2 : ∀ ts : List Ty, nCBL ts ≤ nSzL ts
  | [] => by simp [nCBL]
  | t :: ts => by
    have h1 := nCB_le t
    have h2 := nCBL_le2 ts
    simp only [nCBL, nSzL]
    omega
end
theorem p_specCB (nf : Nat) : ∀ (kf : Nat) (t : Ty), 8 * zTy t + 1 < kf → 8 * zTy t + 1 < nf → zTy t ≤ 16777216 → m_spec_CountBags nf kf t = some (nCB t : Int)
  | 0, t, h, _, _ => absurd h (Nat.not_lt_zero _)
  | kf + 1, t, h, h', hb => by
    have hz := zTy_f t
    have l2 : t.args.length ≤ szL zTy t.args := by unfold szL; omega
    have hn := nCB_eq t
    have h1 := nCB_le t
    have hsz := nSz_le t
    have hbit : m_spec_l1Bit nf (t.kind == (4 : Int)) = some ((bagBit t.kind + nCBL (t.args.take 0) : Nat) : Int) := by
      have bk : (t.kind == (4 : Int)) = decide (t.kind = 4) := rfl
      rw [m_spec_l1Bit_eq, bk]
      unfold bagBit
      by_cases h4 : t.kind = 4
      · rw [decide_eq_true h4, if_pos h4]; rfl
      · rw [decide_eq_false h4, if_neg h4]; rfl
    rw [m_spec_CountBags_eq, hbit, cb_some, mark_eq]
    refine for_loop (fun m i (s : Int) => l8_spec_CountBags nf (kf + 1) m t s i) t.args.length (fun i => ((bagBit t.kind + nCBL (t.args.take i) : Nat) : Int)) _ (fun m i hi => ?_) (fun m => ?_) nf (by omega)
    · have c0 : (i : Int) < (t.args.length : Int) := by omega
      have c1 : 0 ≤ (i : Int) ∧ (i : Int) < (t.args.length : Int) := by omega
      have hs := szL_at zTy t.args hi Ty.zero
      have e := p_specCB nf kf (gt t.args (i : Int) Ty.zero) (by omega) (by omega) (by omega)
      have hle := nCBL_le t.args (i + 1)
      have htk := nCBL_take t.args hi
      have ew : w64 (((bagBit t.kind + nCBL (t.args.take i) : Nat) : Int) + (nCB (gt t.args (i : Int) Ty.zero) : Int)) = ((bagBit t.kind + nCBL (t.args.take (i + 1)) : Nat) : Int) := by
        rw [w64_id (by omega) (by omega)]; omega
      rw [l8_spec_CountBags_eq, br_pos c0, gg_pos c1, e, cb_some, mark_eq, w64_nat (n := i) (by omega), ew]
    · have c0 : ¬ (t.args.length : Int) < (t.args.length : Int) := by omega
      rw [l8_spec_CountBags_eq, br_neg c0, List.take_length, ← hn]
theorem p_implCB (nf : Nat) : ∀ (kf : Nat) (t : Ty), 8 * zTy t + 1 < kf → 8 * zTy t + 1 < nf → zTy t ≤ 16777216 → m_impl_CountBags nf kf t = some (nCB t : Int)
  | 0, t, h, _, _ => absurd h (Nat.not_lt_zero _)
  | kf + 1, t, h, h', hb => by
    have hz := zTy_f t
    have l2 : t.args.length ≤ szL zTy t.args := by unfold szL; omega
    have hn := nCB_eq t
    have h1 := nCB_le t
    have hsz := nSz_le t
    have key : ∀ a : Nat, a ≤ 1 → a = bagBit t.kind → j10_impl_CountBags nf (kf + 1) t (a : Int) = some (nCB t : Int) := by
      intro a ha hae
      rw [j10_impl_CountBags_eq, mark_eq]
      have st0 : (a : Int) = ((a + nCBL (t.args.take 0) : Nat) : Int) := by simp [nCBL]
      rw [st0]
      refine for_loop (fun m i (s : Int) => l14_impl_CountBags nf (kf + 1) m t s i) t.args.length (fun i => ((a + nCBL (t.args.take i) : Nat) : Int)) _ (fun m i hi => ?_) (fun m => ?_) nf (by omega)
      · have c0 : (i : Int) < (t.args.length : Int) := by omega
        have c1 : 0 ≤ (i : Int) ∧ (i : Int) < (t.args.length : Int) := by omega
        have hs := szL_at zTy t.args hi Ty.zero
        have e := p_implCB nf kf (gt t.args (i : Int) Ty.zero) (by omega) (by omega) (by omega)
        have hle := nCBL_le t.args (i + 1)
        have htk := nCBL_take t.args hi
        have ew : w64 (((a + nCBL (t.args.take i) : Nat) : Int) + (nCB (gt t.args (i : Int) Ty.zero) : Int)) = ((a + nCBL (t.args.take (i + 1)) : Nat) : Int) := by
          rw [w64_id (by omega) (by omega)]; omega
        rw [l14_impl_CountBags_eq, br_pos c0, gg_pos c1, Ty.h_eq, e, cb_some, mark_eq, w64_nat (n := i) (by omega), ew]
      · have c0 : ¬ (t.args.length : Int) < (t.args.length : Int) := by omega
        rw [l14_impl_CountBags_eq, br_neg c0, List.take_length, hn, hae]
    have bk : (t.kind == (4 : Int)) = decide (t.kind = 4) := rfl
    rw [m_impl_CountBags_eq, bk]
    by_cases h4 : t.kind = 4
    · rw [decide_eq_true h4, br_true, mark_eq]
      exact key 1 (by omega) (by unfold bagBit; rw [if_pos h4])
    · rw [decide_eq_false h4, br_false, mark_eq]
      exact key 0 (by omega) (by unfold bagBit; rw [if_neg h4])
def nCQ (s : Schema) (e : Tm) : Int := if isQ s e = true then (nCB (ansO (typO s [] e)).1 : Int) else -1
theorem p_implCQ (nf : Nat) (hn : 200000000 < nf) (s : Schema) (e : Tm) (hS : 8 * zSchema s + 1 < nf) (hSb : zSchema s ≤ 16777216) (he : 8 * zTm e + 1 < nf) (heb : zTm e ≤ 16777216) : m_impl_CountQueries nf s e = some (nCQ s e) := by
  have hz := typO_z s [] e
  rw [m_impl_CountQueries_eq, Tm.h_eq, p_queryType nf hn s e hS hSb he heb, cb_some, Ty.h_eq]
  dsimp only
  rw [p_implCB nf nf _ (by omega) (by omega) (by omega), cb_some]
  unfold nCQ
  cases isQ s e <;> rfl
theorem p_specCQ (nf : Nat) (hn : 200000000 < nf) (s : Schema) (e : Tm) (hS : 8 * zSchema s + 1 < nf) (hSb : zSchema s ≤ 16777216) (he : 8 * zTm e + 1 < nf) (heb : zTm e ≤ 16777216) : m_spec_CountQueries nf s e = some (nCQ s e) := by
  have hz := typO_z s [] e
  rw [m_spec_CountQueries_eq, Tm.h_eq, p_specIsQ nf hn s e hS hSb he heb, cb_some, p_specTypeOf nf hn s [] e hS hSb (by simp [szL]; omega) (by simp [szL]) he heb, cb_some, Ty.h_eq, p_specCB nf nf _ (by omega) (by omega) (by omega), cb_some]
  unfold nCQ
  cases isQ s e <;> rfl
end Go.Q
