/- Regions, code, loops and functions: for every program of the model. -/
import Derived.Test.YtkbanchknllcnaaQc
import Derived.Orders
import Derived.Control
set_option linter.unusedVariables false
set_option linter.unusedSimpArgs false
set_option linter.unusedVariables false
namespace Go.Q
/-- An instruction, against the operations of its region. -/
def I.gm (P : Program) (N : Nat) (ops : List Oper) : I → Oper → Bool
  | .g t b i, o => (match o.guard with
    | some (j, want) => want == b && ((ops[j]?).bind (·.dst)) == some t && i.dst == o.dst && (match i.dst with | some d => decide (d < N) | none => true) && i.m P N o
    | none => false)
  | i, o => o.guard.isNone && i.m P N o
def gms (P : Program) (N : Nat) (ops : List Oper) : List I → List Oper → Bool
  | [], [] => true
  | i :: is, o :: os => i.gm P N ops o && gms P N ops is os
  | _, _ => false
section
variable {S : FuncId → List SA → RA → Prop} {P : Program} {N : Nat} {G : Gd} {σ : Lab → Value} {ow : Own} {w : World} {a : Act} {Γ : Env} {K : Env → Prop} {Q : Exit → Act → World → Prop} {o : Oper}
theorem snd_i (hS : ∀ f as r, S f as r → Sp P f as r) (hr : Rep N G σ ow w a Γ) {i : I} (hm : i.m P N o = true) (hv : vi S i Γ K) : o.wp P a w (Post N G ow w K) Q := by
  cases i with
  | mv d x => exact snd_mv hr hm hv
  | nck d x => exact snd_nck hr hm hv
  | un d u x => exact snd_un hr hm hv
  | bi d b x y => exact snd_bi hr hm hv
  | be d b x y => exact snd_be hr hm hv
  | pk d c x y => exact snd_pk hr hm hv
  | fa d x n j off => exact snd_fa hr hm hv
  | ia d x y c => exact snd_ia hr hm hv
  | ld d x c => exact snd_ld hr hm hv
  | st x y c => exact snd_st hr hm hv
  | bx d x c => exact snd_bx hr hm hv
  | al d c => exact snd_al hr hm hv
  | ln d b x => exact snd_ln hr hm hv
  | mk d p c n => exact snd_mk hr hm hv
  | cv d f xs => exact snd_cv hS hr hm hv
  | ca d f xs => exact snd_ca hS hr hm hv
  | cf d x xs => exact snd_cf hS hr hm hv
  | mf d f xs => exact snd_mf hr hm hv
  | bs d dp c xs => exact snd_bs hr hm hv
  | bd d n ps => exact snd_bd hr hm hv
  | an d dp c x y => exact snd_an hr hm hv
  | ap d L dp c x y => exact snd_ap hr hm hv
  | ge d ne x y => exact snd_ge hr hm hv
  | ci d k x => exact snd_ci hr hm hv
  | cs d x => exact snd_cs hr hm hv
  | ix d x i => exact snd_ix hr hm hv
  | sx d x lo hi => exact snd_sx hr hm hv
  | sa d L x y => exact snd_sa hr hm hv
  | sf x y c => exact snd_sf hr hm hv
  | cw d f c x y => exact snd_cw hS hr hm hv
  | cg d f c x y => exact snd_cg hS hr hm hv
  | cq d f xs => exact snd_cq hS hr hm hv
  | cfq d x xs => exact snd_cfq hS hr hm hv
  | xt d x i => exact snd_xt hr hm hv
  | pn x => exact hv.elim
  | nm d => exact snd_nm hr hm hv
  | ss d x lo hi c => exact snd_ss hr hm hv
  | sm d x lo hi mx c => exact snd_sm hr hm hv
  | s0 d x c => exact snd_s0 hr hm hv
  | af d c x y => exact snd_af hr hm hv
  | bf d c xs => exact snd_bf hr hm hv
  | bz d x c => exact snd_bz hr hm hv
  | rn d L x => exact snd_rn hr hm hv
  | nq d ne p x => exact snd_nq hr hm hv
  | bl d c xs => exact snd_bl hr hm hv
  | apl d L c x t => exact snd_apl hr hm hv
  | fz d x c => exact snd_fz hr hm hv
  | bo d c xs => exact snd_bo hr hm hv
  | mm d kk vk => exact snd_mm hr hm hv
  | mu m k v kk vk => exact snd_mu hr hm hv
  | ml d m k kk vk ok => exact snd_ml hr hm hv
  | ml2 d m => exact snd_ml2 hr hm hv
  | g t b i => simp [I.m] at hm
theorem Post.trans {ow' : Own} {w' : World} {K' : Env → Prop} {a' : Act} (he : Ext ow w ow' w') {b : Act} {v : World} (h : Post N G ow' w' K b v) : Post N G ow w K b v := by
  obtain ⟨Γ', σ', o', hk, hr, h2⟩ := h
  exact ⟨Γ', σ', o', hk, hr, he.trans h2⟩
theorem Rep.skip (hr : Rep N G σ ow w a Γ) {d : Option Nat} (hd : ∀ x, d = some x → x < N) : Rep N G σ ow w (a.put d undef) (Γ.skip d) := by
  cases d with
  | none => exact hr
  | some d => exact hr.put (hd d rfl) (by simp [RepV, RepU, AV.isS, RepC])
theorem yielded_of {ops : List Oper} {j t : Nat} (hj : ((ops[j]?).bind (·.dst)) = some t) (hr : Rep N G σ ow w a Γ) {x : Bool} (hx : lk Γ.tm t = some (.v .bool x)) (ht : t < N) : yielded ops.toArray a.tmps j = some x := by
  have h := hr.tm t _ hx
  have : a.tmps.getD t undef = .bool x := by
    simpa [RepV, RepU, AV.isS, RepC, Kx_bool] using h
  have hsz : t < a.tmps.size := hr.size ▸ ht
  simp only [yielded, List.getElem?_toArray, hj, Option.bind_some]
  simp only [Array.getD_eq_getD_getElem?, Array.getElem?_eq_getElem hsz, Option.getD_some] at this
  simp only [Array.getElem?_eq_getElem hsz, this]
theorem yielded_ud {ops : List Oper} {j t : Nat} (hj : ((ops[j]?).bind (·.dst)) = some t) (hr : Rep N G σ ow w a Γ) (hx : lk Γ.tm t = some .ud) : yielded ops.toArray a.tmps j = none := by
  have h := hr.tm t _ hx
  have h2 : a.tmps.getD t undef = undef := by
    simpa [RepV, RepU, AV.isS, RepC] using h
  simp only [yielded, List.getElem?_toArray, hj, Option.bind_some]
  rw [Array.getD_eq_getD_getElem?] at h2
  cases h3 : a.tmps[t]? with
  | none => rfl
  | some u =>
    rw [h3] at h2
    simp only [Option.getD_some] at h2
    subst h2
    rfl
/-- A value that the environment has is in the frame. -/
theorem lk_lt (hr : Rep N G σ ow w a Γ) {t : Nat} {x : Bool} (hx : lk Γ.tm t = some (.v .bool x)) : t < N := by
  have h := hr.tm t _ hx
  rcases Nat.lt_or_ge t N with h' | h'
  · exact h'
  · have e : a.tmps.getD t undef = undef := by
      simp [Array.getD_eq_getD_getElem?, Array.getElem?_eq_none (hr.size ▸ h')]
    rw [e] at h
    simp [RepV, RepU, AV.isS, RepC, Kx_bool, undef] at h
theorem Rep.same (hr : Rep N G σ ow w a Γ) {t : Nat} {x : AV} (hx : lk Γ.tm t = some x) : Rep N G σ ow w a ⟨(t, x) :: Γ.tm, Γ.ob⟩ :=
  ⟨hr.size, hr.defers, fun t' x' h => by
    simp only [lk] at h
    split at h
    · rename_i e
      subst e
      simp only [Option.some.injEq] at h
      subst h
      exact hr.tm _ _ hx
    · exact hr.tm _ _ h, hr.ob, hr.own, hr.top, hr.pin, hr.big⟩
theorem snd_g (hS : ∀ f as r, S f as r → Sp P f as r) (hr : Rep N G σ ow w a Γ) {i : I} {ops : List Oper} (hm : i.gm P N ops o = true) (hv : vi S i Γ K) :
    if Region.wanted o (yielded ops.toArray a.tmps) then o.wp P a w (Post N G ow w K) Q else Post N G ow w K (a.put o.dst undef) w := by
  by_cases hg : ∃ t b i', i = .g t b i'
  · obtain ⟨t, b, i', rfl⟩ := hg
    simp only [I.gm] at hm
    split at hm
    · rename_i j want hgu
      simp only [Bool.and_eq_true, beq_iff_eq] at hm
      obtain ⟨⟨⟨⟨rfl, hj⟩, hd⟩, hlt⟩, hm⟩ := hm
      obtain ⟨av, hl, hv⟩ := need_iff hv
      split at hv
      · rename_i x
        have hy := yielded_of hj hr hl (lk_lt hr hl)
        have hs := hr.same hl
        simp only [Region.wanted, hgu, hy]
        by_cases hx : x = want
        · subst hx
          simp only [beq_self_eq_true, if_true]
          exact snd_i hS hs hm (hv.1 rfl)
        · have hx' : x = !want := by cases x <;> cases want <;> simp_all
          subst hx'
          have : (some (!want) == some want) = false := by cases want <;> rfl
          rw [this]
          simp only [Bool.false_eq_true, if_false]
          rw [← hd]
          refine ⟨_, σ, ow, hv.2 rfl, hs.skip fun x hx => ?_, Ext.refl ow w⟩
          simpa [hx] using hlt
      · have hy := yielded_ud hj hr hl
        simp only [Region.wanted, hgu, hy]
        have : ((none : Option Bool) == some want) = false := rfl
        rw [this]
        simp only [Bool.false_eq_true, if_false]
        rw [← hd]
        refine ⟨_, σ, ow, hv, hr.skip fun x hx => ?_, Ext.refl ow w⟩
        simpa [hx] using hlt
      · exact hv.elim
    · cases hm
  · have hm' : (o.guard.isNone && i.m P N o) = true := by
      cases i <;> first | exact hm | (exfalso; exact hg ⟨_, _, _, rfl⟩)
    simp only [Bool.and_eq_true] at hm'
    have hgn : o.guard = none := by simpa using hm'.1
    simp only [Region.wanted, hgn, if_true]
    exact snd_i hS hr hm'.2 hv
theorem snd_is (hS : ∀ f as r, S f as r → Sp P f as r) {ops : List Oper} : ∀ {is : List I} {l : List Oper} {ow : Own} {w : World} {σ : Lab → Value} {a : Act} {Γ : Env}, gms P N ops is l = true → Rep N G σ ow w a Γ → vs S is Γ K →
    (∀ a' w', Post N G ow w K a' w' → Q .normal a' w') → wpList P ops.toArray Q l a w
  | [], [], ow, w, σ, a, Γ, _, hr, hv, hQ => hQ _ _ ⟨Γ, σ, ow, hv, hr, Ext.refl ow w⟩
  | [], _ :: _, _, _, _, _, _, hm, _, _, _ => by simp [gms] at hm
  | _ :: _, [], _, _, _, _, _, hm, _, _, _ => by simp [gms] at hm
  | i :: is, o :: os, ow, w, σ, a, Γ, hm, hr, hv, hQ => by
    simp only [gms, Bool.and_eq_true] at hm
    have h1 := snd_g (Q := Q) hS hr hm.1 hv
    have next : ∀ a' w', Post N G ow w (fun Γ' => vs S is Γ' K) a' w' → wpList P ops.toArray Q os a' w' := fun a' w' h => by
      obtain ⟨Γ', σ', ow', hk, hr', he⟩ := h
      exact snd_is hS hm.2 hr' hk fun a2 w2 h2 => hQ _ _ (Post.trans (a' := a2) (K' := K) he h2)
    refine wpList_step fun K' hK' => ?_
    split
    · rename_i hw
      rw [if_pos hw] at h1
      exact Oper.wp_mono (fun a' w' h => hK' _ _ (next a' w' h)) h1
    · rename_i hw
      rw [if_neg hw] at h1
      exact hK' _ _ (next _ _ h1)
theorem snd_pre (hS : ∀ f as r, S f as r → Sp P f as r) {ops : List Oper} {rest : List Oper} : ∀ {is : List I} {l : List Oper} {ow : Own} {w : World} {σ : Lab → Value} {a : Act} {Γ : Env}, gms P N ops is l = true → Rep N G σ ow w a Γ → vs S is Γ K →
    (∀ a' w', Post N G ow w K a' w' → wpList P ops.toArray Q rest a' w') → wpList P ops.toArray Q (l ++ rest) a w
  | [], [], ow, w, σ, a, Γ, _, hr, hv, hQ => hQ _ _ ⟨Γ, σ, ow, hv, hr, Ext.refl ow w⟩
  | [], _ :: _, _, _, _, _, _, hm, _, _, _ => by simp [gms] at hm
  | _ :: _, [], _, _, _, _, _, hm, _, _, _ => by simp [gms] at hm
  | i :: is, o :: os, ow, w, σ, a, Γ, hm, hr, hv, hQ => by
    simp only [gms, Bool.and_eq_true] at hm
    have h1 := snd_g (Q := Q) hS hr hm.1 hv
    have next : ∀ a' w', Post N G ow w (fun Γ' => vs S is Γ' K) a' w' → wpList P ops.toArray Q (os ++ rest) a' w' := fun a' w' h => by
      obtain ⟨Γ', σ', ow', hk, hr', he⟩ := h
      exact snd_pre hS hm.2 hr' hk fun a2 w2 h2 => hQ _ _ (Post.trans (a' := a2) (K' := K) he h2)
    rw [List.cons_append]
    refine wpList_step fun K' hK' => ?_
    split
    · rename_i hw
      rw [if_pos hw] at h1
      exact Oper.wp_mono (fun a' w' h => hK' _ _ (next a' w' h)) h1
    · rename_i hw
      rw [if_neg hw] at h1
      exact hK' _ _ (next _ _ h1)
/-- Three operations: a slice is read out of an element's field, a number is moved, the call that writes into the slice. -/
def lcM (P : Program) (N : Nat) (d1 : Nat) (x : O) (d2 : Nat) (y : O) (d : Nat) (f : FuncId) (c : Ki) (o1 o2 o3 : Oper) : Bool :=
  o1.guard.isNone && o2.guard.isNone && o3.guard.isNone && (d1 != d2) &&
  (match o1.op with | .load t x' => dstOk N d1 o1 && x.m x' && tk P t (.slice c) | _ => false) &&
  (match o2.op with | .move y' => dstOk N d2 o2 && y.m y' | _ => false) &&
  (match o3.op with | .call { callee := .value (.func f'), args := ⟨[.tmp t1, .tmp t2]⟩, .. } => dstOk N d o3 && f == f' && callOk P f && t1 == d1 && t2 == d2 | _ => false)
def rlM (P : Program) (N : Nat) (is : List I) (d1 : Nat) (x : O) (d2 : Nat) (y : O) (d : Nat) (f : FuncId) (c : Ki) (js : List I) (ops : List Oper) : Bool :=
  match ops.drop is.length with
  | o1 :: o2 :: o3 :: l2 => gms P N ops is (ops.take is.length) && lcM P N d1 x d2 y d f c o1 o2 o3 && gms P N ops js l2
  | _ => false
theorem eval_put (a : Act) {d : Nat} {v : Value} (hd : d < a.tmps.size) (t : Nat) : (a.put (some d) v).eval (.tmp t) = if d = t then v else a.eval (.tmp t) := by
  have := getD_put a d t v hd
  simpa [Act.eval, Array.getD_eq_getD_getElem?] using this
theorem snd_lc1 (hS : ∀ f as r, S f as r → Sp P f as r) {ops : Array Oper} {rest : List Oper} (hr : Rep N G σ ow w a Γ) {d1 x d2 y d f c o1 o2 o3} (hm : lcM P N d1 x d2 y d f c o1 o2 o3 = true) {l : Lab} {n off : Nat} {i : Int} (hx : ev Γ x = some (.ep l (.struct n) i off)) (hv : need (lo Γ.ob l) fun
      | .row true p c2 xs => need (Ob.as (.struct n) (.row true p c2 xs)) fun (xs : List (Sty n)) => need (ev (Γ.put d1 .no) y) fun
        | .v (.int kk) (j : Int) => kk = .i64 ∧ 0 ≤ i ∧ i < (xs.length : Int) ∧ need ((lvs n (gt xs i (Ki.struct n).z))[off]?) fun b => need (AV.as (.slice c) b) fun (ys : List c.T) =>
            ∃ q, S f [.io (.slice c) ys, .v kI j] q ∧ q.isW = true ∧ need (wAs (.slice c) q) fun (zs : List c.T) => need (fset n off (gt xs i (Ki.struct n).z) (.v (.slice c) zs)) fun x' =>
              K (Env.put ⟨((Γ.put d1 .no).put d2 (.v kI j)).tm, (l, .row true p (.struct n) (xs.set i.toNat x')) :: Γ.ob⟩ d (.v kI q.wn))
        | _ => False
      | _ => False)
    (hQ : ∀ a' w', Post N G ow w K a' w' → wpList P ops Q rest a' w') : wpList P ops Q (o1 :: o2 :: o3 :: rest) a w := by
  obtain ⟨q, hq, hv⟩ := need_iff hv
  split at hv
  rotate_left
  · exact hv.elim
  rename_i p c' xs0
  obtain ⟨xs, hxs, hv2⟩ := need_iff hv
  clear hv
  have e := oas_eq hxs
  clear hxs
  cases e
  obtain ⟨yv, hy, hv⟩ := need_iff hv2
  split at hv
  rotate_left
  · exact hv.elim
  rename_i kk j
  obtain ⟨rfl, h0, h1, hv⟩ := hv
  obtain ⟨b, hb, hv⟩ := need_iff hv
  obtain ⟨ys, hys, r, hs, hw, hv⟩ := need_iff hv
  obtain ⟨zs, hzs, hv⟩ := need_iff hv
  obtain ⟨x', hx', hk⟩ := need_iff hv
  rw [as_leaf hys] at hb
  simp only [lcM, Bool.and_eq_true, bne_iff_ne, ne_eq] at hm
  obtain ⟨⟨⟨⟨⟨⟨g1, g2⟩, g3⟩, hne⟩, m1⟩, m2⟩, m3⟩ := hm
  split at m1
  rotate_left
  · cases m1
  rename_i t x2 hop1
  split at m2
  rotate_left
  · cases m2
  rename_i y2 hop2
  split at m3
  rotate_left
  · cases m3
  rename_i f' t1 t2 ts hop3
  simp only [Bool.and_eq_true, beq_iff_eq] at m1 m2 m3
  obtain ⟨⟨hd1, hxm⟩, ht⟩ := m1
  obtain ⟨hd2, hym⟩ := m2
  obtain ⟨⟨⟨⟨hd3, rfl⟩, hf⟩, rfl⟩, rfl⟩ := m3
  obtain ⟨bs, hro, hnd, hown⟩ := hr.ob _ _ hq
  have hi : i.toNat < xs.length := by omega
  rw [gt_get xs h0 h1] at hb hx'
  obtain ⟨g, cap, cur, e, u, qs, hσ, hg, hgb, hcS, hcu, hdq, hqn, hqs, hnew⟩ := row_part hro hnd hi hb
  obtain ⟨g2, n2, cap2, hs2, hi2, eu⟩ := RepV_ep.1 (ev_rep hr hxm hx)
  rw [hσ] at hs2
  simp only [Value.slice.injEq, Option.some.injEq, Addr.mk.injEq, and_true] at hs2
  obtain ⟨rfl, rfl, rfl⟩ := hs2
  have eu' : a.eval x2 = .pointer (some ⟨g, i.toNat * ssz n + off, none⟩) := eu
  obtain ⟨e1, l1⟩ := dst_of hd1
  obtain ⟨e2, l2⟩ := dst_of hd2
  obtain ⟨e3, l3⟩ := dst_of hd3
  have hrun1 := run_load_cells (P := P) ht w ⟨g, i.toNat * ssz n + off, none⟩ [u] (by simp [Ki.sz]) (Cells_box hg _ _ fun j v hj => by
    cases j with
    | zero => simp at hj; subst hj; simpa using hcu
    | succ j => simp at hj)
  have hrun1' : (execOp a.eval o1).run P w = .ok (.value u) w := by simp [execOp, hop1, eu', hrun1, valOf, Ki.isS]
  have hr1 : Rep N G σ ow w (a.put (some t1) u) (Γ.put t1 .no) := hr.put l1 (by simp [RepV, RepU, AV.isS, RepC])
  obtain ⟨hye, hj⟩ := RepV_int.1 (ev_rep hr1 hym hy)
  have hrun2 : (execOp (a.put (some t1) u).eval o2).run P w = .ok (.value (.int .i64 j)) w := by simp [execOp, hop2, hye]
  have hr2 := hr1.put l2 (v := .int .i64 j) (x := .v kI j) (RepV_int.2 ⟨rfl, hj⟩)
  have hsz : t1 < a.tmps.size := hr.size ▸ l1
  have hsz2 : t2 < (a.put (some t1) u).tmps.size := hr1.size ▸ l2
  have ev1 : ((a.put (some t1) u).put (some t2) (.int .i64 j)).eval (.tmp t1) = u := by
    rw [eval_put _ hsz2, if_neg (fun h => hne h.symm), eval_put _ hsz, if_pos rfl]
  have ev2 : ((a.put (some t1) u).put (some t2) (.int .i64 j)).eval (.tmp t2) = .int .i64 j := by
    rw [eval_put _ hsz2, if_pos rfl]
  have hrun3 := exec_call (P := P) (a := (a.put (some t1) u).put (some t2) (.int .i64 j)) (w := w) hop3 hf
  simp only [List.map_cons, List.map_nil, ev1, ev2] at hrun3
  have hucells : u.cells.toList = [u] := by
    obtain ⟨u1, e1, hr1⟩ := Dx_slice.1 hdq
    cases e1
    rcases hr1 with ⟨⟨A, rfl⟩, _⟩ | ⟨_, _, _, _, _, rfl, _⟩ <;> rfl
  have hcall := (hS _ _ _ hs).2.2.1 (.slice c) ys j rfl hw w u qs (by rw [hucells]; exact hdq) hqn (by rw [hucells]; simp [valOf, Ki.isS]) hj
  have w1 : Region.wanted o1 (yielded ops a.tmps) = true := by simp [Region.wanted, Option.isNone_iff_eq_none.1 g1]
  refine wpList_step fun K1 hK1 => ?_
  rw [if_pos w1]
  refine wp_value hrun1' ?_
  rw [e1]
  refine hK1 _ _ ?_
  refine wpList_step fun K2 hK2 => ?_
  have w2 : Region.wanted o2 (yielded ops (a.put (some t1) u).tmps) = true := by simp [Region.wanted, Option.isNone_iff_eq_none.1 g2]
  rw [if_pos w2]
  refine wp_value hrun2 ?_
  rw [e2]
  refine hK2 _ _ ?_
  refine wpList_step fun K3 hK3 => ?_
  have w3 : Region.wanted o3 (yielded ops ((a.put (some t1) u).put (some t2) (.int .i64 j)).tmps) = true := by simp [Region.wanted, Option.isNone_iff_eq_none.1 g3]
  rw [if_pos w3]
  unfold Oper.wp
  rw [hrun3, Oper.upon_enter]
  refine hcall.mono fun e w' h => ?_
  obtain ⟨rfl, hn, k1, k2, k3, k4, k5, k6⟩ := h
  obtain ⟨q', hD', hqn', hsub⟩ := k6 zs hzs
  rw [hucells] at hD'
  have hgk : w'.heap[g]? = w.heap[g]? := k5 g (Array.getElem?_eq_some_iff.1 hg).1 (fun h => (hqs g h).2 rfl)
  have hself : cur.toList = cur.toList.set (i.toNat * ssz n + off) u := by
    obtain ⟨h5, h6⟩ := List.getElem?_eq_some_iff.1 hcu
    rw [← h6, List.set_getElem_self]
  have hblt : ∀ b ∈ bs, b < w.heap.size := hro.lt
  obtain ⟨bs', hro', hnd', hsub'⟩ := hnew w' (fun _ => True) cur zs u q' x' (hgk.trans hg) hself (fun b hb _ hbq => k5 b (hblt b hb) hbq) hD' hqn' hsub hx'
  have hu := own_row (w' := w') hown hsub' k1 k2 k3 k4 (fun b hb hbb => k5 b hb fun h => hbb (hqs b h).1)
  have hro2 : RowO w' (fz G (owRow (fun m => m == l) l bs' ow) w') true (.struct n) (xs.set i.toNat x') (σ l) bs' := by
    simpa [RowO] using hro'
  have hr3 := hr2.setOb hu (l := l) (o' := .row true p (.struct n) (xs.set i.toNat x')) ⟨bs', hro2, hnd', fun b hb => owRow_at hb⟩ (fun h => hr.pin _ _ hq h)
  show K3 (((a.put (some t1) u).put (some t2) (.int .i64 j)).put o3.dst _) w'
  rw [e3]
  exact hK3 _ _ (hQ _ _ ⟨_, σ, _, hk, hr3.put l3 (RepV_int.2 ⟨rfl, hn⟩), hu.ext⟩)
theorem snd_lc2 (hS : ∀ f as r, S f as r → Sp P f as r) {ops : Array Oper} {rest : List Oper} (hr : Rep N G σ ow w a Γ) {d1 x d2 y d f c o1 o2 o3} (hm : lcM P N d1 x d2 y d f c o1 o2 o3 = true) {l : Lab} {c0 : Ki} {i : Int} (hx : ev Γ x = some (.ep l (.slice c0) i 0)) (hv : need (lo Γ.ob l) fun
      | .row true p c2 xs => need (Ob.as (.slice c0) (.row true p c2 xs)) fun (xs : List (List c0.T)) => need (ev (Γ.put d1 .no) y) fun
        | .v (.int kk) (j : Int) => kk = .i64 ∧ 0 ≤ i ∧ i < (xs.length : Int) ∧ need (AV.as (.slice c) (.v (.slice c0) (gt xs i ([] : List c0.T)))) fun (ys : List c.T) =>
            ∃ q, S f [.io (.slice c) ys, .v kI j] q ∧ q.isW = true ∧ need (wAs (.slice c0) q) fun (zs : List c0.T) =>
              K (Env.put ⟨((Γ.put d1 .no).put d2 (.v kI j)).tm, (l, .row true p (.slice c0) (xs.set i.toNat zs)) :: Γ.ob⟩ d (.v kI q.wn))
        | _ => False
      | _ => False)
    (hQ : ∀ a' w', Post N G ow w K a' w' → wpList P ops Q rest a' w') : wpList P ops Q (o1 :: o2 :: o3 :: rest) a w := by
  obtain ⟨q, hq, hv⟩ := need_iff hv
  split at hv
  rotate_left
  · exact hv.elim
  rename_i p c' xs0
  obtain ⟨xs, hxs, hv2⟩ := need_iff hv
  clear hv
  have e := oas_eq hxs
  clear hxs
  cases e
  obtain ⟨yv, hy, hv⟩ := need_iff hv2
  split at hv
  rotate_left
  · exact hv.elim
  rename_i kk j
  obtain ⟨rfl, h0, h1, hv⟩ := hv
  obtain ⟨ys, hys, r, hs, hw, hv⟩ := need_iff hv
  obtain ⟨zs, hzs, hk⟩ := need_iff hv
  have hc0 := as_eq hys
  simp only [AV.v.injEq, Ki.slice.injEq] at hc0
  obtain ⟨rfl, hys'⟩ := hc0
  obtain rfl := eq_of_heq hys'
  simp only [lcM, Bool.and_eq_true, bne_iff_ne, ne_eq] at hm
  obtain ⟨⟨⟨⟨⟨⟨g1, g2⟩, g3⟩, hne⟩, m1⟩, m2⟩, m3⟩ := hm
  split at m1
  rotate_left
  · cases m1
  rename_i t x2 hop1
  split at m2
  rotate_left
  · cases m2
  rename_i y2 hop2
  split at m3
  rotate_left
  · cases m3
  rename_i f' t1 t2 ts hop3
  simp only [Bool.and_eq_true, beq_iff_eq] at m1 m2 m3
  obtain ⟨⟨hd1, hxm⟩, ht⟩ := m1
  obtain ⟨hd2, hym⟩ := m2
  obtain ⟨⟨⟨⟨hd3, rfl⟩, hf⟩, rfl⟩, rfl⟩ := m3
  obtain ⟨bs, hro, hnd, hown⟩ := hr.ob _ _ hq
  have hi : i.toNat < xs.length := by omega
  rw [show gt xs i ([] : List c0.T) = xs[i.toNat] from gt_get xs h0 h1 _] at hs
  obtain ⟨g, cap, cur, e, u, qs, hσ, hg, hgb, hcu, hdq, hqn, hqs, hnew⟩ := row_partS hro hnd hi
  obtain ⟨g2, n2, cap2, hs2, hi2, eu⟩ := RepV_ep.1 (ev_rep hr hxm hx)
  rw [hσ] at hs2
  simp only [Value.slice.injEq, Option.some.injEq, Addr.mk.injEq, and_true] at hs2
  obtain ⟨rfl, rfl, rfl⟩ := hs2
  have eu' : a.eval x2 = .pointer (some ⟨g, i.toNat * 1 + 0, none⟩) := eu
  obtain ⟨e1, l1⟩ := dst_of hd1
  obtain ⟨e2, l2⟩ := dst_of hd2
  obtain ⟨e3, l3⟩ := dst_of hd3
  have hrun1 := run_load_cells (P := P) ht w ⟨g, i.toNat * 1 + 0, none⟩ [u] (by simp [Ki.sz]) (Cells_box hg _ _ fun j v hj => by
    cases j with
    | zero => simp at hj; subst hj; simpa using hcu
    | succ j => simp at hj)
  simp only [Nat.mul_one, Nat.add_zero] at hrun1 eu'
  have hrun1' : (execOp a.eval o1).run P w = .ok (.value u) w := by simp [execOp, hop1, eu', hrun1, valOf, Ki.isS]
  have hr1 : Rep N G σ ow w (a.put (some t1) u) (Γ.put t1 .no) := hr.put l1 (by simp [RepV, RepU, AV.isS, RepC])
  obtain ⟨hye, hj⟩ := RepV_int.1 (ev_rep hr1 hym hy)
  have hrun2 : (execOp (a.put (some t1) u).eval o2).run P w = .ok (.value (.int .i64 j)) w := by simp [execOp, hop2, hye]
  have hr2 := hr1.put l2 (v := .int .i64 j) (x := .v kI j) (RepV_int.2 ⟨rfl, hj⟩)
  have hsz : t1 < a.tmps.size := hr.size ▸ l1
  have hsz2 : t2 < (a.put (some t1) u).tmps.size := hr1.size ▸ l2
  have ev1 : ((a.put (some t1) u).put (some t2) (.int .i64 j)).eval (.tmp t1) = u := by
    rw [eval_put _ hsz2, if_neg (fun h => hne h.symm), eval_put _ hsz, if_pos rfl]
  have ev2 : ((a.put (some t1) u).put (some t2) (.int .i64 j)).eval (.tmp t2) = .int .i64 j := by
    rw [eval_put _ hsz2, if_pos rfl]
  have hrun3 := exec_call (P := P) (a := (a.put (some t1) u).put (some t2) (.int .i64 j)) (w := w) hop3 hf
  simp only [List.map_cons, List.map_nil, ev1, ev2] at hrun3
  have hucells : u.cells.toList = [u] := by
    obtain ⟨u1, e1, hr1⟩ := Dx_slice.1 hdq
    cases e1
    rcases hr1 with ⟨⟨A, rfl⟩, _⟩ | ⟨_, _, _, _, _, rfl, _⟩ <;> rfl
  have hcall := (hS _ _ _ hs).2.2.1 (.slice c0) xs[i.toNat] j rfl hw w u qs (by rw [hucells]; exact hdq) hqn (by rw [hucells]; simp [valOf, Ki.isS]) hj
  have w1 : Region.wanted o1 (yielded ops a.tmps) = true := by simp [Region.wanted, Option.isNone_iff_eq_none.1 g1]
  refine wpList_step fun K1 hK1 => ?_
  rw [if_pos w1]
  refine wp_value hrun1' ?_
  rw [e1]
  refine hK1 _ _ ?_
  refine wpList_step fun K2 hK2 => ?_
  have w2 : Region.wanted o2 (yielded ops (a.put (some t1) u).tmps) = true := by simp [Region.wanted, Option.isNone_iff_eq_none.1 g2]
  rw [if_pos w2]
  refine wp_value hrun2 ?_
  rw [e2]
  refine hK2 _ _ ?_
  refine wpList_step fun K3 hK3 => ?_
  have w3 : Region.wanted o3 (yielded ops ((a.put (some t1) u).put (some t2) (.int .i64 j)).tmps) = true := by simp [Region.wanted, Option.isNone_iff_eq_none.1 g3]
  rw [if_pos w3]
  unfold Oper.wp
  rw [hrun3, Oper.upon_enter]
  refine hcall.mono fun e w' h => ?_
  obtain ⟨rfl, hn, k1, k2, k3, k4, k5, k6⟩ := h
  obtain ⟨q', hD', hqn', hsub⟩ := k6 zs hzs
  rw [hucells] at hD'
  have hgk : w'.heap[g]? = w.heap[g]? := k5 g (Array.getElem?_eq_some_iff.1 hg).1 (fun h => (hqs g h).2 rfl)
  have hblt : ∀ b ∈ bs, b < w.heap.size := hro.lt
  obtain ⟨bs', hro', hnd', hsub'⟩ := hnew w' (fun _ => True) zs q' (hgk.trans hg) (fun b hb _ hbq => k5 b (hblt b hb) hbq) hD' hqn' hsub
  have hu := own_row (w' := w') hown hsub' k1 k2 k3 k4 (fun b hb hbb => k5 b hb fun h => hbb (hqs b h).1)
  have hro2 : RowO w' (fz G (owRow (fun m => m == l) l bs' ow) w') true (.slice c0) (xs.set i.toNat zs) (σ l) bs' := by
    simpa [RowO] using hro'
  have hr3 := hr2.setOb hu (l := l) (o' := .row true p (.slice c0) (xs.set i.toNat zs)) ⟨bs', hro2, hnd', fun b hb => owRow_at hb⟩ (fun h => hr.pin _ _ hq h)
  show K3 (((a.put (some t1) u).put (some t2) (.int .i64 j)).put o3.dst _) w'
  rw [e3]
  exact hK3 _ _ (hQ _ _ ⟨_, σ, _, hk, hr3.put l3 (RepV_int.2 ⟨rfl, hn⟩), hu.ext⟩)
theorem snd_lc (hS : ∀ f as r, S f as r → Sp P f as r) {ops : Array Oper} {rest : List Oper} (hr : Rep N G σ ow w a Γ) {d1 x d2 y d f c o1 o2 o3} (hm : lcM P N d1 x d2 y d f c o1 o2 o3 = true) (hv : vlc S d1 x d2 y d f c Γ K)
    (hQ : ∀ a' w', Post N G ow w K a' w' → wpList P ops Q rest a' w') : wpList P ops Q (o1 :: o2 :: o3 :: rest) a w := by
  unfold vlc at hv
  obtain ⟨xv, hx, hv⟩ := need_iff hv
  split at hv
  · rename_i l n i off
    exact snd_lc1 hS hr hm hx hv hQ
  · rename_i l c0 i
    exact snd_lc2 hS hr hm hx hv hQ
  · exact hv.elim
theorem snd_rl (hS : ∀ f as r, S f as r → Sp P f as r) {ops : List Oper} (hr : Rep N G σ ow w a Γ) {is d1 x d2 y d f c js} (hm : rlM P N is d1 x d2 y d f c js ops = true)
    (hv : vs S is Γ fun Γ' => vlc S d1 x d2 y d f c Γ' fun Γ' => vs S js Γ' K) (hQ : ∀ a' w', Post N G ow w K a' w' → Q .normal a' w') : wpList P ops.toArray Q ops a w := by
  unfold rlM at hm
  split at hm
  rotate_left
  · cases hm
  rename_i o1 o2 o3 l2 hdrop
  simp only [Bool.and_eq_true] at hm
  obtain ⟨⟨m1, m2⟩, m3⟩ := hm
  have key : wpList P ops.toArray Q (ops.take is.length ++ (o1 :: o2 :: o3 :: l2)) a w := by
    refine snd_pre hS m1 hr hv fun a1 w1 h1 => ?_
    obtain ⟨Γ1, σ1, ow1, hk1, hr1, he1⟩ := h1
    refine snd_lc hS hr1 m2 hk1 fun a2 w2 h2 => ?_
    obtain ⟨Γ2, σ2, ow2, hk2, hr2, he2⟩ := h2
    exact snd_is hS m3 hr2 hk2 fun a3 w3 h3 => hQ _ _ (Post.trans (a' := a3) (K' := K) he1 (Post.trans (a' := a3) (K' := K) he2 h3))
  rw [← hdrop, List.take_append_drop] at key
  exact key
end
end Go.Q

set_option linter.unusedVariables false
namespace Go.Q
def O.tm : O → List Nat
  | .t n => [n]
  | _ => []
/-- The temporaries that an instruction looks at. -/
def I.looks : I → List Nat
  | .mv _ o | .nck _ o | .un _ _ o | .fa _ o _ _ _ | .ld _ o _ | .bx _ o _ | .ln _ _ o | .mk _ _ _ o => o.tm
  | .bi _ _ x y | .be _ _ x y | .ia _ x y _ | .st x y _ => x.tm ++ y.tm
  | .pk _ c x y => c.tm ++ (x.tm ++ y.tm)
  | .al _ _ => []
  | .ca _ _ xs | .cv _ _ xs => xs.flatMap fun x => x.1.tm
  | .cf _ o xs => o.tm ++ xs.flatMap fun x => x.1.tm
  | .ci _ _ o | .cs _ o => o.tm
  | .ix _ x y | .sa _ _ x y | .sf x y _ | .cw _ _ _ x y | .cg _ _ _ x y => x.tm ++ y.tm
  | .sx _ x lo hi => x.tm ++ (lo.elim [] O.tm ++ hi.elim [] O.tm)
  | .mf _ _ xs | .bs _ _ _ xs => xs.flatMap O.tm
  | .bd _ _ ps => ps.flatMap fun x => x.2.2.tm
  | .an _ _ _ x y | .ap _ _ _ _ x y | .ge _ _ x y => x.tm ++ y.tm
  | .cq _ _ xs => xs.flatMap fun x => x.1.tm
  | .cfq _ o xs => o.tm ++ xs.flatMap fun x => x.1.tm
  | .xt _ o _ | .s0 _ o _ | .pn o | .ml2 _ o | .bz _ o _ | .fz _ o _ | .nq _ _ _ o | .rn _ _ o => o.tm
  | .nm _ | .mm _ _ _ => []
  | .ss _ x lo hi _ => x.tm ++ (lo.elim [] O.tm ++ hi.elim [] O.tm)
  | .sm _ x lo hi mx _ => x.tm ++ (lo.elim [] O.tm ++ (hi.tm ++ mx.tm))
  | .af _ _ x y => x.tm ++ y.tm
  | .bf _ _ xs | .bo _ _ xs | .bl _ _ xs => xs.flatMap O.tm
  | .apl _ _ _ x t => x.tm ++ [t]
  | .mu m k v _ _ => m.tm ++ (k.tm ++ v.tm)
  | .ml _ m k _ _ _ => m.tm ++ k.tm
  | .g t _ i => t :: i.looks
/-- It makes no object. -/
def I.rd : I → Bool
  | .mv _ _ | .nck _ _ | .un _ _ _ | .fa _ _ _ _ _ | .ld _ _ _ | .ln _ _ _ | .bi _ _ _ _ | .be _ _ _ _ | .ia _ _ _ _ | .pk _ _ _ _ | .cv _ _ _ | .mf _ _ _ | .bd _ _ _ | .ge _ _ _ _ | .ci _ _ _ | .cs _ _ | .ix _ _ _ | .xt _ _ _ | .s0 _ _ _ | .nm _ | .ss _ _ _ _ _ | .sm _ _ _ _ _ _ | .af _ _ _ _ | .bf _ _ _ | .sx _ _ _ _ | .bs _ _ _ [] => true
  | .g _ _ i => i.rd
  | _ => false
def I.rd0 : I → Bool
  | .mv _ _ | .nck _ _ | .un _ _ _ | .fa _ _ _ _ _ | .ld _ _ _ | .ln _ _ _ | .bi _ _ _ _ | .be _ _ _ _ | .ia _ _ _ _ | .pk _ _ _ _ | .cv _ _ _ | .mf _ _ _ | .bd _ _ _ | .ge _ _ _ _ | .ci _ _ _ | .cs _ _ | .ix _ _ _ | .xt _ _ _ | .s0 _ _ _ | .nm _ | .ss _ _ _ _ _ | .sm _ _ _ _ _ _ | .af _ _ _ _ | .bf _ _ _ | .sx _ _ _ _ | .bs _ _ _ [] => true
  | _ => false
/-- It makes an object, labelled by its temporary. -/
def I.cr : I → Bool
  | .al _ _ | .bx _ _ _ | .mk _ _ _ _ | .ca (some _) _ _ | .cf (some _) _ _ | .bs _ _ _ (_ :: _) | .an _ _ _ _ _ | .bl _ _ _ => true
  | _ => false
def Same (Γ' Γ : Env) : Prop := (∀ t, lk Γ'.tm t = lk Γ.tm t) ∧ ∀ l, lo Γ'.ob l = lo Γ.ob l
theorem Same.refl (Γ : Env) : Same Γ Γ := ⟨fun _ => rfl, fun _ => rfl⟩
theorem Same.trans {a b c : Env} (h : Same a b) (k : Same b c) : Same a c := ⟨fun t => (h.1 t).trans (k.1 t), fun l => (h.2 l).trans (k.2 l)⟩
theorem Same.symm {a b : Env} (h : Same a b) : Same b a := ⟨fun t => (h.1 t).symm, fun l => (h.2 l).symm⟩
theorem lk_put (Γ : Env) (d : Nat) (a : AV) (t : Nat) : lk (Γ.put d a).tm t = if d = t then some a else lk Γ.tm t := rfl
theorem Same_put {Γ : Env} {d : Nat} {a b : AV} : Same (Γ.put d a) (Γ.puto b (some d)) ↔ a = b := by
  constructor
  · intro h
    have := h.1 d
    simpa [Env.puto, lk_put] using this
  · rintro rfl; exact Same.refl _
theorem Same.puto {Γ Γ' : Env} (h : Same Γ' Γ) (a : AV) : ∀ d, Same (Γ'.puto a d) (Γ.puto a d)
  | none => h
  | some d => ⟨fun t => by simp only [Env.puto, lk_put, h.1 t], h.2⟩
theorem Same_again {Γ : Env} {t : Nat} {x : AV} (h : lk Γ.tm t = some x) : Same ⟨(t, x) :: Γ.tm, Γ.ob⟩ Γ := ⟨fun t' => by
  simp only [lk]; split
  · rename_i e; subst e; exact h.symm
  · rfl, fun _ => rfl⟩
theorem skip_puto (Γ : Env) (d : Option Nat) : Γ.skip d = Γ.puto .ud d := by cases d <;> rfl
section
variable {S : FuncId → List SA → RA → Prop}
theorem vb_det {b : BinOp} {x y : AV} {f : AV → Prop} (h : vb b x y f) : ∃ r, vb b x y fun r' => r' = r ∧ f r' := by
  unfold vb at h ⊢
  split at h <;> first | exact h.elim | exact ⟨_, h.1, h.2.1, rfl, h.2.2⟩ | exact ⟨_, h.1, rfl, h.2⟩ | exact ⟨_, rfl, h⟩
theorem vb_imp {b : BinOp} {x y : AV} {f g : AV → Prop} (hfg : ∀ r, f r → g r) (h : vb b x y f) : vb b x y g := by
  unfold vb at h ⊢
  split at h <;> first | exact h.elim | exact ⟨h.1, h.2.1, hfg _ h.2.2⟩ | exact ⟨h.1, hfg _ h.2⟩ | exact hfg _ h
theorem need_mk {α : Type} {x : Option α} {y : α} {f : α → Prop} (h : x = some y) (k : f y) : need x f := by subst h; exact k
theorem vi_imp : ∀ {i : I} {Γ : Env} {K K' : Env → Prop}, (∀ Γ, K Γ → K' Γ) → i.rd = true → vi S i Γ K → vi S i Γ K' := by
  intro i
  induction i with
  | mv d o =>
    intro Γ K K' hk _ h
    obtain ⟨a, e, h⟩ := need_iff h; exact need_mk e (hk _ h)
  | nck d o =>
    intro Γ K K' hk _ h
    obtain ⟨a, e, h⟩ := need_iff h
    refine need_mk e ?_
    split at h
    · obtain ⟨y, e, h⟩ := h; exact ⟨y, e, hk _ h⟩
    · exact hk _ h
    · exact hk _ h
    · exact h.elim
  | un d u o =>
    intro Γ K K' hk _ h
    obtain ⟨a, e, h⟩ := need_iff h; obtain ⟨b, e2, h⟩ := need_iff h
    exact need_mk e (need_mk e2 (hk _ h))
  | bi d b x y =>
    intro Γ K K' hk _ h
    obtain ⟨a, e, h⟩ := need_iff h; obtain ⟨a', e2, h⟩ := need_iff h
    exact need_mk e (need_mk e2 (vb_imp (fun r h => hk _ h) h))
  | be d ne x y =>
    intro Γ K K' hk _ h
    obtain ⟨a, e, h⟩ := need_iff h
    refine need_mk e ?_
    split at h
    · obtain ⟨a', e2, h⟩ := need_iff h
      refine need_mk e2 ?_
      split at h
      · exact hk _ h
      · exact h.elim
    · exact h.elim
  | pk d c x y =>
    intro Γ K K' hk _ h
    obtain ⟨a, e, h⟩ := need_iff h
    refine need_mk e ?_
    split at h
    · refine ⟨fun hb => ?_, fun hb => ?_⟩
      · obtain ⟨a, e, h⟩ := need_iff (h.1 hb); exact need_mk e (hk _ h)
      · obtain ⟨a, e, h⟩ := need_iff (h.2 hb); exact need_mk e (hk _ h)
    · exact h.elim
  | fa d o n j off =>
    intro Γ K K' hk _ h
    obtain ⟨a, e, h⟩ := need_iff h
    refine need_mk e ?_
    split at h
    · obtain ⟨y, e, h⟩ := h
      obtain ⟨z, e2, h⟩ := need_iff h
      refine ⟨y, e, need_mk e2 ?_⟩
      split at h
      · exact ⟨h.1, hk _ h.2⟩
      · exact h.elim
    · exact hk _ h
    · exact hk _ h
    · exact h.elim
  | ia d o i c =>
    intro Γ K K' hk _ h
    obtain ⟨a, e, h⟩ := need_iff h; obtain ⟨a', e2, h⟩ := need_iff h
    refine need_mk e (need_mk e2 ?_)
    split at h
    · split at h
      · exact ⟨h.1, h.2.1, h.2.2.1, hk _ h.2.2.2⟩
      · obtain ⟨q, e3, h⟩ := need_iff h
        refine need_mk e3 ?_
        split at h
        · exact ⟨h.1, h.2.1, h.2.2.1, hk _ h.2.2.2⟩
        · exact h.elim
      · exact h.elim
    · exact h.elim
  | ld d o c =>
    intro Γ K K' hk _ h
    obtain ⟨a, e, h⟩ := need_iff h
    refine need_mk e ?_
    split at h
    · obtain ⟨y, h1, h2, h⟩ := h; exact ⟨y, h1, h2, hk _ h⟩
    · obtain ⟨q, e3, h⟩ := need_iff h
      refine need_mk e3 ?_
      split at h
      · split at h
        · exact ⟨h.1, hk _ h.2⟩
        · obtain ⟨a, h1, h2, h⟩ := h; exact ⟨a, h1, h2, hk _ h⟩
      · exact h.elim
    · obtain ⟨q, e3, h⟩ := need_iff h
      refine need_mk e3 ?_
      split at h
      · obtain ⟨h1, h2, h3, h4, h5, h⟩ := h; exact ⟨h1, h2, h3, h4, h5, hk _ h⟩
      · exact h.elim
    · exact h.elim
  | ln d st o =>
    cases st with
    | false =>
      intro Γ K K' hk _ h
      obtain ⟨a, e, h⟩ := need_iff h
      refine need_mk e ?_
      split at h
      · exact fun hl => hk _ (h hl)
      · obtain ⟨q, e3, h⟩ := need_iff h
        refine need_mk e3 ?_
        split at h
        · exact fun hl => hk _ (h hl)
        · exact h.elim
      · exact hk _ h
      · exact h.elim
    | true =>
      intro Γ K K' hk _ h
      obtain ⟨a, e, h⟩ := need_iff h
      refine need_mk e ?_
      split at h
      · exact fun hl => hk _ (h hl)
      · exact h.elim
  | cv d f xs =>
    intro Γ K K' hk _ h
    obtain ⟨a, e, r, hs, h⟩ := need_iff h
    refine need_mk e ⟨r, hs, ?_⟩
    split at h
    · exact ⟨h.1, hk _ h.2⟩
    · exact ⟨h.1, hk _ h.2⟩
    · exact h.elim
  | mf d f xs =>
    intro Γ K K' hk _ h
    obtain ⟨a, e, h1, h⟩ := need_iff h
    exact need_mk e ⟨h1, hk _ h⟩
  | ge d ne x y =>
    intro Γ K K' hk _ h
    obtain ⟨a, e1, h⟩ := need_iff h
    obtain ⟨a', e2, h⟩ := need_iff h
    obtain ⟨m, e3, h⟩ := need_iff h
    obtain ⟨n, e4, h⟩ := need_iff h
    exact need_mk e1 (need_mk e2 (need_mk e3 (need_mk e4 (hk _ h))))
  | ci d k x =>
    intro Γ K K' hk _ h
    obtain ⟨a, e1, h⟩ := need_iff h
    refine need_mk e1 ?_
    split at h
    · exact hk _ h
    · exact h.elim
  | cs d x =>
    intro Γ K K' hk _ h
    obtain ⟨a, e1, h⟩ := need_iff h
    obtain ⟨xs, e2, h⟩ := need_iff h
    exact need_mk e1 (need_mk e2 (hk _ h))
  | ix d x i =>
    intro Γ K K' hk _ h
    obtain ⟨a, e1, h⟩ := need_iff h
    refine need_mk e1 ?_
    split at h
    · obtain ⟨b, e2, h⟩ := need_iff h
      refine need_mk e2 ?_
      split at h
      · exact ⟨h.1, h.2.1, hk _ h.2.2⟩
      · exact h.elim
    · exact h.elim
  | xt d x i =>
    intro Γ K K' hk _ h
    obtain ⟨a, e1, h⟩ := need_iff h
    refine need_mk e1 ?_
    split at h
    · obtain ⟨b, e2, h⟩ := need_iff h
      exact need_mk e2 (hk _ h)
    · exact h.elim
  | s0 d x c =>
    intro Γ K K' hk _ h
    obtain ⟨a, e1, h⟩ := need_iff h
    obtain ⟨b, e2, h⟩ := need_iff h
    exact need_mk e1 (need_mk e2 (hk _ h))
  | nm d => intro Γ K K' hk _ h; exact hk _ h
  | ss d x lo hi c =>
    intro Γ K K' hk _ h
    obtain ⟨a, e1, h⟩ := need_iff h
    obtain ⟨b, e2, h⟩ := need_iff h
    obtain ⟨i, e3, h⟩ := need_iff h
    obtain ⟨j, e4, h⟩ := need_iff h
    exact need_mk e1 (need_mk e2 (need_mk e3 (need_mk e4 ⟨h.1, h.2.1, h.2.2.1, hk _ h.2.2.2⟩)))
  | sm d x lo hi mx c =>
    intro Γ K K' hk _ h
    obtain ⟨a, e1, h⟩ := need_iff h
    obtain ⟨b, e2, h⟩ := need_iff h
    obtain ⟨i, e3, h⟩ := need_iff h
    obtain ⟨j, e4, h⟩ := need_iff h
    obtain ⟨m, e5, h⟩ := need_iff h
    exact need_mk e1 (need_mk e2 (need_mk e3 (need_mk e4 (need_mk e5 ⟨h.1, h.2.1, h.2.2.1, h.2.2.2.1, hk _ h.2.2.2.2⟩))))
  | af d c x y =>
    intro Γ K K' hk _ h
    obtain ⟨a, e1, h⟩ := need_iff h
    refine need_mk e1 ?_
    split at h
    · obtain ⟨b, e2, h⟩ := need_iff h
      obtain ⟨zs, e3, h⟩ := need_iff h
      exact need_mk e2 (need_mk e3 ⟨h.1, h.2.1, hk _ h.2.2⟩)
    · obtain ⟨ys, e0, h⟩ := need_iff h
      obtain ⟨b, e2, h⟩ := need_iff h
      obtain ⟨zs, e3, h⟩ := need_iff h
      exact need_mk e0 (need_mk e2 (need_mk e3 ⟨h.1, h.2.1, hk _ h.2.2⟩))
    · exact h.elim
  | bf d c xs =>
    intro Γ K K' hk _ h
    obtain ⟨a, e1, h⟩ := need_iff h
    obtain ⟨b, e2, h⟩ := need_iff h
    exact need_mk e1 (need_mk e2 ⟨h.1, hk _ h.2⟩)
  | sx d x lo hi =>
    intro Γ K K' hk _ h
    obtain ⟨a, e1, h⟩ := need_iff h
    refine need_mk e1 ?_
    split at h
    · obtain ⟨b, e2, h⟩ := need_iff h
      obtain ⟨c, e3, h⟩ := need_iff h
      exact need_mk e2 (need_mk e3 ⟨h.1, h.2.1, h.2.2.1, hk _ h.2.2.2⟩)
    · exact h.elim
  | bd d n ps =>
    intro Γ K K' hk _ h
    obtain ⟨a, e, h⟩ := need_iff h
    exact need_mk e (hk _ h)
  | bs d dp c xs =>
    cases xs with
    | cons x xs => intros; rename_i hr _; cases hr
    | nil =>
    intro Γ K K' hk _ h
    exact hk _ h
  | g t b i ih =>
    intro Γ K K' hk hr h
    obtain ⟨a, e, h⟩ := need_iff h
    refine need_mk e ?_
    split at h
    · exact ⟨fun hb => ih hk hr (h.1 hb), fun hb => hk _ (h.2 hb)⟩
    · exact hk _ h
    · exact h.elim
  | _ => intros; rename_i hr _; cases hr
/-- What such an instruction computes is settled ahead of its run. -/
theorem vi_det : ∀ {i : I} {Γ : Env} {K : Env → Prop}, i.rd = true → vi S i Γ K → ∃ a, vi S i Γ fun Γ' => Same Γ' (Γ.puto a i.dst) ∧ K Γ' := by
  intro i
  induction i with
  | mv d o =>
    intro Γ K _ h
    obtain ⟨a, e, h⟩ := need_iff h; exact ⟨a, need_mk e ⟨Same_put.2 rfl, h⟩⟩
  | nck d o =>
    intro Γ K _ h
    obtain ⟨a, e, h⟩ := need_iff h
    split at h
    · obtain ⟨y, e', h⟩ := h; exact ⟨_, need_mk e ⟨y, e', Same_put.2 rfl, h⟩⟩
    · exact ⟨_, need_mk e ⟨Same_put.2 rfl, h⟩⟩
    · exact ⟨_, need_mk e ⟨Same_put.2 rfl, h⟩⟩
    · exact h.elim
  | un d u o =>
    intro Γ K _ h
    obtain ⟨a, e, h⟩ := need_iff h; obtain ⟨b, e2, h⟩ := need_iff h
    exact ⟨_, need_mk e (need_mk e2 ⟨Same_put.2 rfl, h⟩)⟩
  | bi d b x y =>
    intro Γ K _ h
    obtain ⟨a, e, h⟩ := need_iff h; obtain ⟨a', e2, h⟩ := need_iff h
    obtain ⟨r, h⟩ := vb_det h
    exact ⟨r, need_mk e (need_mk e2 (vb_imp (fun r' h => ⟨Same_put.2 h.1, h.2⟩) h))⟩
  | be d ne x y =>
    intro Γ K _ h
    obtain ⟨a, e, h⟩ := need_iff h
    split at h
    · obtain ⟨a', e2, h⟩ := need_iff h
      split at h
      · exact ⟨_, need_mk e (need_mk e2 ⟨Same_put.2 rfl, h⟩)⟩
      · exact h.elim
    · exact h.elim
  | pk d c x y =>
    intro Γ K _ h
    obtain ⟨a, e, h⟩ := need_iff h
    split at h
    · rename_i b
      cases b with
      | true =>
        obtain ⟨a', e2, h⟩ := need_iff (h.1 rfl)
        exact ⟨a', need_mk e ⟨fun _ => need_mk e2 ⟨Same_put.2 rfl, h⟩, fun hb => by cases hb⟩⟩
      | false =>
        obtain ⟨a', e2, h⟩ := need_iff (h.2 rfl)
        exact ⟨a', need_mk e ⟨fun hb => (by cases hb), fun _ => need_mk e2 ⟨Same_put.2 rfl, h⟩⟩⟩
    · exact h.elim
  | fa d o n j off =>
    intro Γ K _ h
    obtain ⟨a, e, h⟩ := need_iff h
    split at h
    · obtain ⟨y, e', h⟩ := h
      obtain ⟨z, e2, h⟩ := need_iff h
      split at h
      · exact ⟨_, need_mk e ⟨y, e', need_mk e2 ⟨h.1, Same_put.2 rfl, h.2⟩⟩⟩
      · exact h.elim
    · exact ⟨_, need_mk e ⟨Same_put.2 rfl, h⟩⟩
    · exact ⟨_, need_mk e ⟨Same_put.2 rfl, h⟩⟩
    · exact h.elim
  | ia d o i c =>
    intro Γ K _ h
    obtain ⟨a, e, h⟩ := need_iff h; obtain ⟨a', e2, h⟩ := need_iff h
    split at h
    · split at h
      · exact ⟨_, need_mk e (need_mk e2 ⟨h.1, h.2.1, h.2.2.1, Same_put.2 rfl, h.2.2.2⟩)⟩
      · obtain ⟨q, e3, h⟩ := need_iff h
        split at h
        · exact ⟨_, need_mk e (need_mk e2 (need_mk e3 ⟨h.1, h.2.1, h.2.2.1, Same_put.2 rfl, h.2.2.2⟩))⟩
        · exact h.elim
      · exact h.elim
    · exact h.elim
  | ld d o c =>
    intro Γ K _ h
    obtain ⟨a, e, h⟩ := need_iff h
    split at h
    · obtain ⟨y, h1, h2, h⟩ := h; exact ⟨_, need_mk e ⟨y, h1, h2, Same_put.2 rfl, h⟩⟩
    · obtain ⟨q, e3, h⟩ := need_iff h
      split at h
      · cases c with
        | struct n => exact ⟨_, need_mk e (need_mk e3 ⟨h.1, Same_put.2 rfl, h.2⟩)⟩
        | _ => obtain ⟨a, h1, h2, h⟩ := h; exact ⟨a, need_mk e (need_mk e3 ⟨a, h1, h2, Same_put.2 rfl, h⟩)⟩
      · exact h.elim
    · obtain ⟨q, e3, h⟩ := need_iff h
      split at h
      · obtain ⟨h1, h2, h3, h4, h5, h⟩ := h; exact ⟨_, need_mk e (need_mk e3 ⟨h1, h2, h3, h4, h5, Same_put.2 rfl, h⟩)⟩
      · exact h.elim
    · exact h.elim
  | ln d st o =>
    cases st with
    | false =>
      intro Γ K _ h
      obtain ⟨a, e, h⟩ := need_iff h
      split at h
      · exact ⟨_, need_mk e fun hl => ⟨Same_put.2 rfl, h hl⟩⟩
      · obtain ⟨q, e3, h⟩ := need_iff h
        split at h
        · exact ⟨_, need_mk e (need_mk e3 fun hl => ⟨Same_put.2 rfl, h hl⟩)⟩
        · exact h.elim
      · exact ⟨_, need_mk e ⟨Same_put.2 rfl, h⟩⟩
      · exact h.elim
    | true =>
      intro Γ K _ h
      obtain ⟨a, e, h⟩ := need_iff h
      split at h
      · exact ⟨_, need_mk e fun hl => ⟨Same_put.2 rfl, h hl⟩⟩
      · exact h.elim
  | cv d f xs =>
    intro Γ K _ h
    obtain ⟨a, e, r, hs, h⟩ := need_iff h
    split at h
    · rename_i c x
      exact ⟨.v c x, need_mk e ⟨_, hs, h.1, Same.refl _, h.2⟩⟩
    · rename_i c x
      exact ⟨.v c x, need_mk e ⟨_, hs, h.1, Same.refl _, h.2⟩⟩
    · exact h.elim
  | mf d f xs =>
    intro Γ K _ h
    obtain ⟨a, e, h1, h⟩ := need_iff h
    exact ⟨_, need_mk e ⟨h1, Same_put.2 rfl, h⟩⟩
  | ge d ne x y =>
    intro Γ K _ h
    obtain ⟨a, e1, h⟩ := need_iff h
    obtain ⟨a', e2, h⟩ := need_iff h
    obtain ⟨m, e3, h⟩ := need_iff h
    obtain ⟨n, e4, h⟩ := need_iff h
    exact ⟨_, need_mk e1 (need_mk e2 (need_mk e3 (need_mk e4 ⟨Same_put.2 rfl, h⟩)))⟩
  | ci d k x =>
    intro Γ K _ h
    obtain ⟨a, e1, h⟩ := need_iff h
    split at h
    · exact ⟨_, need_mk e1 ⟨Same_put.2 rfl, h⟩⟩
    · exact h.elim
  | cs d x =>
    intro Γ K _ h
    obtain ⟨a, e1, h⟩ := need_iff h
    obtain ⟨xs, e2, h⟩ := need_iff h
    exact ⟨_, need_mk e1 (need_mk e2 ⟨Same_put.2 rfl, h⟩)⟩
  | ix d x i =>
    intro Γ K _ h
    obtain ⟨a, e1, h⟩ := need_iff h
    split at h
    · obtain ⟨b, e2, h⟩ := need_iff h
      split at h
      · exact ⟨_, need_mk e1 (need_mk e2 ⟨h.1, h.2.1, Same_put.2 rfl, h.2.2⟩)⟩
      · exact h.elim
    · exact h.elim
  | xt d x i =>
    intro Γ K _ h
    obtain ⟨a, e1, h⟩ := need_iff h
    split at h
    · obtain ⟨b, e2, h⟩ := need_iff h
      exact ⟨_, need_mk e1 (need_mk e2 ⟨Same_put.2 rfl, h⟩)⟩
    · exact h.elim
  | s0 d x c =>
    intro Γ K _ h
    obtain ⟨a, e1, h⟩ := need_iff h
    obtain ⟨b, e2, h⟩ := need_iff h
    exact ⟨_, need_mk e1 (need_mk e2 ⟨Same_put.2 rfl, h⟩)⟩
  | nm d => intro Γ K _ h; exact ⟨_, Same_put.2 rfl, h⟩
  | ss d x lo hi c =>
    intro Γ K _ h
    obtain ⟨a, e1, h⟩ := need_iff h
    obtain ⟨b, e2, h⟩ := need_iff h
    obtain ⟨i, e3, h⟩ := need_iff h
    obtain ⟨j, e4, h⟩ := need_iff h
    exact ⟨_, need_mk e1 (need_mk e2 (need_mk e3 (need_mk e4 ⟨h.1, h.2.1, h.2.2.1, Same_put.2 rfl, h.2.2.2⟩)))⟩
  | sm d x lo hi mx c =>
    intro Γ K _ h
    obtain ⟨a, e1, h⟩ := need_iff h
    obtain ⟨b, e2, h⟩ := need_iff h
    obtain ⟨i, e3, h⟩ := need_iff h
    obtain ⟨j, e4, h⟩ := need_iff h
    obtain ⟨m, e5, h⟩ := need_iff h
    exact ⟨_, need_mk e1 (need_mk e2 (need_mk e3 (need_mk e4 (need_mk e5 ⟨h.1, h.2.1, h.2.2.1, h.2.2.2.1, Same_put.2 rfl, h.2.2.2.2⟩))))⟩
  | af d c x y =>
    intro Γ K _ h
    obtain ⟨a, e1, h⟩ := need_iff h
    split at h
    · obtain ⟨b, e2, h⟩ := need_iff h
      obtain ⟨zs, e3, h⟩ := need_iff h
      exact ⟨_, need_mk e1 (need_mk e2 (need_mk e3 ⟨h.1, h.2.1, Same_put.2 rfl, h.2.2⟩))⟩
    · obtain ⟨ys, e0, h⟩ := need_iff h
      obtain ⟨b, e2, h⟩ := need_iff h
      obtain ⟨zs, e3, h⟩ := need_iff h
      exact ⟨_, need_mk e1 (need_mk e0 (need_mk e2 (need_mk e3 ⟨h.1, h.2.1, Same_put.2 rfl, h.2.2⟩)))⟩
    · exact h.elim
  | bf d c xs =>
    intro Γ K _ h
    obtain ⟨a, e1, h⟩ := need_iff h
    obtain ⟨b, e2, h⟩ := need_iff h
    exact ⟨_, need_mk e1 (need_mk e2 ⟨h.1, Same_put.2 rfl, h.2⟩)⟩
  | sx d x lo hi =>
    intro Γ K _ h
    obtain ⟨a, e1, h⟩ := need_iff h
    split at h
    · obtain ⟨b, e2, h⟩ := need_iff h
      obtain ⟨c, e3, h⟩ := need_iff h
      exact ⟨_, need_mk e1 (need_mk e2 (need_mk e3 ⟨h.1, h.2.1, h.2.2.1, Same_put.2 rfl, h.2.2.2⟩))⟩
    · exact h.elim
  | bd d n ps =>
    intro Γ K _ h
    obtain ⟨a, e, h⟩ := need_iff h
    exact ⟨_, need_mk e ⟨Same_put.2 rfl, h⟩⟩
  | bs d dp c xs =>
    cases xs with
    | cons x xs => intros; rename_i hr _; cases hr
    | nil =>
    intro Γ K _ h
    exact ⟨.nl c, Same_put.2 rfl, h⟩
  | g t b i ih =>
    intro Γ K hr h
    obtain ⟨a, e, h⟩ := need_iff h
    split at h
    · rename_i x
      by_cases hx : x = b
      · subst hx
        obtain ⟨a, h'⟩ := ih hr (h.1 rfl)
        refine ⟨a, need_mk e ⟨fun _ => vi_imp (fun Γ' hh => ⟨hh.1.trans ((Same_again e).puto a _), hh.2⟩) hr h', fun hb => ?_⟩⟩
        cases x <;> cases hb
      · have hx' : x = !b := by cases x <;> cases b <;> simp_all
        subst hx'
        refine ⟨.ud, need_mk e ⟨fun hb => absurd hb hx, fun _ => ⟨?_, h.2 rfl⟩⟩⟩
        rw [skip_puto]
        exact (Same_again e).puto _ _
    · exact ⟨.ud, need_mk e ⟨by rw [skip_puto]; exact Same.refl _, h⟩⟩
    · exact h.elim
  | _ => intros; rename_i hr _; cases hr
end
end Go.Q

set_option linter.unusedVariables false
namespace Go.Q
theorem ev_same {Γ Γ2 : Env} {o : O} (h : ∀ t ∈ o.tm, lk Γ2.tm t = lk Γ.tm t) : ev Γ2 o = ev Γ o := by
  cases o with
  | t n => exact h n (by simp [O.tm])
  | _ => rfl
/-- The second state's objects agree with the first's, but for some labels, of which the first does not speak. -/
structure Agr (p : Lab → Bool) (Γ Γ2 : Env) (ts : List Nat) : Prop where
  tm : ∀ t ∈ ts, lk Γ2.tm t = lk Γ.tm t
  ob : ∀ l, p l = false → lo Γ2.ob l = lo Γ.ob l
  fr : ∀ t ∈ ts, ∀ x, lk Γ.tm t = some x → x.refs p = false
  bx : ∀ l ls, p l = false → lo Γ.ob l = some (.box ls) → refsL p ls = false
section
variable {p : Lab → Bool} {Γ Γ2 : Env} {ts : List Nat}
theorem Agr.sub {us : List Nat} (h : Agr p Γ Γ2 ts) (hs : ∀ t ∈ us, t ∈ ts) : Agr p Γ Γ2 us := ⟨fun t ht => h.tm t (hs t ht), h.ob, fun t ht => h.fr t (hs t ht), h.bx⟩
theorem Agr.ev {o : O} (h : Agr p Γ Γ2 ts) (hs : ∀ t ∈ o.tm, t ∈ ts) : ev Γ2 o = ev Γ o := ev_same fun t ht => h.tm t (hs t ht)
theorem Agr.evf {o : O} (h : Agr p Γ Γ2 ts) (hs : ∀ t ∈ o.tm, t ∈ ts) {x : AV} (he : Q.ev Γ o = some x) : x.refs p = false := by
  cases o with
  | t n => exact h.fr n (hs n (by simp [O.tm])) x he
  | _ => simp only [Q.ev, Option.some.injEq] at he; subst he; rfl
theorem pkL_agr (hob : ∀ l, p l = false → lo Γ2.ob l = lo Γ.ob l) {c : Ki} {x : AV} (hx : x.refs p = false) : pkL Γ2.ob c x = pkL Γ.ob c x := by
  cases c with
  | slice c =>
    cases x with
    | sl l => simp only [pkL]; rw [hob l (by simpa [AV.refs] using hx)]
    | _ => rfl
  | _ => rfl
theorem im_rest {ob : List (Lab × Ob)} : ∀ {f : Nat} {cs : List Ki} {ls : List AV} {h : HL cs} {rest : List AV}, im ob f cs ls = some (h, rest) → refsL p ls = false → refsL p rest = false
  | 0, _, _, _, _, e, _ => by simp [im] at e
  | _ + 1, [], _, _, _, e, hl => by simp only [im, Option.some.injEq, Prod.mk.injEq] at e; rw [← e.2]; exact hl
  | f + 1, .struct n :: cs, ls, h, rest, e, hl => by
    simp only [im, Option.bind_eq_some_iff, Option.map_eq_some_iff] at e
    obtain ⟨r, h1, q, h2, e⟩ := e
    cases e
    exact im_rest (f := f) (cs := cs) (h := q.1) h2 (im_rest (f := f) (cs := flds n) (h := r.1) h1 hl)
  | f + 1, .int k :: cs, a :: ls, h, rest, e, hl => by
    simp only [im, Option.bind_eq_some_iff, Option.map_eq_some_iff] at e
    obtain ⟨x, h1, q, h2, e⟩ := e
    cases e
    simp only [refsL, Bool.or_eq_false_iff] at hl
    exact im_rest (f := f) (cs := cs) (h := q.1) h2 hl.2
  | f + 1, .bool :: cs, a :: ls, h, rest, e, hl => by
    simp only [im, Option.bind_eq_some_iff, Option.map_eq_some_iff] at e
    obtain ⟨x, h1, q, h2, e⟩ := e
    cases e
    simp only [refsL, Bool.or_eq_false_iff] at hl
    exact im_rest (f := f) (cs := cs) (h := q.1) h2 hl.2
  | f + 1, .str :: cs, a :: ls, h, rest, e, hl => by
    simp only [im, Option.bind_eq_some_iff, Option.map_eq_some_iff] at e
    obtain ⟨x, h1, q, h2, e⟩ := e
    cases e
    simp only [refsL, Bool.or_eq_false_iff] at hl
    exact im_rest (f := f) (cs := cs) (h := q.1) h2 hl.2
  | f + 1, .slice c :: cs, a :: ls, h, rest, e, hl => by
    simp only [im, Option.bind_eq_some_iff, Option.map_eq_some_iff] at e
    obtain ⟨x, h1, q, h2, e⟩ := e
    cases e
    simp only [refsL, Bool.or_eq_false_iff] at hl
    exact im_rest (f := f) (cs := cs) (h := q.1) h2 hl.2
  | f + 1, .ptr c :: cs, a :: ls, h, rest, e, hl => by
    simp only [im, Option.bind_eq_some_iff, Option.map_eq_some_iff] at e
    obtain ⟨x, h1, q, h2, e⟩ := e
    cases e
    simp only [refsL, Bool.or_eq_false_iff] at hl
    exact im_rest (f := f) (cs := cs) (h := q.1) h2 hl.2
  | f + 1, .int k :: cs, [], _, _, e, _ | f + 1, .bool :: cs, [], _, _, e, _ | f + 1, .str :: cs, [], _, _, e, _ | f + 1, .slice c :: cs, [], _, _, e, _ | f + 1, .ptr c :: cs, [], _, _, e, _ => by simp [im] at e
theorem im_agr (hob : ∀ l, p l = false → lo Γ2.ob l = lo Γ.ob l) : ∀ {f : Nat} {cs : List Ki} {ls : List AV}, refsL p ls = false → im Γ2.ob f cs ls = im Γ.ob f cs ls
  | 0, _, _, _ => rfl
  | _ + 1, [], _, _ => rfl
  | f + 1, .struct n :: cs, ls, hl => by
    simp only [im]
    rw [im_agr hob (f := f) (cs := flds n) hl]
    cases hr : im Γ.ob f (flds n) ls with
    | none => rfl
    | some r => simp only [Option.bind_some]; rw [im_agr hob (f := f) (cs := cs) (im_rest (h := r.1) (rest := r.2) hr hl)]
  | f + 1, .int k :: cs, a :: ls, hl => by
    simp only [refsL, Bool.or_eq_false_iff] at hl
    simp only [im]; rw [pkL_agr hob hl.1, im_agr hob (f := f) (cs := cs) hl.2]
  | f + 1, .bool :: cs, a :: ls, hl => by
    simp only [refsL, Bool.or_eq_false_iff] at hl
    simp only [im]; rw [pkL_agr hob hl.1, im_agr hob (f := f) (cs := cs) hl.2]
  | f + 1, .str :: cs, a :: ls, hl => by
    simp only [refsL, Bool.or_eq_false_iff] at hl
    simp only [im]; rw [pkL_agr hob hl.1, im_agr hob (f := f) (cs := cs) hl.2]
  | f + 1, .slice c :: cs, a :: ls, hl => by
    simp only [refsL, Bool.or_eq_false_iff] at hl
    simp only [im]; rw [pkL_agr hob hl.1, im_agr hob (f := f) (cs := cs) hl.2]
  | f + 1, .ptr c :: cs, a :: ls, hl => by
    simp only [refsL, Bool.or_eq_false_iff] at hl
    simp only [im]; rw [pkL_agr hob hl.1, im_agr hob (f := f) (cs := cs) hl.2]
  | f + 1, .int k :: cs, [], _ | f + 1, .bool :: cs, [], _ | f + 1, .str :: cs, [], _ | f + 1, .slice c :: cs, [], _ | f + 1, .ptr c :: cs, [], _ => rfl
theorem refsL_drop : ∀ {ls : List AV} (n : Nat), refsL p ls = false → refsL p (ls.drop n) = false
  | [], n, h => by simp [refsL]
  | a :: ls, 0, h => h
  | a :: ls, n + 1, h => by
    simp only [refsL, Bool.or_eq_false_iff] at h
    exact refsL_drop n h.2
theorem pk_agr (h : Agr p Γ Γ2 ts) {c : Ki} {x : AV} (hx : x.refs p = false) : pk Γ2.ob c x = pk Γ.ob c x := by
  unfold pk
  split
  · rename_i n m ls
    simp only [imS]
    rw [im_agr h.ob (by simpa [AV.refs] using hx)]
  · rename_i c l off
    have hl : p l = false := by simpa [AV.refs] using hx
    rw [h.ob l hl]
    split
    · rename_i ls hlo
      rw [im_agr h.ob (refsL_drop off (h.bx l ls hl hlo))]
    · rfl
  · exact pkL_agr h.ob hx
theorem Agr.co {xs : List (O × Md)} (h : Agr p Γ Γ2 ts) (hs : ∀ t ∈ xs.flatMap (fun x => x.1.tm), t ∈ ts) : co Γ2 xs = co Γ xs ∧ coLab Γ2 xs = coLab Γ xs := by
  induction xs with
  | nil => exact ⟨rfl, rfl⟩
  | cons y r ih =>
    obtain ⟨o, m⟩ := y
    simp only [List.flatMap_cons, List.mem_append] at hs
    have hs1 : ∀ t ∈ o.tm, t ∈ ts := fun t ht => hs t (.inl ht)
    have h1 := h.ev hs1
    obtain ⟨h2, h3⟩ := ih fun t ht => hs t (.inr ht)
    constructor
    · cases m with
      | v c =>
        simp only [Q.co, h1, h2]
        cases he : Q.ev Γ o with
        | none => rfl
        | some x => simp only [Option.bind_some]; rw [pk_agr h (h.evf hs1 he)]
      | io c => rfl
      | fn => simp only [Q.co, h1, h2]
    · simp only [coLab, h1, h3]
theorem Agr.evs {xs : List O} (h : Agr p Γ Γ2 ts) (hs : ∀ t ∈ xs.flatMap O.tm, t ∈ ts) : evs Γ2 xs = evs Γ xs := by
  induction xs with
  | nil => rfl
  | cons o r ih =>
    simp only [List.flatMap_cons, List.mem_append] at hs
    simp only [Q.evs, h.ev fun t ht => hs t (.inl ht), ih fun t ht => hs t (.inr ht)]
theorem Agr.evsf {xs : List O} (h : Agr p Γ Γ2 ts) (hs : ∀ t ∈ xs.flatMap O.tm, t ∈ ts) {as : List AV} (he : Q.evs Γ xs = some as) : refsL p as = false := by
  induction xs generalizing as with
  | nil => cases he; rfl
  | cons o r ih =>
    simp only [List.flatMap_cons, List.mem_append] at hs
    simp only [Q.evs, Option.bind_eq_some_iff, Option.map_eq_some_iff] at he
    obtain ⟨x, e1, s, e2, rfl⟩ := he
    simp only [refsL, h.evf (fun t ht => hs t (.inl ht)) e1, ih (fun t ht => hs t (.inr ht)) e2, Bool.or_false]
theorem Agr.evp {xs : List (Nat × Nat × O)} (h : Agr p Γ Γ2 ts) (hs : ∀ t ∈ xs.flatMap (fun x => x.2.2.tm), t ∈ ts) : evp Γ2 xs = evp Γ xs := by
  induction xs with
  | nil => rfl
  | cons y r ih =>
    obtain ⟨off, sz, o⟩ := y
    simp only [List.flatMap_cons, List.mem_append] at hs
    simp only [Q.evp, h.ev fun t ht => hs t (.inl ht), ih fun t ht => hs t (.inr ht)]
theorem pks_agr (h : Agr p Γ Γ2 ts) {c : Ki} : ∀ {as : List AV}, refsL p as = false → pks Γ2.ob c as = pks Γ.ob c as
  | [], _ => rfl
  | a :: as, hr => by
    simp only [refsL, Bool.or_eq_false_iff] at hr
    simp only [pks]; rw [pk_agr h hr.1, pks_agr h hr.2]
theorem shr_agr (h : Agr p Γ Γ2 ts) {c : Ki} {x : AV} (hx : x.refs p = false) : shr Γ2.ob c x = shr Γ.ob c x := by
  unfold shr
  cases x with
  | sl l => simp only; rw [h.ob l (by simpa [AV.refs] using hx)]
  | _ => rfl
end
section
variable {S : FuncId → List SA → RA → Prop}
/-- Such an instruction looks at its operands alone. -/
theorem vi_frame0 {p : Lab → Bool} : ∀ {i : I} {Γ Γ2 : Env} {a : AV}, i.rd0 = true → Agr p Γ Γ2 i.looks →
    vi S i Γ (fun Γ' => Same Γ' (Γ.puto a i.dst)) → vi S i Γ2 (fun Γ' => Same Γ' (Γ2.puto a i.dst)) := by
  intro i
  cases i with
  | mv d o =>
    intro Γ Γ2 a _ hA h
    have e := hA.ev (o := o) fun t ht => ht
    simp only [vi, I.dst, Same_put] at h ⊢; rw [e]; exact h
  | nck d o =>
    intro Γ Γ2 a _ hA h
    have e := hA.ev (o := o) fun t ht => ht
    simp only [vi, I.dst, Same_put] at h ⊢; rw [e]; exact h
  | un d u o =>
    intro Γ Γ2 a _ hA h
    have e := hA.ev (o := o) fun t ht => ht
    simp only [vi, I.dst, Same_put] at h ⊢; rw [e]; exact h
  | bi d b x y =>
    intro Γ Γ2 a _ hA h
    have e := hA.ev (o := x) fun t ht => by simp [I.looks, ht]
    have e2 := hA.ev (o := y) fun t ht => by simp [I.looks, ht]
    simp only [vi, I.dst, Same_put] at h ⊢; rw [e, e2]; exact h
  | be d ne x y =>
    intro Γ Γ2 a _ hA h
    have e := hA.ev (o := x) fun t ht => by simp [I.looks, ht]
    have e2 := hA.ev (o := y) fun t ht => by simp [I.looks, ht]
    simp only [vi, I.dst, Same_put] at h ⊢; rw [e, e2]; exact h
  | pk d c x y =>
    intro Γ Γ2 a _ hA h
    have e := hA.ev (o := c) fun t ht => by simp [I.looks, ht]
    have e2 := hA.ev (o := x) fun t ht => by simp [I.looks, ht]
    have e3 := hA.ev (o := y) fun t ht => by simp [I.looks, ht]
    simp only [vi, I.dst, Same_put] at h ⊢; rw [e, e2, e3]; exact h
  | fa d o n j off =>
    intro Γ Γ2 a _ hA h
    have e := hA.ev (o := o) fun t ht => ht
    simp only [vi, I.dst, Same_put] at h ⊢; rw [e]; exact h
  | ia d o i c =>
    intro Γ Γ2 a _ hA h
    have e := hA.ev (o := o) fun t ht => by simp [I.looks, ht]
    have e2 := hA.ev (o := i) fun t ht => by simp [I.looks, ht]
    simp only [vi, I.dst, Same_put] at h ⊢; rw [e, e2]
    obtain ⟨x, ex, h⟩ := need_iff h
    refine need_mk ex ?_
    have hf := hA.evf (o := o) (fun t ht => by simp [I.looks, ht]) ex
    cases x with
    | sl l => have hq := hA.ob l (by simpa [AV.refs] using hf); simp only [hq]; exact h
    | v c' xs => cases c' <;> exact h
    | _ => exact h
  | ld d o c =>
    intro Γ Γ2 a _ hA h
    have e := hA.ev (o := o) fun t ht => ht
    simp only [vi, I.dst, Same_put] at h ⊢; rw [e]
    obtain ⟨x, ex, h⟩ := need_iff h
    refine need_mk ex ?_
    have hf := hA.evf (o := o) (fun t ht => ht) ex
    cases x with
    | pt l off => simp only at h ⊢; rw [hA.ob l (by simpa [AV.refs] using hf)]; exact h
    | ep l c i off =>
      cases off with
      | zero => simp only at h ⊢; rw [hA.ob l (by simpa [AV.refs] using hf)]; exact h
      | succ n => exact h
    | v c' xs => cases c' <;> exact h
    | _ => exact h
  | ln d st o =>
    cases st with
    | false =>
      intro Γ Γ2 a _ hA h
      have e := hA.ev (o := o) fun t ht => ht
      simp only [vi, I.dst, Same_put] at h ⊢; rw [e]
      obtain ⟨x, ex, h⟩ := need_iff h
      refine need_mk ex ?_
      have hf := hA.evf (o := o) (fun t ht => ht) ex
      cases x with
      | sl l => simp only at h ⊢; rw [hA.ob l (by simpa [AV.refs] using hf)]; exact h
      | v c' xs => cases c' <;> exact h
      | _ => exact h
    | true =>
      intro Γ Γ2 a _ hA h
      have e := hA.ev (o := o) fun t ht => ht
      simp only [vi, I.dst, Same_put] at h ⊢; rw [e]; exact h
  | cv d f xs =>
    intro Γ Γ2 a _ hA h
    obtain ⟨e, e2⟩ := hA.co (xs := xs) fun t ht => ht
    simp only [vi, I.dst] at h ⊢
    rw [e, e2]
    obtain ⟨as, ea, r, hs, h⟩ := need_iff h
    refine need_mk ea ⟨r, hs, ?_⟩
    split at h
    · refine ⟨h.1, ?_⟩
      cases d with
      | none => exact Same.refl _
      | some d => exact Same_put.2 (Same_put.1 h.2)
    · refine ⟨h.1, ?_⟩
      cases d with
      | none => exact Same.refl _
      | some d => exact Same_put.2 (Same_put.1 h.2)
    · exact h.elim
  | mf d f xs =>
    intro Γ Γ2 a _ hA h
    have e := hA.evs (xs := xs) fun t ht => ht
    simp only [vi, I.dst, Same_put] at h ⊢; rw [e]; exact h
  | ge d ne x y =>
    intro Γ Γ2 a _ hA h
    have e1 := hA.ev (o := x) fun t ht => by simp [I.looks, ht]
    have e2 := hA.ev (o := y) fun t ht => by simp [I.looks, ht]
    simp only [vi, I.dst, Same_put] at h ⊢; rw [e1, e2]
    obtain ⟨u, eu, h⟩ := need_iff h
    obtain ⟨v, ev', h⟩ := need_iff h
    refine need_mk eu (need_mk ev' ?_)
    rw [pk_agr hA (hA.evf (o := x) (fun t ht => by simp [I.looks, ht]) eu), pk_agr hA (hA.evf (o := y) (fun t ht => by simp [I.looks, ht]) ev')]
    exact h
  | ci d k x =>
    intro Γ Γ2 a _ hA h
    have e := hA.ev (o := x) fun t ht => ht
    simp only [vi, I.dst, Same_put] at h ⊢; rw [e]; exact h
  | cs d x =>
    intro Γ Γ2 a _ hA h
    have e1 := hA.ev (o := x) fun t ht => ht
    simp only [vi, I.dst, Same_put] at h ⊢; rw [e1]
    obtain ⟨u, eu, h⟩ := need_iff h
    refine need_mk eu ?_
    rw [pk_agr hA (hA.evf (o := x) (fun t ht => ht) eu)]
    exact h
  | ix d x i =>
    intro Γ Γ2 a _ hA h
    have e := hA.ev (o := x) fun t ht => by simp [I.looks, ht]
    have e2 := hA.ev (o := i) fun t ht => by simp [I.looks, ht]
    simp only [vi, I.dst, Same_put] at h ⊢; rw [e, e2]; exact h
  | xt d x i =>
    intro Γ Γ2 a _ hA h
    have e := hA.ev (o := x) fun t ht => by simp [I.looks, ht]
    simp only [vi, I.dst, Same_put] at h ⊢; rw [e]; exact h
  | s0 d x c =>
    intro Γ Γ2 a _ hA h
    have e := hA.ev (o := x) fun t ht => by simp [I.looks, ht]
    simp only [vi, I.dst, Same_put] at h ⊢; rw [e]
    obtain ⟨u, eu, h⟩ := need_iff h
    refine need_mk eu ?_
    rw [pk_agr hA (hA.evf (o := x) (fun t ht => by simp [I.looks, ht]) eu)]
    exact h
  | nm d =>
    intro Γ Γ2 a _ hA h
    simp only [vi, I.dst, Same_put] at h ⊢; exact h
  | ss d x lo hi c =>
    intro Γ Γ2 a _ hA h
    have e := hA.ev (o := x) fun t ht => by simp [I.looks, ht]
    have e2 : ∀ z, evo Γ2 lo z = evo Γ lo z := by
      intro z
      cases lo with
      | none => rfl
      | some q => simp only [evo]; rw [hA.ev (o := q) fun t ht => by simp [I.looks, ht]]
    have e3 : ∀ z, evo Γ2 hi z = evo Γ hi z := by
      intro z
      cases hi with
      | none => rfl
      | some q => simp only [evo]; rw [hA.ev (o := q) fun t ht => by simp [I.looks, ht]]
    simp only [vi, I.dst, Same_put, e2, e3] at h ⊢; rw [e]; exact h
  | sm d x lo hi mx c =>
    intro Γ Γ2 a _ hA h
    have e := hA.ev (o := x) fun t ht => by simp [I.looks, ht]
    have e2 : ∀ z, evo Γ2 lo z = evo Γ lo z := by
      intro z
      cases lo with
      | none => rfl
      | some q => simp only [evo]; rw [hA.ev (o := q) fun t ht => by simp [I.looks, ht]]
    have e3 : ∀ z, evo Γ2 (some hi) z = evo Γ (some hi) z := by
      intro z; simp only [evo]; rw [hA.ev (o := hi) fun t ht => by simp [I.looks, ht]]
    have e4 : ∀ z, evo Γ2 (some mx) z = evo Γ (some mx) z := by
      intro z; simp only [evo]; rw [hA.ev (o := mx) fun t ht => by simp [I.looks, ht]]
    simp only [vi, I.dst, Same_put, e2, e3, e4] at h ⊢; rw [e]; exact h
  | af d c x y =>
    intro Γ Γ2 a _ hA h
    have e1 := hA.ev (o := x) fun t ht => by simp [I.looks, ht]
    have e2 := hA.ev (o := y) fun t ht => by simp [I.looks, ht]
    simp only [vi, I.dst, Same_put] at h ⊢; rw [e1, e2]
    obtain ⟨u, eu, h⟩ := need_iff h
    refine need_mk eu ?_
    split at h
    · obtain ⟨b, eb, h⟩ := need_iff h
      refine need_mk eb ?_
      have hf := hA.evf (o := y) (fun t ht => by simp [I.looks, ht]) eb
      rw [pk_agr hA hf, shr_agr hA hf]
      exact h
    · obtain ⟨ys, ey, h⟩ := need_iff h
      obtain ⟨b, eb, h⟩ := need_iff h
      have hf := hA.evf (o := y) (fun t ht => by simp [I.looks, ht]) eb
      refine need_mk ey (need_mk eb ?_)
      rw [pk_agr hA hf, shr_agr hA hf]
      exact h
    · exact h.elim
  | bf d c xs =>
    intro Γ Γ2 a _ hA h
    have e := hA.evs (xs := xs) fun t ht => by simpa [I.looks] using ht
    simp only [vi, I.dst, Same_put] at h ⊢; rw [e]
    obtain ⟨u, eu, h⟩ := need_iff h
    refine need_mk eu ?_
    rw [pks_agr hA (hA.evsf (xs := xs) (fun t ht => by simpa [I.looks] using ht) eu)]
    exact h
  | sx d x lo hi =>
    intro Γ Γ2 a _ hA h
    have e := hA.ev (o := x) fun t ht => by simp [I.looks, ht]
    have e2 : ∀ z, evo Γ2 lo z = evo Γ lo z := by
      intro z
      cases lo with
      | none => rfl
      | some lo => simp only [evo]; rw [hA.ev (o := lo) fun t ht => by simp [I.looks, ht]]
    have e3 : ∀ z, evo Γ2 hi z = evo Γ hi z := by
      intro z
      cases hi with
      | none => rfl
      | some hi => simp only [evo]; rw [hA.ev (o := hi) fun t ht => by simp [I.looks, ht]]
    simp only [vi, I.dst, Same_put, e2, e3] at h ⊢; rw [e]; exact h
  | bd d n xs =>
    intro Γ Γ2 a _ hA h
    have e := hA.evp (xs := xs) fun t ht => ht
    simp only [vi, I.dst, Same_put] at h ⊢; rw [e]; exact h
  | bs d dp c xs =>
    cases xs with
    | cons x xs => intros; rename_i hr _ _; cases hr
    | nil =>
    intro Γ Γ2 a _ hA h
    simp only [vi, I.dst, Same_put] at h ⊢; exact h
  | _ => intros; rename_i hr _ _; cases hr
theorem vi_frame {p : Lab → Bool} : ∀ {i : I} {Γ Γ2 : Env} {a : AV}, i.rd = true → Agr p Γ Γ2 i.looks →
    vi S i Γ (fun Γ' => Same Γ' (Γ.puto a i.dst)) → vi S i Γ2 (fun Γ' => Same Γ' (Γ2.puto a i.dst)) := by
  intro i
  induction i with
  | g t b i vi_frame =>
    intro Γ Γ2 a hr hA h
    obtain ⟨x, e, h⟩ := need_iff h
    have e2 : lk Γ2.tm t = some x := (hA.tm t (by simp [I.looks])).trans e
    refine need_mk e2 ?_
    split at h
    · rename_i x
      have key : vi S i Γ (fun Γ' => Same Γ' (Γ.puto a i.dst)) → vi S i Γ2 fun Γ' => Same Γ' (Γ2.puto a i.dst) := vi_frame hr (hA.sub fun t ht => by simp [I.looks, ht])
      refine ⟨fun hb => ?_, fun hb => ?_⟩
      · subst hb
        refine vi_frame (Γ := ⟨(t, .v .bool x) :: Γ.tm, Γ.ob⟩) (Γ2 := ⟨(t, .v .bool x) :: Γ2.tm, Γ2.ob⟩) hr ⟨fun t' ht => ?_, hA.ob, fun t' ht x' hx' => ?_, hA.bx⟩ (vi_imp (fun Γ' hh => hh.trans ((Same_again e).symm.puto a _)) hr (h.1 rfl)) |> vi_imp (fun Γ' hh => hh.trans ((Same_again e2).puto a _)) hr
        · simp only [lk]
          split
          · rfl
          · exact hA.tm t' (by simp [I.looks, ht])
        · simp only [lk] at hx'
          split at hx'
          · cases hx'; rfl
          · exact hA.fr t' (by simp [I.looks, ht]) x' hx'
      · subst hb
        have h2 := h.2 rfl
        rw [skip_puto] at h2 ⊢
        have h3 : Same ((⟨(t, .v .bool (!b)) :: Γ.tm, Γ.ob⟩ : Env).puto .ud i.dst) (Γ.puto a i.dst) := h2
        refine ((Same_again e2).puto .ud i.dst).trans ?_
        have h4 := ((Same_again e).puto .ud i.dst).symm.trans h3
        show Same (Γ2.puto .ud i.dst) (Γ2.puto a i.dst)
        cases hd : i.dst with
        | none => exact Same.refl _
        | some d =>
          rw [hd] at h4
          have h5 := h4.1 d
          simp only [Env.puto, lk_put, if_true, Option.some.injEq] at h5
          subst h5
          exact Same.refl _
    · have h2 : Same (Γ.skip i.dst) (Γ.puto a i.dst) := h
      show Same (Γ2.skip i.dst) (Γ2.puto a i.dst)
      rw [skip_puto] at h2 ⊢
      cases hd : i.dst with
      | none => exact Same.refl _
      | some d =>
        rw [hd] at h2
        have h5 := h2.1 d
        simp only [Env.puto, lk_put, if_true, Option.some.injEq] at h5
        subst h5
        exact Same.refl _
    · exact h.elim
  | mv d o => exact fun h => vi_frame0 rfl
  | nck d o => exact fun h => vi_frame0 rfl
  | un d u o => exact fun h => vi_frame0 rfl
  | bi d b x y => exact fun h => vi_frame0 rfl
  | be d b x y => exact fun h => vi_frame0 rfl
  | pk d c x y => exact fun h => vi_frame0 rfl
  | fa d o n j off => exact fun h => vi_frame0 rfl
  | ia d o i c => exact fun h => vi_frame0 rfl
  | ld d o c => exact fun h => vi_frame0 rfl
  | ln d b o => exact fun h => vi_frame0 rfl
  | cv d f xs => exact fun h => vi_frame0 rfl
  | mf d f xs => exact fun h => vi_frame0 rfl
  | bd d n xs => exact fun h => vi_frame0 rfl
  | ge d ne x y => exact fun h => vi_frame0 rfl
  | ci d k x => exact fun h => vi_frame0 rfl
  | cs d x => exact fun h => vi_frame0 rfl
  | ix d x y => exact fun h => vi_frame0 rfl
  | sx d x lo hi => exact fun h => vi_frame0 rfl
  | xt d x i => exact fun h => vi_frame0 rfl
  | s0 d x c => exact fun h => vi_frame0 rfl
  | nm d => exact fun h => vi_frame0 rfl
  | ss d x lo hi c => exact fun h => vi_frame0 rfl
  | sm d x lo hi mx c => exact fun h => vi_frame0 rfl
  | af d c x y => exact fun h => vi_frame0 rfl
  | bf d c xs => exact fun h => vi_frame0 rfl
  | bs d dp c xs =>
    cases xs with
    | nil => exact fun h => vi_frame0 rfl
    | cons x xs => intro _ _ _ h; cases h
  | _ => intro _ _ _ h; cases h
/-! ### what makes an object -/
def Env.adds (Γ : Env) (x : AV) (obs : List (Lab × Ob)) : Option Nat → Env
  | some d => ⟨(d, x) :: Γ.tm, obs ++ Γ.ob⟩
  | none => Γ
def Env.made (Γ : Env) (d : Nat) (x : AV) (obs : List (Lab × Ob)) : Env := ⟨(d, x) :: killT (hd d) Γ.tm, obs ++ killO (hd d) Γ.ob⟩
theorem lo_append (l : Lab) : ∀ (a b : List (Lab × Ob)), lo (a ++ b) l = (match lo a l with | some o => some o | none => lo b l)
  | [], b => rfl
  | (k, o) :: a, b => by
    simp only [List.cons_append, lo]
    split
    · rfl
    · exact lo_append l a b
theorem kill_id {p : Lab → Bool} {x : AV} (h : x.refs p = false) : x.kill p = x := by simp [AV.kill, h]
theorem killL_id {p : Lab → Bool} : ∀ {ls : List AV}, refsL p ls = false → killL p ls = ls
  | [], _ => rfl
  | a :: ls, h => by
    simp only [refsL, Bool.or_eq_false_iff] at h
    simp only [killL, kill_id h.1, killL_id h.2]
theorem Free.same {p : Lab → Bool} {Γ : Env} (h : Free p Γ) : Same (Γ.kill p) Γ := by
  refine ⟨fun t => ?_, fun l => ?_⟩
  · simp only [Env.kill, lk_killT]
    cases hx : lk Γ.tm t with
    | none => rfl
    | some x => simp only [Option.map_some]; rw [kill_id (h.tm t x hx)]
  · simp only [Env.kill]
    cases hx : lo Γ.ob l with
    | none =>
      by_cases hp : p l = true
      · rw [lo_killO_none p _ _ hp]
      · rw [lo_killO p _ _ (by simpa using hp), hx]; rfl
    | some x =>
      obtain ⟨h1, h2⟩ := h.ob l x hx
      rw [lo_killO p _ _ h1, hx]
      cases x with
      | box ls => simp only [Option.map_some, Ob.kill]; rw [killL_id (h2 ls rfl)]
      | row _ _ _ _ => rfl
      | mp _ _ _ => rfl
theorem Same.adds {Γ Γ' : Env} (h : Same Γ' Γ) (x : AV) (obs : List (Lab × Ob)) (d : Option Nat) : Same (Γ'.adds x obs d) (Γ.adds x obs d) := by
  cases d with
  | none => exact h
  | some d =>
    refine ⟨fun t => ?_, fun l => ?_⟩
    · simp only [Env.adds, lk, h.1 t]
    · simp only [Env.adds, lo_append, h.2 l]
theorem made_same {Γ : Env} {d : Nat} (h : Free (hd d) Γ) (x : AV) (obs : List (Lab × Ob)) : Same (Γ.made d x obs) (Γ.adds x obs (some d)) := h.same.adds x obs (some d)
theorem adds_nil (Γ : Env) (x : AV) (d : Option Nat) : Γ.adds x [] d = Γ.puto x d := by cases d <;> rfl
theorem Agr.kill {p : Lab → Bool} {Γ Γ2 : Env} {ts : List Nat} (h : Agr p Γ Γ2 ts) (q : Lab → Bool) : Agr p (Γ.kill q) (Γ2.kill q) ts := by
  refine ⟨fun t ht => ?_, fun l hl => ?_, fun t ht x hx => ?_, fun l ls hl ho => ?_⟩
  · simp only [Env.kill, lk_killT, h.tm t ht]
  · simp only [Env.kill]
    by_cases hq : q l = true
    · rw [lo_killO_none q _ _ hq, lo_killO_none q _ _ hq]
    · rw [lo_killO q _ _ (by simpa using hq), lo_killO q _ _ (by simpa using hq), h.ob l hl]
  · simp only [Env.kill, lk_killT, Option.map_eq_some_iff] at hx
    obtain ⟨y, hy, rfl⟩ := hx
    have := h.fr t ht y hy
    unfold AV.kill
    split
    · rfl
    · exact this
  · simp only [Env.kill] at ho
    by_cases hq : q l = true
    · rw [lo_killO_none q _ _ hq] at ho; cases ho
    · rw [lo_killO q _ _ (by simpa using hq)] at ho
      simp only [Option.map_eq_some_iff] at ho
      obtain ⟨y, hy, e⟩ := ho
      cases y with
      | row _ _ _ _ => simp [Ob.kill] at e
      | mp _ _ _ => simp [Ob.kill] at e
      | box ls' =>
        simp only [Ob.kill, Ob.box.injEq] at e
        subst e
        have h1 := h.bx l ls' hl hy
        clear hy
        induction ls' with
        | nil => rfl
        | cons a as ih =>
          simp only [refsL, Bool.or_eq_false_iff] at h1
          simp only [killL, refsL, ih h1.2, Bool.or_false]
          unfold AV.kill
          split
          · rfl
          · exact h1.1
/-- What such an instruction makes. -/
def Prd (S : FuncId → List SA → RA → Prop) : I → Env → AV → List (Lab × Ob) → Prop
  | .al d c, Γ, x, obs => x = .pt [d] 0 ∧ obs = [([d], .box (zA c))]
  | .bx d o c, Γ, x, obs => ∃ a, ev (Γ.kill (hd d)) o = some a ∧ a.stor = true ∧ x = .pt [d] 0 ∧ obs = [([d], .box (cellsOf a))]
  | .mk d dp c n, Γ, x, obs => ∃ k m, ev Γ n = some (.v (.int k) (m : Int)) ∧ 0 ≤ m ∧ m ≤ 2147483647 ∧ nop 99 [c] = true ∧ x = .sl [d] ∧ obs = [([d], .row dp false c (List.replicate m.toNat c.z))]
  | .ca (some d) f xs, Γ, x, obs => ∃ as r, co Γ xs = some as ∧ S f as r ∧ (coLab Γ xs = false ∨ r.safe = true) ∧ x = (r.intro [d]).1 ∧ obs = (r.intro [d]).2
  | .cf (some d) o xs, Γ, x, obs => ∃ f as r, (ev Γ o).bind fnS = some f ∧ co Γ xs = some as ∧ S f.1 (as ++ capA f.2) r ∧ (coLab Γ xs = false ∨ r.safe = true) ∧ x = (r.intro [d]).1 ∧ obs = (r.intro [d]).2
  | .bs d dp c (y :: ys), Γ, x, obs => ∃ as zs, evs (Γ.kill (hd d)) (y :: ys) = some as ∧ pks (Γ.kill (hd d)).ob c as = some zs ∧ ((!dp || c.nref) && !refsL (fun _ => true) as) = true ∧ x = .sl [d] ∧ obs = [([d], .row dp false c zs)]
  | .an d dp c o y, Γ, x, obs => ∃ c' a zs, ev (Γ.kill (hd d)) o = some (.nl c') ∧ ev (Γ.kill (hd d)) y = some a ∧ pk (Γ.kill (hd d)).ob (.slice c) a = some zs ∧ ((!dp || c.nref) && shr (Γ.kill (hd d)).ob c a) = true ∧ List.length zs ≤ 33554432 ∧ x = .sl [d] ∧ obs = [([d], .row dp false c zs)]
  | .bl d c xs, Γ, x, obs => ∃ as, evs (Γ.kill (hd d)) xs = some as ∧ (as.all fun a => a.stor && (cellsOf a).length == c.sz) = true ∧ x = .ls [d] c as.length ∧ obs = [([d], .box (as.flatMap cellsOf))]
  | _, _, _, _ => False
theorem intro_heads {d : Nat} {r : RA} {l : Lab} {o : Ob} (h : lo (r.intro [d]).2 l = some o) : hd d l = true := by
  rw [(intro_pre d [] r).2] at h
  obtain ⟨l', o', rfl, _⟩ := lo_preO _ _ _ h
  simp [hd]
theorem one_heads {d : Nat} {q : Ob} {l : Lab} {o : Ob} (h : lo [([d], q)] l = some o) : hd d l = true := by
  simp only [lo] at h
  split at h
  · rename_i e; subst e; simp [hd]
  · cases h
theorem vi_prd {i : I} {Γ : Env} {K : Env → Prop} (hc : i.cr = true) (h : vi S i Γ K) : ∃ d x obs, i.dst = some d ∧ Prd S i Γ x obs ∧ (∀ l o, lo obs l = some o → hd d l = true) ∧ K (Γ.made d x obs) := by
  cases i with
  | al d c => exact ⟨d, _, _, rfl, ⟨rfl, rfl⟩, fun l o => one_heads, h⟩
  | bx d o c =>
    obtain ⟨a, e, hs, h⟩ := need_iff h
    exact ⟨d, _, _, rfl, ⟨a, e, hs, rfl, rfl⟩, fun l o => one_heads, h⟩
  | mk d dp c n =>
    obtain ⟨a, e, h⟩ := need_iff h
    split at h
    · rename_i k m
      obtain ⟨h0, h1, h2, h⟩ := h
      exact ⟨d, _, _, rfl, ⟨k, m, e, h0, h1, h2, rfl, rfl⟩, fun l o => one_heads, h⟩
    · exact h.elim
  | ca d f xs =>
    cases d with
    | none => cases hc
    | some d =>
      obtain ⟨as, e, r, hs, hsf, h⟩ := need_iff h
      exact ⟨d, _, _, rfl, ⟨as, r, e, hs, hsf, rfl, rfl⟩, fun l o => intro_heads, h⟩
  | cf d y xs =>
    cases d with
    | none => cases hc
    | some d =>
      obtain ⟨f, e1, h⟩ := need_iff h
      obtain ⟨as, e, r, hs, hsf, h⟩ := need_iff h
      exact ⟨d, _, _, rfl, ⟨f, as, r, e1, e, hs, hsf, rfl, rfl⟩, fun l o => intro_heads, h⟩
  | bl d c xs =>
    obtain ⟨as, e, hs, h⟩ := need_iff h
    exact ⟨d, _, _, rfl, ⟨as, e, hs, rfl, rfl⟩, fun l o => one_heads, h⟩
  | bs d dp c xs =>
    cases xs with
    | nil => cases hc
    | cons x xs =>
      simp only [vi] at h
      obtain ⟨as, e1, h⟩ := need_iff h
      obtain ⟨zs, e2, h1, h⟩ := need_iff h
      exact ⟨d, _, _, rfl, ⟨as, zs, e1, e2, h1, rfl, rfl⟩, fun l o => one_heads, h⟩
  | an d dp c o y =>
    simp only [vi] at h
    obtain ⟨a, e1, h⟩ := need_iff h
    split at h
    · rename_i c'
      obtain ⟨b, e2, h⟩ := need_iff h
      obtain ⟨zs, e3, h1, h2, h⟩ := need_iff h
      exact ⟨d, _, _, rfl, ⟨c', b, zs, e1, e2, e3, h1, h2, rfl, rfl⟩, fun l o => one_heads, h⟩
    · exact h.elim
  | _ => cases hc
theorem prd_vi {i : I} {Γ : Env} {K : Env → Prop} {d : Nat} {x : AV} {obs : List (Lab × Ob)} (hd' : i.dst = some d) (hp : Prd S i Γ x obs) (h : K (Γ.made d x obs)) : vi S i Γ K := by
  cases i with
  | al e c => cases hd'; obtain ⟨rfl, rfl⟩ := hp; exact h
  | bx e o c => cases hd'; obtain ⟨a, e, hs, rfl, rfl⟩ := hp; exact need_mk e ⟨hs, h⟩
  | mk e dp c n => cases hd'; obtain ⟨k, m, e, h0, h1, h2, rfl, rfl⟩ := hp; exact need_mk e ⟨h0, h1, h2, h⟩
  | ca e f xs => cases hd'; obtain ⟨as, r, e, hs, hsf, rfl, rfl⟩ := hp; exact need_mk e ⟨r, hs, hsf, h⟩
  | cf e y xs => cases hd'; obtain ⟨f, as, r, e1, e, hs, hsf, rfl, rfl⟩ := hp; exact need_mk e1 (need_mk e ⟨r, hs, hsf, h⟩)
  | bl e c xs => cases hd'; obtain ⟨as, e, hs, rfl, rfl⟩ := hp; exact need_mk e ⟨hs, h⟩
  | bs e dp c xs =>
    cases hd'
    cases xs with
    | nil => exact hp.elim
    | cons y ys => obtain ⟨as, zs, e1, e2, h1, rfl, rfl⟩ := hp; exact need_mk e1 (need_mk e2 ⟨h1, h⟩)
  | an e dp c o y => cases hd'; obtain ⟨c', b, zs, e1, e2, e3, h1, h2, rfl, rfl⟩ := hp; exact need_mk e1 (need_mk e2 (need_mk e3 ⟨h1, h2, h⟩))
  | _ => exact hp.elim
theorem prd_frame {p : Lab → Bool} {i : I} {Γ Γ2 : Env} {x : AV} {obs : List (Lab × Ob)} (hA : Agr p Γ Γ2 i.looks) (hp : Prd S i Γ x obs) : Prd S i Γ2 x obs := by
  cases i with
  | al e c => exact hp
  | bx e o c =>
    obtain ⟨a, h, r⟩ := hp
    exact ⟨a, ((hA.kill (hd e)).ev fun t ht => ht).trans h, r⟩
  | mk e dp c n =>
    obtain ⟨k, m, h, r⟩ := hp
    exact ⟨k, m, (hA.ev fun t ht => ht).trans h, r⟩
  | ca e f xs =>
    cases e with
    | none => exact hp.elim
    | some e =>
      obtain ⟨as, r, h, hs, hsf, r'⟩ := hp
      obtain ⟨e1, e2⟩ := hA.co (xs := xs) fun t ht => ht
      exact ⟨as, r, e1.trans h, hs, by rw [e2]; exact hsf, r'⟩
  | cf e y xs =>
    cases e with
    | none => exact hp.elim
    | some e =>
      obtain ⟨f, as, r, h0, h, hs, hsf, r'⟩ := hp
      obtain ⟨e1, e2⟩ := hA.co (xs := xs) fun t ht => List.mem_append_right _ ht
      exact ⟨f, as, r, by rw [hA.ev fun t ht => List.mem_append_left _ ht]; exact h0, e1.trans h, hs, by rw [e2]; exact hsf, r'⟩
  | bl e c xs =>
    obtain ⟨as, h, r⟩ := hp
    exact ⟨as, ((hA.kill (hd e)).evs fun t ht => ht).trans h, r⟩
  | bs e dp c xs =>
    cases xs with
    | nil => exact hp.elim
    | cons y ys =>
      obtain ⟨as, zs, e1, e2, h1, r⟩ := hp
      have hA' := hA.kill (hd e)
      have hf := hA'.evsf (xs := y :: ys) (fun t ht => ht) e1
      exact ⟨as, zs, (hA'.evs fun t ht => ht).trans e1, (pks_agr hA' hf).trans e2, h1, r⟩
  | an e dp c o y =>
    obtain ⟨c', b, zs, e1, e2, e3, h1, r⟩ := hp
    have hA' := hA.kill (hd e)
    have hf := hA'.evf (o := y) (fun t ht => List.mem_append_right _ ht) e2
    exact ⟨c', b, zs, (hA'.ev fun t ht => List.mem_append_left _ ht).trans e1, (hA'.ev fun t ht => List.mem_append_right _ ht).trans e2, (pk_agr hA' hf).trans e3, by rw [shr_agr hA' hf]; exact h1, r⟩
  | _ => exact hp.elim
end
end Go.Q

set_option linter.unusedVariables false
set_option linter.unusedSimpArgs false
namespace Go.Q
section
variable {S : FuncId → List SA → RA → Prop} {p : Lab → Bool} {Γ Γ2 : Env}
/-- Of these labels the state does not speak, where these temporaries lead. -/
structure Fre (p : Lab → Bool) (Γ : Env) (ts : List Nat) : Prop where
  fr : ∀ t ∈ ts, ∀ x, lk Γ.tm t = some x → x.refs p = false
  bx : ∀ l ls, p l = false → lo Γ.ob l = some (.box ls) → refsL p ls = false
theorem Fre.ev {ts : List Nat} {o : O} (h : Fre p Γ ts) (hs : ∀ t ∈ o.tm, t ∈ ts) {x : AV} (he : Q.ev Γ o = some x) : x.refs p = false := by
  cases o with
  | t n => exact h.fr n (hs n (by simp [O.tm])) x he
  | _ => simp only [Q.ev, Option.some.injEq] at he; subst he; rfl
theorem refsL_take : ∀ {ls : List AV} (n : Nat), refsL p ls = false → refsL p (ls.take n) = false
  | [], n, h => by simp [refsL]
  | a :: ls, 0, h => rfl
  | a :: ls, n + 1, h => by
    simp only [refsL, Bool.or_eq_false_iff] at h
    simp only [List.take_succ_cons, refsL, h.1, refsL_take n h.2, Bool.or_false]
theorem refsL_get {ls : List AV} {i : Nat} {x : AV} (h : refsL p ls = false) (hx : ls[i]? = some x) : x.refs p = false := by
  induction ls generalizing i with
  | nil => simp at hx
  | cons a as ih =>
    simp only [refsL, Bool.or_eq_false_iff] at h
    cases i with
    | zero => simp only [List.getElem?_cons_zero, Option.some.injEq] at hx; subst hx; exact h.1
    | succ i => exact ih h.2 (by simpa using hx)
theorem refsL_append {as bs : List AV} (h : refsL p as = false) (k : refsL p bs = false) : refsL p (as ++ bs) = false := by
  induction as with
  | nil => exact k
  | cons a as ih =>
    simp only [refsL, Bool.or_eq_false_iff] at h
    simp only [List.cons_append, refsL, h.1, ih h.2, Bool.or_false]
theorem lv_refs : ∀ (f : Nat) (cs : List Ki) (x : HL cs), refsL p (lv f cs x) = false := fun f cs x => by
  have h := lv_v f cs x
  generalize lv f cs x = ls at h
  induction ls with
  | nil => rfl
  | cons a as ih =>
    obtain ⟨_, c, y, rfl⟩ := h a (by simp)
    simp only [refsL, AV.refs, Bool.false_or]
    exact ih fun b hb => h b (by simp [hb])
theorem cellsOf_refs {x : AV} (h : x.refs p = false) : refsL p (cellsOf x) = false := by
  cases x with
  | v c y =>
    cases c with
    | struct n => simp only [cellsOf, lvs]; exact lv_refs _ _ _
    | _ => simp only [cellsOf, refsL, AV.refs, Bool.or_false]
  | ag n ls => simpa [cellsOf, AV.refs] using h
  | _ => simp only [cellsOf, refsL, Bool.or_false]; exact h
theorem setAt_refs : ∀ {ls : List AV} {k : Nat} {xs : List AV}, refsL p ls = false → refsL p xs = false → refsL p (setAt ls k xs) = false
  | ls, _, [], h, _ => by cases ls <;> exact h
  | [], _, _ :: _, h, _ => rfl
  | l :: ls, 0, x :: xs, h, k => by
    simp only [refsL, Bool.or_eq_false_iff] at h k
    simp only [setAt, refsL, k.1, setAt_refs h.2 k.2, Bool.or_false]
  | l :: ls, n + 1, x :: xs, h, k => by
    simp only [refsL, Bool.or_eq_false_iff] at h
    simp only [setAt, refsL, h.1, setAt_refs h.2 k, Bool.or_false]
theorem zA_refs (c : Ki) : refsL p (zA c) = false := by
  have h1 : ∀ c, (z1 c).refs p = false := fun c => by cases c <;> rfl
  have h2 : ∀ cs : List Ki, refsL p (cs.map z1) = false := fun cs => by
    induction cs with
    | nil => rfl
    | cons c cs ih => simp only [List.map_cons, refsL, h1, ih, Bool.or_false]
  cases c with
  | struct n => exact h2 _
  | _ => simp only [zA, refsL, h1, Bool.or_false]
theorem fillA_refs : ∀ {as : List (Nat × AV)} {ls : List AV}, refsL p ls = false → (∀ y ∈ as, y.2.refs p = false) → refsL p (fillA ls as) = false
  | [], ls, h, _ => h
  | (off, a) :: r, ls, h, k => fillA_refs (as := r) (setAt_refs h (cellsOf_refs (k (off, a) (by simp)))) fun y hy => k y (List.mem_cons_of_mem _ hy)
theorem Fre.evs {ts : List Nat} {xs : List O} (h : Fre p Γ ts) (hs : ∀ t ∈ xs.flatMap O.tm, t ∈ ts) {as : List AV} (he : Q.evs Γ xs = some as) : refsL p as = false := by
  induction xs generalizing as with
  | nil => cases he; rfl
  | cons o r ih =>
    simp only [List.flatMap_cons, List.mem_append] at hs
    simp only [Q.evs, Option.bind_eq_some_iff, Option.map_eq_some_iff] at he
    obtain ⟨x, e1, s, e2, rfl⟩ := he
    simp only [refsL, h.ev (fun t ht => hs t (.inl ht)) e1, ih (fun t ht => hs t (.inr ht)) e2, Bool.or_false]
theorem Fre.evp {ts : List Nat} {xs : List (Nat × Nat × O)} (h : Fre p Γ ts) (hs : ∀ t ∈ xs.flatMap (fun x => x.2.2.tm), t ∈ ts) {as : List (Nat × AV)} (he : Q.evp Γ xs = some as) : ∀ y ∈ as, y.2.refs p = false := by
  induction xs generalizing as with
  | nil => cases he; intro y hy; cases hy
  | cons z r ih =>
    obtain ⟨off, sz, o⟩ := z
    simp only [List.flatMap_cons, List.mem_append] at hs
    simp only [Q.evp, Option.bind_eq_some_iff] at he
    obtain ⟨x, e1, he⟩ := he
    split at he
    · simp only [Option.map_eq_some_iff] at he
      obtain ⟨s, e2, rfl⟩ := he
      intro y hy
      rcases List.mem_cons.1 hy with rfl | hy
      · exact h.ev (fun t ht => hs t (.inl ht)) e1
      · exact ih (fun t ht => hs t (.inr ht)) e2 y hy
    · cases he
/-- What is read leads to no label that was not led to before. -/
theorem rd_fr : ∀ {i : I} {Γ : Env} {x : AV} {d : Nat}, i.rd = true → i.dst = some d → Fre p Γ i.looks → vi S i Γ (fun Γ' => Same Γ' (Γ.puto x i.dst)) → x.refs p = false ∨ vi S i Γ (fun _ => False) := by
  intro i
  induction i with
  | mv d o =>
    intro Γ x e _ _ hF h
    obtain ⟨a, ea, h⟩ := need_iff h
    simp only [I.dst, Same_put] at h; subst h
    exact .inl (hF.ev (fun t ht => ht) ea)
  | nck d o =>
    intro Γ x e _ _ hF h
    obtain ⟨a, ea, h⟩ := need_iff h
    have hf := hF.ev (o := o) (fun t ht => ht) ea
    simp only [I.dst, Same_put] at h
    split at h
    · obtain ⟨y, _, rfl⟩ := h; exact .inl rfl
    · subst h; exact .inl hf
    · subst h; exact .inl hf
    · exact h.elim
  | un d u o =>
    intro Γ x e _ _ hF h
    obtain ⟨a, ea, h⟩ := need_iff h
    obtain ⟨b, eb, h⟩ := need_iff h
    simp only [I.dst, Same_put] at h; subst h
    unfold vu at eb
    split at eb <;> simp_all
    all_goals (subst eb; exact .inl rfl)
  | bi d b y z =>
    intro Γ x e _ _ hF h
    obtain ⟨a, ea, h⟩ := need_iff h
    obtain ⟨a', ea', h⟩ := need_iff h
    simp only [I.dst, Same_put] at h
    unfold vb at h
    split at h <;> first | exact h.elim | (obtain ⟨_, _, rfl⟩ := h; exact .inl rfl) | (obtain ⟨_, rfl⟩ := h; exact .inl rfl) | (subst h; exact .inl rfl)
  | be d ne y z =>
    intro Γ x e _ _ hF h
    obtain ⟨a, ea, h⟩ := need_iff h
    simp only [I.dst, Same_put] at h
    split at h
    · obtain ⟨a', ea', h⟩ := need_iff h
      split at h
      · subst h; exact .inl rfl
      · exact h.elim
    · exact h.elim
  | pk d c y z =>
    intro Γ x e _ _ hF h
    obtain ⟨a, ea, h⟩ := need_iff h
    simp only [I.dst, Same_put] at h
    split at h
    · rename_i b
      cases b with
      | true =>
        obtain ⟨a', ea', h⟩ := need_iff (h.1 rfl)
        subst h
        exact .inl (hF.ev (o := y) (fun t ht => by simp [I.looks, ht]) ea')
      | false =>
        obtain ⟨a', ea', h⟩ := need_iff (h.2 rfl)
        subst h
        exact .inl (hF.ev (o := z) (fun t ht => by simp [I.looks, ht]) ea')
    · exact h.elim
  | fa d o n j off =>
    intro Γ x e _ _ hF h
    obtain ⟨a, ea, h⟩ := need_iff h
    have hf := hF.ev (o := o) (fun t ht => ht) ea
    simp only [I.dst, Same_put] at h
    split at h
    · obtain ⟨y, _, h⟩ := h
      obtain ⟨z, _, h⟩ := need_iff h
      split at h
      · obtain ⟨_, rfl⟩ := h; exact .inl rfl
      · exact h.elim
    · subst h; exact .inl hf
    · subst h; exact .inl hf
    · exact h.elim
  | ia d o y c =>
    intro Γ x e _ _ hF h
    obtain ⟨a, ea, h⟩ := need_iff h
    have hf := hF.ev (o := o) (fun t ht => by simp [I.looks, ht]) ea
    obtain ⟨a', ea', h⟩ := need_iff h
    simp only [I.dst, Same_put] at h
    split at h
    · split at h
      · obtain ⟨_, _, _, rfl⟩ := h; exact .inl rfl
      · obtain ⟨q, _, h⟩ := need_iff h
        split at h
        · obtain ⟨_, _, _, rfl⟩ := h; exact .inl hf
        · exact h.elim
      · exact h.elim
    · exact h.elim
  | ld d o c =>
    intro Γ x e _ _ hF h
    obtain ⟨a, ea, h⟩ := need_iff h
    have hf := hF.ev (o := o) (fun t ht => ht) ea
    simp only [I.dst, Same_put] at h
    split at h
    · obtain ⟨y, _, _, rfl⟩ := h; exact .inl rfl
    · obtain ⟨q, eq, h⟩ := need_iff h
      split at h
      · rename_i ls
        have hb := hF.bx _ ls (by simpa [AV.refs] using hf) eq
        split at h
        · obtain ⟨_, rfl⟩ := h
          simp only [AV.refs]; exact .inl (refsL_take _ (refsL_drop _ hb))
        · obtain ⟨y, hy, _, rfl⟩ := h; exact .inl (refsL_get hb hy)
      · exact h.elim
    · obtain ⟨q, eq, h⟩ := need_iff h
      split at h
      · obtain ⟨_, _, _, _, _, rfl⟩ := h; exact .inl rfl
      · exact h.elim
    · exact h.elim
  | ln d st o =>
    intro Γ x e _ _ hF h
    cases st with
    | false =>
      obtain ⟨a, ea, h⟩ := need_iff h
      simp only [I.dst, Same_put] at h
      split at h
      · rename_i xs
        by_cases hl : ((List.length xs : Nat) : Int) ≤ 9223372036854775807
        · have := h hl; subst this; exact .inl rfl
        · exact .inr (need_mk ea fun hh => absurd hh hl)
      · rename_i l
        obtain ⟨q, eq, h⟩ := need_iff h
        split at h
        · rename_i xs
          by_cases hl : ((List.length xs : Nat) : Int) ≤ 9223372036854775807
          · have := h hl; subst this; exact .inl rfl
          · exact .inr (need_mk ea (need_mk eq fun hh => absurd hh hl))
        · exact h.elim
      · subst h; exact .inl rfl
      · exact h.elim
    | true =>
      obtain ⟨a, ea, h⟩ := need_iff h
      simp only [I.dst, Same_put] at h
      split at h
      · rename_i s
        by_cases hl : ((List.length s : Nat) : Int) ≤ 9223372036854775807
        · have := h hl; subst this; exact .inl rfl
        · exact .inr (need_mk ea fun hh => absurd hh hl)
      · exact h.elim
  | cv d f xs =>
    intro Γ x e _ hd' hF h
    cases hd'
    obtain ⟨as, ea, r, hs, h⟩ := need_iff h
    split at h
    · obtain ⟨_, h⟩ := h
      simp only [I.dst] at h
      have := Same_put.1 h
      subst this; exact .inl rfl
    · obtain ⟨_, h⟩ := h
      simp only [I.dst] at h
      have := Same_put.1 h
      subst this; exact .inl rfl
    · exact h.elim
  | mf d f xs =>
    intro Γ x e _ _ hF h
    obtain ⟨as, ea, _, h⟩ := need_iff h
    simp only [I.dst, Same_put] at h; subst h
    simp only [AV.refs]; exact .inl (hF.evs (fun t ht => ht) ea)
  | ge d ne y z =>
    intro Γ x e _ _ hF h
    obtain ⟨a, e1, h⟩ := need_iff h
    obtain ⟨a', e2, h⟩ := need_iff h
    obtain ⟨m, e3, h⟩ := need_iff h
    obtain ⟨n, e4, h⟩ := need_iff h
    simp only [I.dst, Same_put] at h; subst h; exact .inl rfl
  | ci d k y =>
    intro Γ x e _ _ hF h
    obtain ⟨a, e1, h⟩ := need_iff h
    split at h
    · simp only [I.dst, Same_put] at h; subst h; exact .inl rfl
    · exact h.elim
  | cs d y =>
    intro Γ x e _ _ hF h
    obtain ⟨a, e1, h⟩ := need_iff h
    obtain ⟨xs, e2, h⟩ := need_iff h
    simp only [I.dst, Same_put] at h; subst h; exact .inl rfl
  | ix d y i =>
    intro Γ x e _ _ hF h
    obtain ⟨a, e1, h⟩ := need_iff h
    split at h
    · obtain ⟨b, e2, h⟩ := need_iff h
      split at h
      · obtain ⟨_, _, h⟩ := h
        simp only [I.dst, Same_put] at h; subst h; exact .inl rfl
      · exact h.elim
    · exact h.elim
  | xt d y i =>
    intro Γ x e _ _ hF h
    obtain ⟨a, e1, h⟩ := need_iff h
    split at h
    · rename_i as
      obtain ⟨b, e2, h⟩ := need_iff h
      simp only [I.dst, Same_put] at h; subst h
      have := hF.ev (o := y) (fun t ht => by simp [I.looks, ht]) e1
      simp only [AV.refs] at this
      exact .inl (refsL_get this e2)
    · exact h.elim
  | s0 d y c =>
    intro Γ x e _ _ hF h
    obtain ⟨a, e1, h⟩ := need_iff h
    obtain ⟨b, e2, h⟩ := need_iff h
    simp only [I.dst, Same_put] at h; subst h; exact .inl rfl
  | nm d =>
    intro Γ x e _ _ hF h
    simp only [vi, I.dst, Same_put] at h; subst h; exact .inl rfl
  | ss d y lo hi c =>
    intro Γ x e _ _ hF h
    obtain ⟨a, e1, h⟩ := need_iff h
    obtain ⟨b, e2, h⟩ := need_iff h
    obtain ⟨i, e3, h⟩ := need_iff h
    obtain ⟨j, e4, h⟩ := need_iff h
    obtain ⟨_, _, _, h⟩ := h
    simp only [I.dst, Same_put] at h; subst h; exact .inl rfl
  | sm d y lo hi mx c =>
    intro Γ x e _ _ hF h
    obtain ⟨a, e1, h⟩ := need_iff h
    obtain ⟨b, e2, h⟩ := need_iff h
    obtain ⟨i, e3, h⟩ := need_iff h
    obtain ⟨j, e4, h⟩ := need_iff h
    obtain ⟨m, e5, h⟩ := need_iff h
    obtain ⟨_, _, _, _, h⟩ := h
    simp only [I.dst, Same_put] at h; subst h; exact .inl rfl
  | af d c y z =>
    intro Γ x e _ _ hF h
    obtain ⟨a, e1, h⟩ := need_iff h
    split at h
    · obtain ⟨b, e2, h⟩ := need_iff h
      obtain ⟨zs, e3, _, _, h⟩ := need_iff h
      simp only [I.dst, Same_put] at h; subst h; exact .inl rfl
    · obtain ⟨ys, e0, h⟩ := need_iff h
      obtain ⟨b, e2, h⟩ := need_iff h
      obtain ⟨zs, e3, _, _, h⟩ := need_iff h
      simp only [I.dst, Same_put] at h; subst h; exact .inl rfl
    · exact h.elim
  | bf d c xs =>
    intro Γ x e _ _ hF h
    obtain ⟨a, e1, h⟩ := need_iff h
    obtain ⟨b, e2, _, h⟩ := need_iff h
    simp only [I.dst, Same_put] at h; subst h; exact .inl rfl
  | sx d y lo hi =>
    intro Γ x e _ _ hF h
    obtain ⟨a, e1, h⟩ := need_iff h
    split at h
    · obtain ⟨b, e2, h⟩ := need_iff h
      obtain ⟨c, e3, h⟩ := need_iff h
      obtain ⟨_, _, _, h⟩ := h
      simp only [I.dst, Same_put] at h; subst h; exact .inl rfl
    · exact h.elim
  | bd d n xs =>
    intro Γ x e _ _ hF h
    obtain ⟨as, ea, h⟩ := need_iff h
    simp only [I.dst, Same_put] at h; subst h
    simp only [AV.refs]; exact .inl (fillA_refs (zA_refs _) (hF.evp (fun t ht => ht) ea))
  | bs d dp c xs =>
    cases xs with
    | cons x xs => intro _ _ _ h; cases h
    | nil =>
      intro Γ x e _ _ hF h
      simp only [vi, I.dst, Same_put] at h; subst h; exact .inl rfl
  | g t b i ih =>
    intro Γ x e hr hd' hF h
    obtain ⟨a, ea, h⟩ := need_iff h
    split at h
    · rename_i y
      by_cases hb : y = b
      · subst hb
        have h1 : vi S i ⟨(t, .v .bool y) :: Γ.tm, Γ.ob⟩ (fun Γ' => Same Γ' ((⟨(t, .v .bool y) :: Γ.tm, Γ.ob⟩ : Env).puto x i.dst)) := vi_imp (fun Γ' (hh : Same Γ' (Γ.puto x i.dst)) => hh.trans ((Same_again ea).symm.puto x i.dst)) hr (h.1 rfl)
        have hF' : Fre p ⟨(t, .v .bool y) :: Γ.tm, Γ.ob⟩ i.looks := by
          refine ⟨fun t' ht x' hx' => ?_, hF.bx⟩
          simp only [lk] at hx'
          split at hx'
          · cases hx'; rfl
          · exact hF.fr t' (by simp [I.looks, ht]) x' hx'
        rcases ih hr hd' hF' h1 with h2 | h2
        · exact .inl h2
        · exact .inr (need_mk ea ⟨fun _ => h2, fun hb => by cases y <;> cases hb⟩)
      · have hy : y = !b := by cases y <;> cases b <;> simp_all
        subst hy
        have h2 := h.2 rfl
        rw [skip_puto] at h2
        have hd2 : i.dst = some e := hd'
        have h3 := h2.1 e
        simp only [I.dst, hd2, Env.puto, lk_put, if_true, Option.some.injEq] at h3
        subst h3; exact .inl rfl
    · have h2 : Same (Γ.skip i.dst) (Γ.puto x i.dst) := h
      rw [skip_puto] at h2
      have hd2 : i.dst = some e := hd'
      have h3 := h2.1 e
      simp only [hd2, Env.puto, lk_put, if_true, Option.some.injEq] at h3
      subst h3; exact .inl rfl
    · exact h.elim
  | _ => intro _ _ _ h; cases h
theorem intro_refs {d : Nat} (hp : ∀ l, hd d l = true → p l = false) (r : RA) : (r.intro [d]).1.refs p = false ∧ ∀ l ls, lo (r.intro [d]).2 l = some (.box ls) → refsL p ls = false := by
  have pre : ∀ (x : AV), (x.pre d).refs p = false ∧ True := fun x => ⟨preR x, trivial⟩
  refine ⟨by rw [(intro_pre d [] r).1]; exact preR _, fun l ls h => ?_⟩
  rw [(intro_pre d [] r).2] at h
  obtain ⟨l', o', rfl, e, _⟩ := lo_preO _ _ _ h
  cases o' with
  | row _ _ _ _ => simp [Ob.pre] at e
  | mp _ _ _ => simp [Ob.pre] at e
  | box ls' => simp only [Ob.pre, Ob.box.injEq] at e; subst e; exact preRL ls'
where
  preR : ∀ (x : AV), (x.pre d).refs p = false
    | .sl l => hp (d :: l) (by simp [hd])
    | .pt l o => hp (d :: l) (by simp [hd])
    | .ep l c i o => hp (d :: l) (by simp [hd])
    | .ag n ls => preRL ls
    | .fn f cs => preRL cs
    | .tu vs => preRL vs
    | .v c x => rfl
    | .nl c => rfl
    | .cl c xs => rfl
    | .mp l => hp (d :: l) (by simp [hd])
    | .ls l c n => hp (d :: l) (by simp [hd])
    | .no => rfl
    | .ud => rfl
  preRL : ∀ (xs : List AV), refsL p (preL d xs) = false
    | [] => rfl
    | x :: xs => by simp only [preL, refsL, preR x, preRL xs, Bool.or_false]
theorem prd_fr {i : I} {x : AV} {obs : List (Lab × Ob)} {d : Nat} (hd' : i.dst = some d) (hp : ∀ l, hd d l = true → p l = false) (hF : Fre p Γ i.looks) (h : Prd S i Γ x obs) :
    x.refs p = false ∧ ∀ l ls, lo obs l = some (.box ls) → refsL p ls = false := by
  have h1 : p [d] = false := hp [d] (by simp [hd])
  cases i with
  | al e c =>
    cases hd'; obtain ⟨rfl, rfl⟩ := h
    refine ⟨h1, fun l ls hl => ?_⟩
    simp only [lo] at hl
    split at hl
    · cases hl; exact zA_refs c
    · cases hl
  | bx e o c =>
    cases hd'; obtain ⟨a, e, _, rfl, rfl⟩ := h
    refine ⟨h1, fun l ls hl => ?_⟩
    simp only [lo] at hl
    split at hl
    · cases hl
      refine cellsOf_refs ?_
      cases o with
      | t n =>
        simp only [ev, Env.kill, lk_killT, Option.map_eq_some_iff] at e
        obtain ⟨y, hy, rfl⟩ := e
        have := hF.fr n (by simp [I.looks, O.tm]) y hy
        unfold AV.kill
        split
        · rfl
        · exact this
      | _ => simp only [ev, Option.some.injEq] at e; subst e; rfl
    · cases hl
  | mk e dp c n =>
    cases hd'; obtain ⟨k, m, _, _, _, _, rfl, rfl⟩ := h
    exact ⟨h1, fun l ls hl => by simp only [lo] at hl; split at hl <;> cases hl⟩
  | ca e f xs =>
    cases hd'; obtain ⟨as, r, _, _, _, rfl, rfl⟩ := h
    exact intro_refs hp r
  | cf e y xs =>
    cases hd'; obtain ⟨f, as, r, _, _, _, _, rfl, rfl⟩ := h
    exact intro_refs hp r
  | bl e c xs =>
    cases hd'; obtain ⟨as, e1, he0, rfl, rfl⟩ := h
    clear he0
    refine ⟨h1, fun l ls hl => ?_⟩
    simp only [lo] at hl
    split at hl
    · cases hl
      have hA := (Agr.kill (p := p) (Γ := Γ) (Γ2 := Γ) (ts := (I.bl d c xs).looks) ⟨fun _ _ => rfl, fun _ _ => rfl, hF.fr, hF.bx⟩ (hd d))
      have hf := Fre.evs (Γ := Γ.kill (hd d)) ⟨hA.fr, hA.bx⟩ (fun t ht => ht) e1
      clear e1
      induction as with
      | nil => rfl
      | cons a as ih =>
        simp only [refsL, Bool.or_eq_false_iff] at hf
        rw [List.flatMap_cons]
        exact refsL_append (cellsOf_refs hf.1) (ih hf.2)
    · cases hl
  | bs e dp c xs =>
    cases hd'
    cases xs with
    | nil => exact h.elim
    | cons y ys =>
      obtain ⟨as, zs, _, _, _, rfl, rfl⟩ := h
      exact ⟨h1, fun l ls hl => by simp only [lo] at hl; split at hl <;> cases hl⟩
  | an e dp c o y =>
    cases hd'; obtain ⟨c', b, zs, _, _, _, _, _, rfl, rfl⟩ := h
    exact ⟨h1, fun l ls hl => by simp only [lo] at hl; split at hl <;> cases hl⟩
  | _ => exact h.elim
end
end Go.Q

set_option linter.unusedVariables false
set_option linter.unusedSimpArgs false
namespace Go.Q
def I.cdst (i : I) : Option Nat := if i.cr then i.dst else none
def dsts (is : List I) : List Nat := is.filterMap I.dst
def cdsts (is : List I) : List Nat := is.filterMap I.cdst
/-- Nothing is overwritten. -/
def stat : List I → Bool
  | [] => true
  | i :: is => (i.rd || i.cr) && (match i.dst with | some d => !(dsts is).contains d | none => true) && i.looks.all (fun t => !(dsts (i :: is)).contains t) && stat is
def edg (o : Oper) : List Nat := (o.after.toList.filter (Region.binds .any)).map Edge.on
def chkE (ops : List Oper) : Bool := (List.range ops.length).all fun i => match ops[i]? with | some o => (edg o).all fun j => Nat.blt j i | none => true
def chkP (ps : List I) (ops : List Oper) : Bool := (List.range ps.length).all fun i => match ps[i]?, ops[i]? with
  | some p, some o => p.looks.all fun t => (List.range ps.length).all fun j => (ps[j]?.bind I.dst) != some t || (edg o).contains j
  | _, _ => true
/-- What stands ahead of each, through others too. -/
def cloA : List Oper → List (List Nat) → List (List Nat)
  | [], acc => acc
  | o :: os, acc => cloA os (acc ++ [(List.range acc.length).filter fun k => (edg o).any fun j => Nat.blt j acc.length && (j == k || (acc.getD j []).contains k)])
def chkT (n : Nat) (ops : List Oper) : Bool :=
  let cl := cloA ops []
  (List.range ops.length).all fun i => Nat.blt i n || (List.range i).all fun j => (cl.getD i []).contains j
def drM (P : Program) (N : Nat) (ds : List Nat) (ps ts : List I) (ops : List Oper) : Bool :=
  P.follows .mixedOrders && gms P N ops (ps ++ ts) ops && stat ps && chkE ops && chkP ps ops && chkT ps.length ops && ds == cdsts ps
section
variable {S : FuncId → List SA → RA → Prop} {P : Program} {N : Nat} {G : Gd} {σ : Lab → Value} {ow : Own} {w : World} {a : Act} {Γ : Env} {K : Env → Prop} {Q : Exit → Act → World → Prop} {o : Oper}
theorem wp_some {next : Act → World → Prop} (h : o.wp P a w next fun _ _ _ => False) : ∃ a' w', next a' w' := by
  unfold Oper.wp at h
  generalize (execOp a.eval o).run P w = r at h
  cases r with
  | ok n w' =>
    cases n with
    | value v => exact ⟨_, _, h⟩
    | skip => exact ⟨_, _, h⟩
    | defer d => exact ⟨_, _, h⟩
    | enter f args =>
      obtain ⟨e, w'', fr, hR, _⟩ := h []
      cases e with
      | returned v => exact ⟨_, _, hR⟩
      | panicked c => exact hR.elim
      | outgrown => obtain ⟨_, _, h⟩ := hR; exact h.elim
    | row row args =>
      obtain ⟨v, w', h, _⟩ := h default []
      exact ⟨_, _, h⟩
    | _ => exact h.elim
  | halt x w' =>
    cases x <;> exact h.elim

theorem hds_iff {ds : List Nat} {l : Lab} : hds ds l = true ↔ ∃ d ∈ ds, hd d l = true := by
  cases l with
  | nil => simp [hds, hd]
  | cons n l =>
    simp only [hds, List.contains_iff_mem, hd, beq_iff_eq]
    constructor
    · intro h; exact ⟨n, h, rfl⟩
    · rintro ⟨d, h, rfl⟩; exact h
theorem hds_dst {is : List I} {l : Lab} {d : Nat} (h : hds (cdsts is) l = true) (hl : hd d l = true) : d ∈ dsts is := by
  obtain ⟨d', h1, h2⟩ := hds_iff.1 h
  have e : d' = d := by
    cases l with
    | nil => simp [hd] at h2
    | cons n l => simp only [hd, beq_iff_eq] at h2 hl; omega
  rw [e] at h1
  simp only [cdsts, List.mem_filterMap] at h1
  obtain ⟨j, hj, hjd⟩ := h1
  unfold I.cdst at hjd
  split at hjd
  · exact List.mem_filterMap.2 ⟨j, hj, hjd⟩
  · cases hjd
mutual
theorem refs_or {p q : Lab → Bool} : ∀ (x : AV), x.refs (fun l => p l || q l) = (x.refs p || x.refs q)
  | .v _ _ => rfl
  | .sl _ => rfl
  | .pt _ _ => rfl
  | .ep _ _ _ _ => rfl
  | .ag _ ls => refsL_or ls
  | .fn _ ls => refsL_or ls
  | .tu ls => refsL_or ls
  | .nl _ => rfl
  | .cl _ _ => rfl
  | .mp _ => rfl
  | .ls _ _ _ => rfl
  | .no => rfl
  | .ud => rfl
theorem refsL_or {p q : Lab → Bool} : ∀ (xs : List AV), refsL (fun l => p l || q l) xs = (refsL p xs || refsL q xs)
  | [] => rfl
  | x :: xs => by simp only [refsL, refs_or x, refsL_or xs]; cases x.refs p <;> cases x.refs q <;> cases refsL p xs <;> cases refsL q xs <;> rfl
end
theorem refs_mono {p q : Lab → Bool} (h : ∀ l, q l = true → p l = true) {x : AV} (hx : x.refs p = false) : x.refs q = false := by
  have e : p = fun l => p l || q l := by
    funext l
    cases hq : q l with
    | false => simp
    | true => simp [h l hq]
  rw [e, refs_or, Bool.or_eq_false_iff] at hx
  exact hx.2
theorem refsL_mono {p q : Lab → Bool} (h : ∀ l, q l = true → p l = true) {x : List AV} (hx : refsL p x = false) : refsL q x = false := by
  have e : p = fun l => p l || q l := by
    funext l
    cases hq : q l with
    | false => simp
    | true => simp [h l hq]
  rw [e, refsL_or, Bool.or_eq_false_iff] at hx
  exact hx.2
theorem Free.mono {p q : Lab → Bool} (h : ∀ l, q l = true → p l = true) (hF : Free p Γ) : Free q Γ :=
  ⟨fun t x hx => refs_mono h (hF.tm t x hx), fun l o ho => by
    obtain ⟨h1, h2⟩ := hF.ob l o ho
    refine ⟨?_, fun ls e => refsL_mono h (h2 ls e)⟩
    cases hq : q l with
    | false => rfl
    | true => rw [h l hq] at h1; cases h1⟩
theorem Free.same' {p : Lab → Bool} {Γ' : Env} (hF : Free p Γ) (h : Same Γ' Γ) : Free p Γ' :=
  ⟨fun t x hx => hF.tm t x ((h.1 t).symm.trans hx), fun l o ho => hF.ob l o ((h.2 l).symm.trans ho)⟩
theorem Free.fre {p : Lab → Bool} (hF : Free p Γ) (ts : List Nat) : Fre p Γ ts := ⟨fun t _ x hx => hF.tm t x hx, fun l ls _ ho => (hF.ob l _ ho).2 ls rfl⟩
theorem Free.adds {p : Lab → Bool} (hF : Free p Γ) {x : AV} {obs : List (Lab × Ob)} (hx : x.refs p = false) (ho : ∀ l o, lo obs l = some o → p l = false ∧ ∀ ls, o = .box ls → refsL p ls = false) : ∀ d, Free p (Γ.adds x obs d)
  | none => hF
  | some d => by
    refine ⟨fun t y hy => ?_, fun l o h => ?_⟩
    · simp only [Env.adds, lk] at hy
      split at hy
      · cases hy; exact hx
      · exact hF.tm t y hy
    · simp only [Env.adds, lo_append] at h
      split at h
      · rename_i q hq
        cases h
        exact ho l _ hq
      · exact hF.ob l o h
/-- What is known of an instruction, once all have run one after the other. -/
structure Fact (S : FuncId → List SA → RA → Prop) (E : Env) (q : Lab → Bool) (i : I) (x : AV) (obs : List (Lab × Ob)) (Γi : Env) : Prop where
  lks : ∀ t ∈ i.looks, lk E.tm t = lk Γi.tm t
  lobs : ∀ l, q l = false → lo E.ob l = lo Γi.ob l
  free : Free q Γi
  at' : ∀ d, i.dst = some d → lk E.tm d = some x
  rd : i.rd = true → obs = [] ∧ vi S i Γi (fun Γ' => Same Γ' (Γi.puto x i.dst))
  cr : i.rd = false → ∃ d, i.cr = true ∧ i.dst = some d ∧ Prd S i Γi x obs ∧ (∀ l o, lo obs l = some o → hd d l = true) ∧ ∀ l, hd d l = true → lo E.ob l = lo obs l
theorem rd_cr {i : I} (h : i.rd = true) : i.cr = false := by
  cases i <;> first | rfl | cases h | skip
  case bs d dp c xs => cases xs <;> first | rfl | cases h
theorem chain (hS : ∀ f as r, S f as r → Sp P f as r) {ops : List Oper} : ∀ {is : List I} {l : List Oper} {σ : Lab → Value} {ow : Own} {w : World} {a : Act} {Γ : Env}, stat is = true → gms P N ops is l = true → Rep N G σ ow w a Γ → Free (hds (cdsts is)) Γ → vs S is Γ K →
    ∃ E, K E ∧ (∀ t, t ∉ dsts is → lk E.tm t = lk Γ.tm t) ∧ (∀ l, hds (cdsts is) l = false → lo E.ob l = lo Γ.ob l) ∧ ∀ k i, is[k]? = some i → ∃ x obs Γi, Fact S E (hds (cdsts (is.drop k))) i x obs Γi
  | [], l, σ, ow, w, a, Γ, _, _, _, _, h => ⟨Γ, h, fun _ _ => rfl, fun _ _ => rfl, fun k i h => by simp at h⟩
  | i :: is, [], _, _, _, _, _, _, hm, _, _, _ => by simp [gms] at hm
  | i :: is, o :: l, σ, ow, w, a, Γ, hs, hm, hr, hF, h => by
    simp only [gms, Bool.and_eq_true] at hm
    simp only [stat, Bool.and_eq_true, Bool.or_eq_true] at hs
    obtain ⟨⟨⟨hrd, hd'⟩, hl⟩, hst⟩ := hs
    have hsub : ∀ l, hds (cdsts is) l = true → hds (cdsts (i :: is)) l = true := fun l hl => by
      obtain ⟨d, h1, h2⟩ := hds_iff.1 hl
      refine hds_iff.2 ⟨d, ?_, h2⟩
      simp only [cdsts, List.filterMap_cons] at h1 ⊢
      split
      · exact h1
      · exact List.mem_cons_of_mem _ h1
    -- what the step gives
    have step : ∃ x obs a' w' Γ' σ' ow', Same Γ' (Γ.adds x obs i.dst) ∧ vs S is Γ' K ∧ Rep N G σ' ow' w' a' Γ' ∧ x.refs (hds (cdsts is)) = false ∧ (∀ l ls, lo obs l = some (.box ls) → refsL (hds (cdsts is)) ls = false) ∧
        (i.rd = true → obs = [] ∧ vi S i Γ (fun Γ' => Same Γ' (Γ.puto x i.dst))) ∧ (i.rd = false → ∃ d, i.cr = true ∧ i.dst = some d ∧ Prd S i Γ x obs ∧ ∀ l o, lo obs l = some o → hd d l = true) := by
      by_cases hrd' : i.rd = true
      · obtain ⟨x, hx⟩ := vi_det hrd' h
        have hx2 : vi S i Γ (fun Γ' => Same Γ' (Γ.puto x i.dst)) := vi_imp (fun Γ' h => h.1) hrd' hx
        have h1 := snd_g (Q := fun _ _ _ => False) hS hr hm.1 hx
        obtain ⟨a', w', Γ', σ', ow', ⟨hsame, hk⟩, hr', _⟩ : ∃ a' w', Post N G ow w (fun Γ' => Same Γ' (Γ.puto x i.dst) ∧ vs S is Γ' K) a' w' := by
          split at h1
          · exact wp_some h1
          · exact ⟨_, _, h1⟩
        have hxr : x.refs (hds (cdsts is)) = false ∨ i.dst = none := by
          cases hdd : i.dst with
          | none => exact .inr rfl
          | some d =>
            rcases rd_fr (p := hds (cdsts is)) hrd' hdd ((hF.mono hsub).fre _) hx2 with h2 | h2
            · exact .inl h2
            · exfalso
              have h3 := snd_g (Q := fun _ _ _ => False) hS hr hm.1 h2
              have h4 : ∃ a' w', Post N G ow w (fun _ => False) a' w' := by
                split at h3
                · exact wp_some h3
                · exact ⟨_, _, h3⟩
              obtain ⟨_, _, _, _, _, hf, _⟩ := h4
              exact hf
        rcases hxr with hxr | hxr
        · exact ⟨x, [], a', w', Γ', σ', ow', by rw [adds_nil]; exact hsame, hk, hr', hxr, fun l ls h => (by simp [lo] at h), fun _ => ⟨rfl, hx2⟩, fun h => (by rw [hrd'] at h; cases h)⟩
        · refine ⟨.no, [], a', w', Γ', σ', ow', ?_, hk, hr', rfl, fun l ls h => (by simp [lo] at h), fun _ => ⟨rfl, ?_⟩, fun h => (by rw [hrd'] at h; cases h)⟩
          · rw [hxr] at hsame ⊢; exact hsame
          · rw [hxr] at hx2 ⊢; exact hx2
      · have hcr : i.cr = true := hrd.resolve_left hrd'
        have hrdf : i.rd = false := by simpa using hrd'
        obtain ⟨d, x, obs, hdd, hp, hh, hk⟩ := vi_prd hcr h
        have hsub2 : ∀ l, hd d l = true → hds (cdsts (i :: is)) l = true := fun l hl => hds_iff.2 ⟨d, by simp [cdsts, List.filterMap_cons, I.cdst, hcr, hdd], hl⟩
        have hx2 : vi S i Γ (fun Γ' => Γ' = Γ.made d x obs) := prd_vi hdd hp rfl
        have h1 := snd_g (Q := fun _ _ _ => False) hS hr hm.1 hx2
        obtain ⟨a', w', Γ', σ', ow', hsame, hr', _⟩ : ∃ a' w', Post N G ow w (fun Γ' => Γ' = Γ.made d x obs) a' w' := by
          split at h1
          · exact wp_some h1
          · exact ⟨_, _, h1⟩
        subst hsame
        have hfd : Free (hd d) Γ := hF.mono hsub2
        have hnd : ∀ l, hd d l = true → hds (cdsts is) l = false := fun l hl => by
          cases hq : hds (cdsts is) l with
          | false => rfl
          | true =>
            exfalso
            rw [hdd] at hd'
            have h3 : d ∉ dsts is := by simpa using hd'
            exact h3 (hds_dst hq hl)
        obtain ⟨k1, k2⟩ := prd_fr hdd hnd ((hF.mono hsub).fre _) hp
        refine ⟨x, obs, a', w', _, σ', ow', by rw [hdd]; exact made_same hfd x obs, hk, hr', k1, k2, fun h => (by rw [hrdf] at h; cases h), fun _ => ⟨d, hcr, hdd, hp, hh⟩⟩
    obtain ⟨x, obs, a', w', Γ', σ', ow', hsame, hk, hr', hxr, hor, hrdc, hcrc⟩ := step
    have hoh : ∀ l o, lo obs l = some o → hds (cdsts is) l = false := fun l o hlo => by
      by_cases hrd' : i.rd = true
      · rw [(hrdc hrd').1] at hlo; simp [lo] at hlo
      · obtain ⟨d, hcr, hdd, hp, hh⟩ := hcrc (by simpa using hrd')
        have hl' := hh l o hlo
        cases hq : hds (cdsts is) l with
        | false => rfl
        | true =>
          exfalso
          rw [hdd] at hd'
          have h3 : d ∉ dsts is := by simpa using hd'
          exact h3 (hds_dst hq hl')
    have hF' : Free (hds (cdsts is)) Γ' := ((hF.mono hsub).adds hxr (fun l o hlo => ⟨hoh l o hlo, fun ls e => hor l ls (e ▸ hlo)⟩) i.dst).same' hsame
    obtain ⟨E, hE, hlk, hlo, hf⟩ := chain hS hst hm.2 hr' hF' hk
    have hlk' : ∀ t, t ∉ dsts (i :: is) → lk E.tm t = lk Γ.tm t := fun t ht => by
      have h2 : t ∉ dsts is := fun h => ht (by simp only [dsts, List.filterMap_cons]; split <;> simp_all [dsts])
      rw [hlk t h2, hsame.1 t]
      cases hi : i.dst with
      | none => rfl
      | some d =>
        simp only [Env.adds, lk]
        rw [if_neg]
        rintro rfl
        exact ht (by simp [dsts, hi])
    have hlo' : ∀ l, hds (cdsts (i :: is)) l = false → lo E.ob l = lo Γ.ob l := fun l hl' => by
      have h2 : hds (cdsts is) l = false := by
        cases hq : hds (cdsts is) l with
        | false => rfl
        | true => rw [hsub l hq] at hl'; cases hl'
      rw [hlo l h2, hsame.2 l]
      by_cases hrd' : i.rd = true
      · rw [(hrdc hrd').1, adds_nil]
        cases i.dst <;> rfl
      · obtain ⟨d, hcr, hdd, hp, hh⟩ := hcrc (by simpa using hrd')
        rw [hdd]
        simp only [Env.adds, lo_append]
        split
        · rename_i q hq
          have h3 : hds (cdsts (i :: is)) l = true := hds_iff.2 ⟨d, by simp [cdsts, List.filterMap_cons, I.cdst, hcr, hdd], hh l q hq⟩
          rw [h3] at hl'; cases hl'
        · rfl
    refine ⟨E, hE, hlk', hlo', fun k j hj => ?_⟩
    cases k with
    | succ k => simpa using hf k j (by simpa using hj)
    | zero =>
      simp only [List.getElem?_cons_zero, Option.some.injEq] at hj
      subst hj
      refine ⟨x, obs, Γ, fun t ht => hlk' t ?_, hlo', hF, fun d hdd => ?_, hrdc, fun hrdf => ?_⟩
      · have := List.all_eq_true.1 hl t ht
        simpa using this
      · rw [hdd] at hd'
        have : d ∉ dsts is := by simpa using hd'
        rw [hlk d this, hsame.1 d, hdd]
        simp [Env.adds, lk]
      · obtain ⟨d, hcr, hdd, hp, hh⟩ := hcrc hrdf
        refine ⟨d, hcr, hdd, hp, hh, fun l hl' => ?_⟩
        have hdn : d ∉ dsts is := by rw [hdd] at hd'; simpa using hd'
        have h2 : hds (cdsts is) l = false := by
          cases hq : hds (cdsts is) l with
          | false => rfl
          | true =>
            exfalso
            exact hdn (hds_dst hq hl')
        rw [hlo l h2, hsame.2 l, hdd]
        simp only [Env.adds, lo_append]
        split
        · rename_i q hq; exact hq.symm
        · rename_i hq
          rw [hq]
          cases hlg : lo Γ.ob l with
          | none => rfl
          | some q =>
            have h4 := (hF.ob l q hlg).1
            have h3 : hds (cdsts (i :: is)) l = true := hds_iff.2 ⟨d, by simp [cdsts, List.filterMap_cons, I.cdst, hcr, hdd], hl'⟩
            rw [h3] at h4
            cases h4
theorem Rep.of_same {Γ' : Env} (hr : Rep N G σ ow w a Γ) (h : Same Γ' Γ) : Rep N G σ ow w a Γ' :=
  ⟨hr.size, hr.defers, fun t x hx => hr.tm t x ((h.1 t).symm.trans hx), fun l q hq => hr.ob l q ((h.2 l).symm.trans hq), hr.own, hr.top, fun l q hq => hr.pin l q ((h.2 l).symm.trans hq), hr.big⟩
theorem gms_at {ops : List Oper} : ∀ {is : List I} {l : List Oper}, gms P N ops is l = true → is.length = l.length ∧ ∀ (k : Nat) (i : I) (o : Oper), is[k]? = some i → l[k]? = some o → i.gm P N ops o = true
  | [], [], _ => ⟨rfl, fun k i o h => by simp at h⟩
  | [], _ :: _, hm => by simp [gms] at hm
  | _ :: _, [], hm => by simp [gms] at hm
  | i :: is, o :: l, hm => by
    simp only [gms, Bool.and_eq_true] at hm
    obtain ⟨h1, h2⟩ := gms_at hm.2
    refine ⟨by simp [h1], fun k i' o' hi ho => ?_⟩
    cases k with
    | zero => simp at hi ho; subst hi ho; exact hm.1
    | succ k => exact h2 k i' o' (by simpa using hi) (by simpa using ho)
theorem mem_edg {o : Oper} {j : Nat} : j ∈ edg o ↔ ∃ e ∈ o.after, Region.binds .any e = true ∧ e.on = j := by
  simp [edg, and_assoc]
/-- The operations that have run. -/
structure Lst (n : Nat) (U : List Nat) (listed : Array Bool) : Prop where
  iff : ∀ i, listed.getD i true = false ↔ i ∈ U
  lt : ∀ i ∈ U, i < n
  no : ∀ i, i < n → i ∉ U → listed.getD i false = true
  nodup : U.Nodup
theorem Lst.start (n : Nat) : Lst n (List.range n) (Array.replicate n false) :=
  ⟨fun i => by by_cases h : i < n <;> simp [Array.getD, h], fun i h => by simpa using h, fun i h h' => by simp at h'; omega, List.nodup_range⟩
theorem Lst.step {n : Nat} {U : List Nat} {listed : Array Bool} (h : Lst n U listed) {i : Nat} (hi : i ∈ U) : Lst n (U.erase i) (listed.setIfInBounds i true) := by
  have hself : ∀ d, (listed.setIfInBounds i true).getD i d = true := fun d => by
    have h1 := (h.iff i).2 hi
    have hlt : i < listed.size := by
      rcases Nat.lt_or_ge i listed.size with h' | h'
      · exact h'
      · simp [Array.getD, Nat.not_lt.2 h'] at h1
    simp [Array.getD, hlt]
  refine ⟨fun j => ?_, fun j hj => h.lt j (List.mem_of_mem_erase hj), fun j hlt hj => ?_, h.nodup.erase i⟩
  · by_cases e : i = j
    · subst e
      rw [hself]
      have := h.nodup.not_mem_erase (a := i)
      simp [this]
    · rw [getD_set_ne _ e, h.iff j, List.mem_erase_of_ne (Ne.symm e)]
  · by_cases e : i = j
    · subst e; exact hself false
    · rw [getD_set_ne _ e]
      exact h.no j hlt fun hj' => hj ((List.mem_erase_of_ne (Ne.symm e)).2 hj')
theorem Lst.ready {n : Nat} {U : List Nat} {listed : Array Bool} {ops : List Oper} (h : Lst n U listed) {i : Nat} (hi : i ∈ Region.ready .any ops.toArray listed) :
    i ∈ U ∧ ∃ o, ops[i]? = some o ∧ ∀ j ∈ edg o, j ∉ U := by
  rw [mem_ready] at hi
  obtain ⟨h1, o, ho, h2⟩ := hi
  refine ⟨(h.iff i).1 h1, o, by simpa using ho, fun j hj hU => ?_⟩
  obtain ⟨e, he, hb, rfl⟩ := mem_edg.1 hj
  have h3 := h2 e he hb
  have h4 := (h.iff e.on).2 hU
  rcases Nat.lt_or_ge e.on listed.size with h' | h'
  · simp [Array.getD, h'] at h3 h4; rw [h3] at h4; cases h4
  · simp [Array.getD, Nat.not_lt.2 h'] at h4
theorem Lst.some' {n : Nat} {U : List Nat} {listed : Array Bool} {ops : List Oper} (h : Lst n U listed) (hn : ops.length = n) (hE : chkE ops = true) (hne : U ≠ []) : Region.ready .any ops.toArray listed ≠ [] := by
  intro he
  have key : ∀ k i, i < k → i ∉ U := by
    intro k
    induction k with
    | zero => intro i hi; omega
    | succ k ih =>
      intro i hi hU
      have hlt := h.lt i hU
      have hr : i ∈ Region.ready .any ops.toArray listed := by
        rw [mem_ready]
        refine ⟨(h.iff i).2 hU, ops[i]'(by omega), by simp [hn, hlt], fun e hee hb => ?_⟩
        have h1 := List.all_eq_true.1 hE i (by simp [hn, hlt])
        have ho : ops[i]? = some (ops[i]'(by omega)) := List.getElem?_eq_getElem (by omega)
        rw [ho] at h1
        have h2 := List.all_eq_true.1 h1 e.on (mem_edg.2 ⟨e, hee, hb, rfl⟩)
        have h3 : e.on < i := by simpa [Nat.blt_eq] using h2
        exact h.no _ (by omega) (ih _ (by omega))
      rw [he] at hr
      cases hr
  obtain ⟨i, hi⟩ := List.exists_mem_of_ne_nil U hne
  exact key (i + 1) i (by omega) hi
end
end Go.Q

set_option linter.unusedVariables false
set_option linter.unusedSimpArgs false
namespace Go.Q
section
variable {S : FuncId → List SA → RA → Prop} {P : Program} {N : Nat} {G : Gd} {K : Env → Prop} {Q : Exit → Act → World → Prop}
/-- What the closure is made of. -/
def CloOk (ops : List Oper) (acc : List (List Nat)) : Prop :=
  ∀ i o, i < acc.length → ops[i]? = some o → ∀ k ∈ acc.getD i [], ∃ j ∈ edg o, j < i ∧ (j = k ∨ k ∈ acc.getD j [])
theorem cloA_ok {ops : List Oper} : ∀ {os : List Oper} {acc : List (List Nat)}, ops.drop acc.length = os → CloOk ops acc → CloOk ops (cloA os acc)
  | [], acc, _, h => h
  | o :: os, acc, hd, h => by
    simp only [cloA]
    refine cloA_ok ?_ ?_
    · rw [List.length_append, List.length_singleton, ← List.drop_drop, hd]; rfl
    · intro i o' hi ho k hk
      have hget : ∀ j, j < acc.length → ∀ x : List Nat, (acc ++ [x]).getD j [] = acc.getD j [] := fun j hj x => by
        simp [List.getD_eq_getElem?_getD, List.getElem?_append_left hj]
      rw [List.length_append, List.length_singleton] at hi
      by_cases hlt : i < acc.length
      · rw [hget i hlt] at hk
        obtain ⟨j, h1, h2, h3⟩ := h i o' hlt ho k hk
        refine ⟨j, h1, h2, ?_⟩
        rw [hget j (by omega)]; exact h3
      · have e : i = acc.length := by omega
        subst e
        have ho2 : ops[acc.length]? = some o := by
          have := congrArg (fun l => l[0]?) hd
          simpa [List.getElem?_drop] using this
        rw [ho2] at ho
        cases ho
        simp only [List.getD_eq_getElem?_getD, List.getElem?_append_right (Nat.le_refl _), Nat.sub_self, List.getElem?_cons_zero, Option.getD_some, List.mem_filter, List.any_eq_true, Bool.and_eq_true, Bool.or_eq_true, beq_iff_eq] at hk
        obtain ⟨_, j, h1, h2, h3⟩ := hk
        have h2' : j < acc.length := by simpa [Nat.blt_eq] using h2
        refine ⟨j, h1, h2', ?_⟩
        rw [hget j h2']
        rcases h3 with h3 | h3
        · exact .inl h3
        · exact .inr (by simpa [List.getD_eq_getElem?_getD] using h3)
/-- Whoever has run, so has what stands ahead of it. -/
def Down (ops : List Oper) (U : List Nat) : Prop := ∀ i o, ops[i]? = some o → i ∉ U → ∀ j ∈ edg o, j ∉ U
theorem clo_run {ops : List Oper} {acc : List (List Nat)} (h : CloOk ops acc) {U : List Nat} (hD : Down ops U) : ∀ {i : Nat} {o : Oper}, i < acc.length → ops[i]? = some o → (∀ j ∈ edg o, j ∉ U) → ∀ k ∈ acc.getD i [], k ∉ U := by
  intro i
  induction i using Nat.strongRecOn with
  | ind i ih =>
    intro o hi ho he k hk
    obtain ⟨j, h1, h2, h3⟩ := h i o hi ho k hk
    rcases h3 with rfl | h3
    · exact he _ h1
    · have hlt : j < ops.length := by
        have : i < ops.length := (List.getElem?_eq_some_iff.1 ho).1
        omega
      exact ih j h2 (by omega) (List.getElem?_eq_getElem hlt) (hD j _ (List.getElem?_eq_getElem hlt) (he j h1)) k h3
theorem cloA_len : ∀ {os : List Oper} {acc : List (List Nat)}, (cloA os acc).length = acc.length + os.length
  | [], acc => rfl
  | o :: os, acc => by simp only [cloA, cloA_len, List.length_append, List.length_cons, List.length_nil]; omega
/-- An operation of the tail waits for all ahead of it. -/
theorem tail_waits {ops : List Oper} {n : Nat} (hT : chkT n ops = true) {U : List Nat} (hD : Down ops U) {i : Nat} {o : Oper} (hi : n ≤ i) (ho : ops[i]? = some o) (he : ∀ j ∈ edg o, j ∉ U) : ∀ j, j < i → j ∉ U := by
  intro j hj
  have hlt : i < ops.length := (List.getElem?_eq_some_iff.1 ho).1
  have h1 := List.all_eq_true.1 hT i (by simp [hlt])
  simp only [Bool.or_eq_true] at h1
  rcases h1 with h1 | h1
  · have : i < n := by simpa [Nat.blt_eq] using h1
    omega
  · have h2 := List.all_eq_true.1 h1 j (by simp [hj])
    have hok : CloOk ops (cloA ops []) := cloA_ok (acc := []) rfl (fun i o h => by simp at h)
    exact clo_run hok hD (by rw [cloA_len]; simpa using hlt) ho he j (by simpa using h2)
theorem wpOp_of {ops : List Oper} {i : Nat} {o : Oper} {a : Act} {w : World} {K1 K2 : Act → World → Prop} (ho : ops[i]? = some o) (h : if Region.wanted o (yielded ops.toArray a.tmps) then o.wp P a w K1 Q else K1 (a.put o.dst undef) w)
    (hk : ∀ a w, K1 a w → K2 a w) : wpOp P ops.toArray Q i K2 a w := by
  unfold wpOp
  simp only [List.getElem?_toArray, ho]
  split
  · rename_i hw; rw [if_pos hw] at h; exact .inl (Oper.wp_mono hk h)
  · rename_i hw; rw [if_neg hw] at h; exact hk _ _ h
theorem down_step {ops : List Oper} {U : List Nat} {i : Nat} {o : Oper} (hD : Down ops U) (ho : ops[i]? = some o) (he : ∀ j ∈ edg o, j ∉ U) : Down ops (U.erase i) := by
  intro k o' ho' hk j hj hjU
  have hjU' : j ∈ U := List.mem_of_mem_erase hjU
  by_cases e : k = i
  · subst e
    rw [ho] at ho'
    cases ho'
    exact he j hj hjU'
  · exact hD k o' ho' (fun h => hk ((List.mem_erase_of_ne e).2 h)) j hj hjU'
theorem any_tail (hS : ∀ f as r, S f as r → Sp P f as r) {ops : List Oper} {ps ts : List I} (hm : gms P N ops (ps ++ ts) ops = true) (hE : chkE ops = true) (hT : chkT ps.length ops = true) :
    ∀ {fuel : Nat} {U : List Nat} {listed : Array Bool} {k : Nat} {σ : Lab → Value} {ow : Own} {w : World} {a : Act} {Γ : Env}, U.length = fuel → Lst ops.length U listed → Down ops U → (∀ i, i ∈ U ↔ k ≤ i ∧ i < ops.length) → ps.length ≤ k →
    Rep N G σ ow w a Γ → vs S (ts.drop (k - ps.length)) Γ K → (∀ a' w', Post N G ow w K a' w' → Q .normal a' w') → wpAny P .any ops.toArray Q fuel listed a w := by
  obtain ⟨hlen, hat⟩ := gms_at hm
  rw [List.length_append] at hlen
  intro fuel
  induction fuel with
  | zero =>
    intro U listed k σ ow w a Γ hU hL hD hk hpk hr hv hQ
    have hU0 : U = [] := List.length_eq_zero_iff.1 hU
    subst hU0
    have hkn : ops.length ≤ k := Nat.le_of_not_lt fun h => by
      have := (hk k).2 ⟨Nat.le_refl k, h⟩
      cases this
    have hd : ts.drop (k - ps.length) = [] := List.drop_eq_nil_iff.2 (by omega)
    rw [hd] at hv
    refine ⟨?_, hQ _ _ ⟨Γ, σ, ow, hv, hr, Ext.refl ow w⟩⟩
    cases he : Region.ready .any ops.toArray listed with
    | nil => rfl
    | cons x xs =>
      have := (hL.ready (i := x) (by rw [he]; simp)).1
      cases this
  | succ fuel ih =>
    intro U listed k σ ow w a Γ hU hL hD hk hpk hr hv hQ
    have hne : U ≠ [] := fun h => by simp [h] at hU
    refine ⟨fun h => absurd h (hL.some' rfl hE hne), fun i hi => ?_⟩
    obtain ⟨hiU, o, ho, hedge⟩ := hL.ready hi
    obtain ⟨hki, hin⟩ := (hk i).1 hiU
    have hik : i = k := by
      rcases Nat.lt_or_ge k i with h | h
      · exfalso
        exact tail_waits hT hD (by omega) ho hedge k h ((hk k).2 ⟨Nat.le_refl k, by omega⟩)
      · omega
    subst hik
    obtain ⟨j, hj⟩ : ∃ j, ts[i - ps.length]? = some j := ⟨ts[i - ps.length]'(by omega), List.getElem?_eq_getElem (by omega)⟩
    have hd : ts.drop (i - ps.length) = j :: ts.drop (i + 1 - ps.length) := by
      have h1 : i - ps.length < ts.length := by omega
      rw [List.drop_eq_getElem_cons h1]
      have h2 : ts[i - ps.length] = j := by
        rw [List.getElem?_eq_getElem h1] at hj
        simpa using hj
      rw [h2, show i + 1 - ps.length = i - ps.length + 1 by omega]
    rw [hd] at hv
    have hgm := hat i j o (by rw [List.getElem?_append_right hpk]; exact hj) ho
    refine wpOp_of ho (snd_g hS hr hgm hv) fun a' w' hp => ?_
    obtain ⟨Γ', σ', ow', hv', hr', he⟩ := hp
    refine ih (k := i + 1) (by rw [List.length_erase_of_mem hiU]; omega) (hL.step hiU) (down_step hD ho hedge) (fun x => ?_) (by omega) hr' hv' fun a2 w2 h2 => hQ _ _ (Post.trans (a' := a2) (K' := K) he h2)
    by_cases e : x = i
    · subst e
      have := hL.nodup.not_mem_erase (a := x)
      simp only [this, false_iff]
      omega
    · rw [List.mem_erase_of_ne e, hk]
      omega
/-- The labels of what has still to be made. -/
def pend (ps : List I) (U : List Nat) : Lab → Bool := hds (U.filterMap fun j => (ps[j]?).bind I.cdst)
theorem pend_iff {ps : List I} {U : List Nat} {l : Lab} : pend ps U l = true ↔ ∃ j ∈ U, ∃ i d, ps[j]? = some i ∧ i.cr = true ∧ i.dst = some d ∧ hd d l = true := by
  unfold pend
  rw [hds_iff]
  constructor
  · rintro ⟨d, h1, h2⟩
    obtain ⟨j, hj, hjd⟩ := List.mem_filterMap.1 h1
    simp only [Option.bind_eq_some_iff] at hjd
    obtain ⟨i, hi, hid⟩ := hjd
    unfold I.cdst at hid
    split at hid
    · exact ⟨j, hj, i, d, hi, by assumption, hid, h2⟩
    · cases hid
  · rintro ⟨j, hj, i, d, hi, hc, hdd, h2⟩
    exact ⟨d, List.mem_filterMap.2 ⟨j, hj, by simp [hi, I.cdst, hc, hdd]⟩, h2⟩
theorem stat_at : ∀ {ps : List I} {k : Nat} {i : I}, stat ps = true → ps[k]? = some i → (i.rd || i.cr) = true ∧ (∀ d, i.dst = some d → d ∉ dsts (ps.drop (k + 1)))
  | [], k, i, _, h => by simp at h
  | p :: ps, k, i, hs, h => by
    simp only [stat, Bool.and_eq_true] at hs
    obtain ⟨⟨⟨h1, h2⟩, _⟩, h4⟩ := hs
    cases k with
    | zero =>
      simp only [List.getElem?_cons_zero, Option.some.injEq] at h
      subst h
      refine ⟨h1, fun d hd' => ?_⟩
      rw [hd'] at h2
      simpa using h2
    | succ k => simpa using stat_at h4 (by simpa using h)
theorem stat_inj {ps : List I} (hs : stat ps = true) {j k : Nat} {i i' : I} {d : Nat} (hj : ps[j]? = some i) (hk : ps[k]? = some i') (hd : i.dst = some d) (hd' : i'.dst = some d) : j = k := by
  rcases Nat.lt_trichotomy j k with h | h | h
  · exfalso
    apply (stat_at hs hj).2 d hd
    refine List.mem_filterMap.2 ⟨i', List.mem_of_getElem? (i := k - (j + 1)) ?_, hd'⟩
    rw [List.getElem?_drop, show j + 1 + (k - (j + 1)) = k by omega]; exact hk
  · exact h
  · exfalso
    apply (stat_at hs hk).2 d hd'
    refine List.mem_filterMap.2 ⟨i, List.mem_of_getElem? (i := j - (k + 1)) ?_, hd⟩
    rw [List.getElem?_drop, show k + 1 + (j - (k + 1)) = j by omega]; exact hj
theorem any_pre (hS : ∀ f as r, S f as r → Sp P f as r) {ops : List Oper} {ps ts : List I} (hm : gms P N ops (ps ++ ts) ops = true) (hst : stat ps = true) (hE : chkE ops = true) (hPc : chkP ps ops = true) (hT : chkT ps.length ops = true)
    {E : Env} (hF : ∀ k i, ps[k]? = some i → ∃ x obs Γi, Fact S E (hds (cdsts (ps.drop k))) i x obs Γi) (hv : vs S ts E K) :
    ∀ {fuel : Nat} {U : List Nat} {listed : Array Bool} {σ : Lab → Value} {ow : Own} {w : World} {a : Act} {Γ : Env}, U.length = fuel → Lst ops.length U listed → Down ops U → (∀ i, ps.length ≤ i → i < ops.length → i ∈ U) →
    (∀ l, pend ps U l = false → lo Γ.ob l = lo E.ob l) → (∀ t, (∀ j ∈ U, ∀ p, ps[j]? = some p → p.dst ≠ some t) → lk Γ.tm t = lk E.tm t) → Free (pend ps U) Γ →
    Rep N G σ ow w a Γ → (∀ a' w', Post N G ow w K a' w' → Q .normal a' w') → wpAny P .any ops.toArray Q fuel listed a w := by
  obtain ⟨hlen, hat⟩ := gms_at hm
  rw [List.length_append] at hlen
  intro fuel
  induction fuel with
  | zero =>
    intro U listed σ ow w a Γ hU hL hD hrest hob hlk hfr hr hQ
    have hU0 : U = [] := List.length_eq_zero_iff.1 hU
    subst hU0
    have hr' : Rep N G σ ow w a E := hr.of_same ⟨fun t => (hlk t fun j hj => by cases hj).symm, fun l => (hob l (by
      cases h : pend ps [] l with
      | false => rfl
      | true => obtain ⟨j, hj, _⟩ := pend_iff.1 h; cases hj)).symm⟩
    refine any_tail (k := ops.length) hS hm hE hT hU hL hD (fun i => ?_) (by omega) hr' ?_ hQ
    · constructor
      · intro h; cases h
      · intro h; omega
    · have : ps.length = ops.length := by
        rcases Nat.lt_or_ge ps.length ops.length with h | h
        · have := hrest ps.length (Nat.le_refl _) h
          cases this
        · omega
      rw [this, Nat.sub_self]
      exact hv
  | succ fuel ih =>
    intro U listed σ ow w a Γ hU hL hD hrest hob hlk hfr hr hQ
    by_cases hall : ∀ i ∈ U, ps.length ≤ i
    · have hpn : ∀ l, pend ps U l = false := fun l => by
        cases h : pend ps U l with
        | false => rfl
        | true =>
          obtain ⟨j, hj, i, d, hi, _⟩ := pend_iff.1 h
          have := hall j hj
          rw [List.getElem?_eq_none this] at hi
          cases hi
      have hr' : Rep N G σ ow w a E := hr.of_same ⟨fun t => (hlk t fun j hj p hp => by
        have := hall j hj
        rw [List.getElem?_eq_none this] at hp
        cases hp).symm, fun l => (hob l (hpn l)).symm⟩
      refine any_tail (k := ps.length) hS hm hE hT hU hL hD (fun i => ⟨fun h => ⟨hall i h, hL.lt i h⟩, fun h => hrest i h.1 h.2⟩) (Nat.le_refl _) hr' ?_ hQ
      rw [Nat.sub_self]
      exact hv
    · have hne : U ≠ [] := fun h => by simp [h] at hU
      refine ⟨fun h => absurd h (hL.some' rfl hE hne), fun i hi => ?_⟩
      obtain ⟨hiU, o, ho, hedge⟩ := hL.ready hi
      have hin := hL.lt i hiU
      have him : i < ps.length := by
        rcases Nat.lt_or_ge i ps.length with h | h
        · exact h
        · exfalso
          apply hall
          intro j hj
          rcases Nat.lt_or_ge j ps.length with h' | h'
          · exact absurd hj (tail_waits hT hD h ho hedge j (by omega))
          · exact h'
      obtain ⟨p, hp⟩ : ∃ p, ps[i]? = some p := ⟨ps[i], List.getElem?_eq_getElem him⟩
      obtain ⟨x, obs, Γi, hf⟩ := hF i p hp
      have hgm := hat i p o (by rw [List.getElem?_append_left him]; exact hp) ho
      have hlook : ∀ t ∈ p.looks, lk Γ.tm t = lk E.tm t := fun t ht => hlk t fun j hj q hq hd => by
        have h1 := List.all_eq_true.1 hPc i (by simp [him])
        rw [hp, ho] at h1
        have h2 := List.all_eq_true.1 h1 t ht
        have hjm : j < ps.length := (List.getElem?_eq_some_iff.1 hq).1
        have h3 := List.all_eq_true.1 h2 j (by simp [hjm])
        simp only [hq, Option.bind_some, hd, bne_self_eq_false, Bool.false_or] at h3
        exact hedge j (by simpa using h3) hj
      -- the state at which its facts were found agrees with this one
      have hA : Agr (fun l => pend ps U l || hds (cdsts (ps.drop i)) l) Γi Γ p.looks := by
        refine ⟨fun t ht => (hlook t ht).trans (hf.lks t ht), fun l hl => ?_, fun t ht y hy => ?_, fun l ls hl hy => ?_⟩
        · simp only [Bool.or_eq_false_iff] at hl
          exact (hob l hl.1).trans (hf.lobs l hl.2)
        · rw [refs_or, hf.free.tm t y hy, hfr.tm t y (((hlook t ht).trans (hf.lks t ht)).trans hy)]; rfl
        · simp only [Bool.or_eq_false_iff] at hl
          have h1 := ((hob l hl.1).trans (hf.lobs l hl.2)).trans hy
          rw [refsL_or, (hf.free.ob l _ hy).2 ls rfl, (hfr.ob l _ h1).2 ls rfl]; rfl
      have hpsub : ∀ l, pend ps (U.erase i) l = true → pend ps U l = true := fun l hl => by
        obtain ⟨j, hj, r⟩ := pend_iff.1 hl
        exact pend_iff.2 ⟨j, List.mem_of_mem_erase hj, r⟩
      have hlk' : ∀ {Γ' : Env}, Same Γ' (Γ.adds x obs p.dst) → ∀ t, (∀ j ∈ U.erase i, ∀ q, ps[j]? = some q → q.dst ≠ some t) → lk Γ'.tm t = lk E.tm t := by
        intro Γ' hsame t ht
        rw [hsame.1 t]
        cases hd : p.dst with
        | none =>
          refine hlk t fun j hj q hq hqd => ?_
          by_cases e : j = i
          · subst e
            rw [hp] at hq
            cases hq
            rw [hd] at hqd; cases hqd
          · exact ht j ((List.mem_erase_of_ne e).2 hj) q hq hqd
        | some d =>
          simp only [Env.adds, lk]
          split
          · rename_i e
            subst e
            exact (hf.at' d hd).symm
          · rename_i hne'
            refine hlk t fun j hj q hq hqd => ?_
            by_cases e : j = i
            · subst e
              rw [hp] at hq
              cases hq
              rw [hd] at hqd
              cases hqd
              exact hne' rfl
            · exact ht j ((List.mem_erase_of_ne e).2 hj) q hq hqd
      have hfre : Fre (pend ps (U.erase i)) Γ p.looks := (hfr.mono hpsub).fre _
      by_cases hrd : p.rd = true
      · obtain ⟨rfl, hx⟩ := hf.rd hrd
        have hncr := rd_cr hrd
        have hpeq : ∀ l, pend ps U l = false → True := fun _ _ => trivial
        have hpe : ∀ l, pend ps (U.erase i) l = false → pend ps U l = false := fun l hl => by
          cases h : pend ps U l with
          | false => rfl
          | true =>
            obtain ⟨j, hj, i', d, hi', hc, r⟩ := pend_iff.1 h
            have e : j ≠ i := by
              rintro rfl
              rw [hp] at hi'; cases hi'
              rw [hncr] at hc; cases hc
            rw [pend_iff.2 ⟨j, (List.mem_erase_of_ne e).2 hj, i', d, hi', hc, r⟩] at hl
            cases hl
        have hvi := vi_frame (Γ2 := Γ) hrd hA hx
        have hxr : vi S p Γ (fun _ => False) ∨ p.dst = none ∨ x.refs (pend ps (U.erase i)) = false := by
          cases hdd : p.dst with
          | none => exact .inr (.inl rfl)
          | some d =>
            rcases rd_fr hrd hdd hfre hvi with h | h
            · exact .inr (.inr h)
            · exact .inl h
        rcases hxr with hff | hxr
        · exact wpOp_of ho (snd_g hS hr hgm hff) fun a' w' hpost => by
            obtain ⟨_, _, _, hf, _⟩ := hpost
            exact hf.elim
        · refine wpOp_of ho (snd_g hS hr hgm hvi) fun a' w' hpost => ?_
          obtain ⟨Γ', σ', ow', hsame, hr', he⟩ := hpost
          have hsame' : Same Γ' (Γ.adds x [] p.dst) := by rw [adds_nil]; exact hsame
          refine ih (by rw [List.length_erase_of_mem hiU]; omega) (hL.step hiU) (down_step hD ho hedge) (fun j h1 h2 => (List.mem_erase_of_ne (by omega)).2 (hrest j h1 h2)) (fun l hl => ?_) (hlk' hsame') ?_ hr' fun a2 w2 h2 => hQ _ _ (Post.trans (a' := a2) (K' := K) he h2)
          · rw [hsame'.2 l]
            have : lo (Γ.adds x [] p.dst).ob l = lo Γ.ob l := by cases p.dst <;> rfl
            rw [this]
            exact hob l (hpe l hl)
          · rcases hxr with hxr | hxr
            · rw [hxr] at hsame'
              exact (hfr.mono hpsub).same' hsame'
            · exact ((hfr.mono hpsub).adds hxr (fun l o h => by simp [lo] at h) p.dst).same' hsame'
      · obtain ⟨d, hcr, hdd, hpr, hh, hEo⟩ := hf.cr (by simpa using hrd)
        have hprd := prd_frame hA hpr
        have hdU : ∀ l, hd d l = true → pend ps U l = true := fun l hl => pend_iff.2 ⟨i, hiU, p, d, hp, hcr, hdd, hl⟩
        have hvi : vi S p Γ (fun Γ' => Γ' = Γ.made d x obs) := prd_vi hdd hprd rfl
        have hdn : ∀ l, hd d l = true → pend ps (U.erase i) l = false := fun l hl => by
          cases h : pend ps (U.erase i) l with
          | false => rfl
          | true =>
            exfalso
            obtain ⟨j, hj, i', d', hi', hc, hd2, hl2⟩ := pend_iff.1 h
            have e : d' = d := by
              cases l with
              | nil => simp [hd] at hl
              | cons n l => simp only [hd, beq_iff_eq] at hl2 hl; omega
            subst e
            have := stat_inj hst hi' hp hd2 hdd
            subst this
            exact hL.nodup.not_mem_erase hj
        have hsplit : ∀ l, pend ps (U.erase i) l = false → hd d l = false → pend ps U l = false := fun l h1 h2 => by
          cases h : pend ps U l with
          | false => rfl
          | true =>
            obtain ⟨j, hj, i', d', hi', hc, hd2, hl2⟩ := pend_iff.1 h
            by_cases e : j = i
            · subst e
              rw [hp] at hi'; cases hi'
              rw [hdd] at hd2; cases hd2
              rw [h2] at hl2; cases hl2
            · rw [pend_iff.2 ⟨j, (List.mem_erase_of_ne e).2 hj, i', d', hi', hc, hd2, hl2⟩] at h1
              cases h1
        obtain ⟨k1, k2⟩ := prd_fr hdd hdn hfre hprd
        refine wpOp_of ho (snd_g hS hr hgm hvi) fun a' w' hpost => ?_
        obtain ⟨Γ', σ', ow', hsame, hr', he⟩ := hpost
        have hfd : Free (hd d) Γ := hfr.mono hdU
        have hsame' : Same Γ' (Γ.adds x obs p.dst) := by rw [hsame, hdd]; exact made_same hfd x obs
        refine ih (by rw [List.length_erase_of_mem hiU]; omega) (hL.step hiU) (down_step hD ho hedge) (fun j h1 h2 => (List.mem_erase_of_ne (by omega)).2 (hrest j h1 h2)) (fun l hl => ?_) (hlk' hsame') ?_ hr' fun a2 w2 h2 => hQ _ _ (Post.trans (a' := a2) (K' := K) he h2)
        · rw [hsame'.2 l, hdd]
          simp only [Env.adds, lo_append]
          by_cases hl2 : hd d l = true
          · rw [hEo l hl2]
            split
            · rename_i q hq; exact hq.symm
            · rename_i hq
              rw [hq]
              cases hlg : lo Γ.ob l with
              | none => rfl
              | some q =>
                have h3 := (hfr.ob l q hlg).1
                rw [hdU l hl2] at h3; cases h3
          · have hl3 : hd d l = false := by simpa using hl2
            split
            · rename_i q hq
              rw [hh l q hq] at hl3; cases hl3
            · exact hob l (hsplit l hl hl3)
        · exact ((hfr.mono hpsub).adds k1 (fun l o h => ⟨hdn l (hh l o h), fun ls e => k2 l ls (e ▸ h)⟩) p.dst).same' hsame'
theorem vs_append : ∀ {is js : List I} {Γ : Env}, vs S (is ++ js) Γ K ↔ vs S is Γ fun Γ' => vs S js Γ' K
  | [], _, _ => Iff.rfl
  | i :: is, js, Γ => by
    simp only [List.cons_append, vs]
    have : (fun Γ' => vs S (is ++ js) Γ' K) = fun Γ' => vs S is Γ' fun Γ'' => vs S js Γ'' K := funext fun Γ' => propext vs_append
    rw [this]
/-- The front part of a chain. -/
theorem gms_take {ops : List Oper} : ∀ {is js : List I} {l : List Oper}, gms P N ops (is ++ js) l = true → gms P N ops is (l.take is.length) = true
  | [], _, _, _ => rfl
  | i :: is, js, [], h => by simp [gms] at h
  | i :: is, js, o :: l, h => by
    simp only [List.cons_append, gms, Bool.and_eq_true] at h
    simp only [List.length_cons, List.take_succ_cons, gms, Bool.and_eq_true]
    exact ⟨h.1, gms_take h.2⟩
theorem Rep.drawn {σ : Lab → Value} {ow : Own} {w : World} {a : Act} {Γ : Env} (hr : Rep N G σ ow w a Γ) : Rep N G σ ow { w with drawn := w.drawn + 1 } a Γ := by
  have hu : Upd (fun _ => false) ow w ow { w with drawn := w.drawn + 1 } := ⟨rfl, rfl, rfl, Nat.le_refl _, fun b _ _ => ⟨rfl, rfl⟩⟩
  exact hr.upd hu (fun _ _ => rfl) ⟨fun t x _ => refs_false x, fun l q _ => ⟨rfl, fun ls _ => refsL_false ls⟩⟩
theorem Rep.pre {σ : Lab → Value} {ow : Own} {w : World} {a : Act} {Γ : Env} (hr : Rep N G σ ow w a Γ) : ∀ ds, Rep N G σ ow w a (Γ.pre ds)
  | [] => hr
  | _ :: _ => hr.kill _
theorem Free.pre (Γ : Env) : ∀ ds, Free (hds ds) (Γ.pre ds)
  | [] => ⟨fun t x _ => (by
      have : hds [] = fun _ => false := by funext l; cases l <;> rfl
      rw [this]; exact refs_false x), fun l o _ => ⟨by cases l <;> rfl, fun ls _ => (by
      have : hds [] = fun _ => false := by funext l; cases l <;> rfl
      rw [this]; exact refsL_false ls)⟩⟩
  | _ :: _ => Free.kill _ _
theorem snd_dr (hS : ∀ f as r, S f as r → Sp P f as r) {id : Nat} {ops : Array Oper} {ds : List Nat} {ps ts : List I} (hm : drM P N ds ps ts ops.toList = true) {σ : Lab → Value} {ow : Own} {w : World} {a : Act} {Γ : Env}
    (hr : Rep N G σ ow w a Γ) (hv : vs S ps (Γ.pre ds) fun Γ' => vs S ts Γ' K) (hQ : ∀ a' w', Post N G ow w K a' w' → Q .normal a' w') : (Code.region id ops true).wp P Q a w := by
  simp only [drM, Bool.and_eq_true, beq_iff_eq] at hm
  obtain ⟨⟨⟨⟨⟨⟨hmix, hgm⟩, hst⟩, hE⟩, hP⟩, hT⟩, rfl⟩ := hm
  have hr' := (hr.pre (cdsts ps)).drawn
  have hfree := Free.pre Γ (cdsts ps)
  obtain ⟨E, hE2, hlk, hlo, hF⟩ := chain hS hst (gms_take hgm) hr' hfree hv
  refine wp_region_any hmix ?_
  have he : ops = ops.toList.toArray := by simp
  rw [he]
  have hsz : ops.toList.toArray.size = ops.toList.length := by simp
  rw [hsz]
  have hL := Lst.start ops.toList.length
  have hlen := (gms_at hgm).1
  rw [List.length_append] at hlen
  have hpend : ∀ l, pend ps (List.range ops.toList.length) l = hds (cdsts ps) l := fun l => by
    rw [Bool.eq_iff_iff, pend_iff, hds_iff]
    constructor
    · rintro ⟨j, _, i, d, hi, hc, hdd, hl⟩
      exact ⟨d, List.mem_filterMap.2 ⟨i, List.mem_of_getElem? hi, by simp [I.cdst, hc, hdd]⟩, hl⟩
    · rintro ⟨d, h1, hl⟩
      obtain ⟨i, hi, hid⟩ := List.mem_filterMap.1 h1
      obtain ⟨j, hj⟩ := List.getElem?_of_mem hi
      unfold I.cdst at hid
      split at hid
      · have h2 : j < ps.length := (List.getElem?_eq_some_iff.1 hj).1
        exact ⟨j, by simp only [List.mem_range]; omega, i, d, hj, by assumption, hid, hl⟩
      · cases hid
  have hpf : pend ps (List.range ops.toList.length) = hds (cdsts ps) := funext hpend
  refine any_pre hS hgm hst hE hP hT hF hE2 (by simp) hL (fun i o ho hn => ?_) (fun i _ h => by simp at h ⊢; exact h) (fun l hl => (hlo l (by rw [← hpf]; exact hl)).symm) (fun t ht => (hlk t fun hd => ?_).symm) (by rw [hpf]; exact hfree) hr' fun a' w' h => hQ _ _ ?_
  · exact absurd (by simpa using (List.getElem?_eq_some_iff.1 ho).1) hn
  · simp only [dsts, List.mem_filterMap] at hd
    obtain ⟨p, hp, hpd⟩ := hd
    obtain ⟨j, hj⟩ := List.getElem?_of_mem hp
    refine ht j ?_ p hj hpd
    have h2 : j < ps.length := (List.getElem?_eq_some_iff.1 hj).1
    simp only [List.mem_range]
    omega
  · exact Post.trans (a' := a') (K' := K) (ow := ow) (w := w) (ow' := ow) (w' := { w with drawn := w.drawn + 1 }) ⟨rfl, rfl, rfl, Nat.le_refl _, fun _ _ h => ⟨h, rfl⟩⟩ h
end
end Go.Q

set_option linter.unusedVariables false
namespace Go.Q
def C.m (P : Program) (N : Nat) : C → Code → Bool
  | .skip, .skip => true
  | .rg is, .region _ ops false => gms P N ops.toList is ops.toList
  | .dr ds ps ts, .region _ ops true => drM P N ds ps ts ops.toList
  | .sq a b, .seq x y => a.m P N x && b.m P N y
  | .cd o a b, .cond c x y => o.m c && a.m P N x && b.m P N y
  | .bk id c, .block id' x => id == id' && c.m P N x
  | .lp c, .loop x => c.m P N x
  | .ex id, .exit id' => id == id'
  | .rt, .ret => true
  | .rl is d1 o d2 x d f c js, .region _ ops false => rlM P N is d1 o d2 x d f c js ops.toList
  | .gt t _ _ c, x => c.m P N x
  | .gb _ _ _ _ c, x => c.m P N x
  | .gz _ _ c, x => c.m P N x
  | .kp _ _ c, x => c.m P N x
  | .lk _ _ c, .loop x => c.m P N x
  | .pz _ _ c, x => c.m P N x
  | .pb _ _ _ c, x => c.m P N x
  | _, _ => false
/-- What holds behind some code. -/
def PostC (N : Nat) (G : Gd) (ow : Own) (w : World) (K : Xt → Env → Prop) : Exit → Act → World → Prop
  | .normal, a', w' => Post N G ow w (K .nrm) a' w'
  | .exit id, a', w' => Post N G ow w (K (.ex id)) a' w'
  | .ret, a', w' => Post N G ow w (K .rt) a' w'
  | _, _, _ => False
/-- A loop. -/
def Lq (P : Program) (N : Nat) (c : C) (Γ : Env) (K : Xt → Env → Prop) : Prop :=
  ∀ G x, c.m P N x = true → ∀ σ ow w a, Rep N G σ ow w a Γ → (Code.loop x).wp P (PostC N G ow w K) a w
section
variable {S : FuncId → List SA → RA → Prop} {P : Program} {N : Nat} {G : Gd} {σ : Lab → Value} {ow : Own} {w : World} {a : Act} {Γ : Env} {Q : Exit → Act → World → Prop}
theorem PostC.trans {K : Xt → Env → Prop} {ow' : Own} {w' : World} (he : Ext ow w ow' w') {e : Exit} {b : Act} {v : World} (h : PostC N G ow' w' K e b v) : PostC N G ow w K e b v := by
  cases e <;> first | exact h.elim | exact Post.trans (a' := b) (K' := K .nrm) he h
theorem Rep.view (hr : Rep N G σ ow w a Γ) {t : Nat} {x : AV} (hx : RepV σ (fz G ow w) w x (a.tmps.getD t undef)) : Rep N G σ ow w a (Γ.put t x) :=
  ⟨hr.size, hr.defers, fun t' y hy => by
    simp only [Env.put, lk] at hy
    split at hy
    · rename_i e
      cases hy
      subst e; exact hx
    · exact hr.tm t' y hy, hr.ob, hr.own, hr.top, hr.pin, hr.big⟩
theorem upd_none (p : Lab → Bool) : Upd p ow w ow w := ⟨rfl, rfl, rfl, Nat.le_refl _, fun _ _ _ => ⟨rfl, rfl⟩⟩
/-- An empty slice, as a row of the call's own. -/
theorem Rep.ghost_t (hr : Rep N G σ ow w a Γ) {t : Nat} {c : Ki} {dp : Bool} {k : Ki} (hy : lk Γ.tm t = some (.nl c)) :
    Rep N G (σat σ [t] (a.tmps.getD t undef)) ow w a (((Γ.kill (fun m => m == [t])).new [t] (.row dp false k [])).put t (.sl [t])) := by
  obtain ⟨A, hA⟩ := RepV_nl.1 (hr.tm t _ hy)
  have h1 := (hr.kill (fun m => m == [t])).upd (σ' := σat σ [t] (a.tmps.getD t undef)) (upd_none _) (σat_keep (by simp)) (Free.kill _ Γ)
  have hσ : σat σ [t] (a.tmps.getD t undef) [t] = a.tmps.getD t undef := if_pos rfl
  refine (h1.new (l := [t]) (o := .row dp false k []) ⟨[], ?_, by simp, by simp⟩).view (RepV_sl.2 ⟨A, 0, 0, by rw [hσ]; exact hA, hA⟩)
  rw [hσ, hA]
  unfold RowO
  split <;> exact .inl ⟨⟨A, rfl⟩, rfl, rfl⟩
theorem Rep.ghost_b (hr : Rep N G σ ow w a Γ) {l : Lab} {j : Nat} {c : Ki} {dp : Bool} {k : Ki} {ls : List AV} (hq : lo (Γ.kill (fun m => m == l ++ [j])).ob l = some (.box ls)) (hz : ls[j]? = some (.nl c)) :
    ∃ σ', Rep N G σ' ow w a ⟨(Γ.kill (fun m => m == l ++ [j])).tm, (l ++ [j], .row dp false k []) :: (l, .box (setAt ls j [.sl (l ++ [j])])) :: (Γ.kill (fun m => m == l ++ [j])).ob⟩ := by
  obtain ⟨b, e, cs, h1, h2, h3, h4⟩ := (hr.kill (fun m => m == l ++ [j])).ob l _ hq
  obtain ⟨u, hu, hru⟩ := h4.get hz
  simp only [RepC, List.cons.injEq, and_true] at hru
  obtain ⟨A, rfl⟩ := hru
  refine ⟨σat σ (l ++ [j]) (.slice A 0 0), ?_⟩
  have k1 := (hr.kill (fun m => m == l ++ [j])).upd (σ' := σat σ (l ++ [j]) (.slice A 0 0)) (upd_none _) (σat_keep (by simp)) (Free.kill _ Γ)
  obtain ⟨b', e', cs', g1, g2, g3, g4⟩ := k1.ob l _ hq
  have hne : l ≠ l ++ [j] := fun h => by have := congrArg List.length h; simp at this
  have hcs : cs' = cs ∧ b' = b := by
    have : σat σ (l ++ [j]) (.slice A 0 0) l = σ l := if_neg hne
    rw [this, h1] at g1
    simp only [Value.pointer.injEq, Option.some.injEq, Addr.mk.injEq, and_true] at g1
    subst g1
    rw [h2] at g2
    cases g2
    exact ⟨rfl, rfl⟩
  obtain ⟨rfl, rfl⟩ := hcs
  have hσ : σat σ (l ++ [j]) (.slice A 0 0) (l ++ [j]) = .slice A 0 0 := if_pos rfl
  have hlt : j < cs'.toList.length := (List.getElem?_eq_some_iff.1 hu).1
  have hbox : ObR G (σat σ (l ++ [j]) (.slice A 0 0)) ow w l (.box (setAt ls j [.sl (l ++ [j])])) := by
    refine ⟨b', e', cs', g1, g2, g3, ?_⟩
    have hs := RepCs.setAt (ls := ls) (xs := [.sl (l ++ [j])]) (cs := cs'.toList) (us := [.slice A 0 0]) j g4 ⟨_, [], rfl, by simp only [RepC]; exact ⟨A, 0, 0, hσ, rfl⟩, rfl⟩ (by simp only [List.length_singleton]; omega)
    have ecs : cs'.toList.take j ++ [Value.slice A 0 0] ++ cs'.toList.drop (j + [Value.slice A 0 0].length) = cs'.toList := by
      obtain ⟨h5, h6⟩ := List.getElem?_eq_some_iff.1 hu
      have h7 : cs'.toList.drop (j + [Value.slice A 0 0].length) = cs'.toList.drop (j + 1) := rfl
      rw [h7, List.append_assoc, List.singleton_append, ← h6, List.getElem_cons_drop, List.take_append_drop]
    rw [ecs] at hs
    exact hs
  have k2 := k1.new hbox (fun h => k1.pin l _ hq h)
  have k3 := k2.new (l := l ++ [j]) (o := .row dp false k []) ⟨[], by
    rw [hσ]
    unfold RowO
    split <;> exact .inl ⟨⟨A, rfl⟩, rfl, rfl⟩, by simp, by simp⟩
  exact k3
theorem Rep.pb (hr : Rep N G σ ow w a Γ) {l : Lab} {j : Nat} {k : Ki} {ls : List AV} {y : AV} {x : k.T} (hq : lo Γ.ob l = some (.box ls)) (hz : ls[j]? = some y) (hx : pkL Γ.ob k y = some x) (hrf : y.refs (fun _ => true) = false) :
    Rep N G σ ow w a ⟨Γ.tm, (l, .box (setAt ls j [.v k x])) :: Γ.ob⟩ := by
  obtain ⟨b, e, cs, h1, h2, h3, h4⟩ := hr.ob l _ hq
  obtain ⟨u, hu, hru⟩ := h4.get hz
  have hK : Kx (fz G ow w) w k x [u] := pkL_rep hr.ob (fun _ h => h) hx hru (fun h => by rw [hrf] at h; cases h)
  have hbox : ObR G σ ow w l (.box (setAt ls j [.v k x])) := by
    refine ⟨b, e, cs, h1, h2, h3, ?_⟩
    have hlt : j < cs.toList.length := (List.getElem?_eq_some_iff.1 hu).1
    have hs := RepCs.setAt (ls := ls) (xs := [.v k x]) (cs := cs.toList) (us := [u]) j h4 ⟨_, [], rfl, by simp only [RepC]; exact hK, rfl⟩ (by simp only [List.length_singleton]; omega)
    have ecs : cs.toList.take j ++ [u] ++ cs.toList.drop (j + [u].length) = cs.toList := by
      obtain ⟨h5, h6⟩ := List.getElem?_eq_some_iff.1 hu
      have h7 : cs.toList.drop (j + [u].length) = cs.toList.drop (j + 1) := rfl
      rw [h7, List.append_assoc, List.singleton_append, ← h6, List.getElem_cons_drop, List.take_append_drop]
    rw [ecs] at hs
    exact hs
  exact hr.new hbox (fun h => hr.pin l _ hq h)
theorem lk_keepT {tm : List (Nat × AV)} {t : Nat} {x : AV} : ∀ {ts : List Nat}, lk (keepT tm ts) t = some x → lk tm t = some x
  | [], h => by simp [keepT, lk] at h
  | k :: ts, h => by
    simp only [keepT] at h
    split at h
    · rename_i a ha
      simp only [lk] at h
      split at h
      · rename_i e; subst e; rw [← h]; exact ha
      · exact lk_keepT h
    · exact lk_keepT h
theorem lo_keepO {ob : List (Lab × Ob)} {l : Lab} {x : Ob} : ∀ {ls : List Lab}, lo (keepO ob ls) l = some x → lo ob l = some x
  | [], h => by simp [keepO, lo] at h
  | k :: ls, h => by
    simp only [keepO] at h
    split at h
    · rename_i a ha
      simp only [lo] at h
      split at h
      · rename_i e; subst e; rw [← h]; exact ha
      · exact lo_keepO h
    · exact lo_keepO h
theorem Rep.keep (hr : Rep N G σ ow w a Γ) (ts : List Nat) (ls : List Lab) : Rep N G σ ow w a (Γ.keep ts ls) :=
  ⟨hr.size, hr.defers, fun t x h => hr.tm t x (lk_keepT h), fun l q h => hr.ob l q (lo_keepO h), hr.own, hr.top, fun l q h => hr.pin l q (lo_keepO h), hr.big⟩
theorem snd_c (hS : ∀ f as r, S f as r → Sp P f as r) : ∀ {c : C} {x : Code} {K : Xt → Env → Prop} {σ : Lab → Value} {ow : Own} {w : World} {a : Act} {Γ : Env}, c.m P N x = true → Rep N G σ ow w a Γ → vc S (Lq P N) c Γ K → x.wp P (PostC N G ow w K) a w := by
  intro c
  induction c with
  | skip =>
    intro x K σ ow w a Γ hm hr hv
    cases x <;> simp only [C.m, Bool.false_eq_true] at hm
    exact wp_skip ⟨Γ, σ, ow, hv, hr, Ext.refl ow w⟩
  | rg is =>
    intro x K σ ow w a Γ hm hr hv
    cases x with
    | region id ops draw =>
      cases draw with
      | true => simp [C.m] at hm
      | false => exact wp_region_list (snd_is hS (K := K .nrm) (ops := ops.toList) hm hr hv fun a' w' h => h)
    | _ => simp [C.m] at hm
  | dr ds ps ts =>
    intro x K σ ow w a Γ hm hr hv
    cases x with
    | region id ops draw =>
      cases draw with
      | true => exact snd_dr hS (K := K .nrm) hm hr hv fun a' w' h => h
      | false => simp [C.m] at hm
    | _ => simp [C.m] at hm
  | rl is d1 o d2 y d f c js =>
    intro x K σ ow w a Γ hm hr hv
    cases x with
    | region id ops draw =>
      cases draw with
      | true => simp [C.m] at hm
      | false => exact wp_region_list (snd_rl hS (K := K .nrm) (ops := ops.toList) hr hm hv fun a' w' h => h)
    | _ => simp [C.m] at hm
  | sq c d ihc ihd =>
    intro x K σ ow w a Γ hm hr hv
    cases x with
    | seq x y =>
      simp only [C.m, Bool.and_eq_true] at hm
      refine wp_seq (wp_mono (ihc hm.1 hr hv) fun e b v h => ?_)
      cases e with
      | normal =>
        obtain ⟨Γ', σ', ow', hk, hr', he⟩ := h
        exact wp_mono (ihd hm.2 hr' hk) fun e b v h => PostC.trans he h
      | exit id => exact h
      | ret => exact h
      | _ => exact h.elim
    | _ => simp [C.m] at hm
  | cd o c d ihc ihd =>
    intro x K σ ow w a Γ hm hr hv
    cases x with
    | cond o' x y =>
      simp only [C.m, Bool.and_eq_true] at hm
      obtain ⟨av, he, hv⟩ := need_iff hv
      have hx := ev_rep hr hm.1.1 he
      split at hv
      · rename_i t
        have hx' : a.eval o' = .bool t := by simpa [RepV, RepU, AV.isS, RepC, Kx_bool] using hx
        exact wp_cond_split hx' (fun ht => ihc hm.1.2 hr (hv.1 ht)) (fun ht => ihd hm.2 hr (hv.2 ht))
      · exact hv.elim
    | _ => simp [C.m] at hm
  | bk id c ih =>
    intro x K σ ow w a Γ hm hr hv
    cases x with
    | block id' x =>
      simp only [C.m, Bool.and_eq_true, beq_iff_eq] at hm
      obtain ⟨rfl, hm⟩ := hm
      refine wp_block (wp_mono (ih hm hr hv) fun e b v h => ?_)
      cases e with
      | normal => exact h
      | exit j =>
        obtain ⟨Γ', σ', ow', hk, hr', he⟩ := h
        simp only [Exit.inBlock]
        dsimp only at hk
        split
        · rename_i e; rw [if_pos e] at hk; exact ⟨Γ', σ', ow', hk, hr', he⟩
        · rename_i e; rw [if_neg e] at hk; exact ⟨Γ', σ', ow', hk, hr', he⟩
      | ret => exact h
      | _ => exact h.elim
    | _ => simp [C.m] at hm
  | lp c ih =>
    intro x K σ ow w a Γ hm hr hv
    cases x with
    | loop x => exact hv G x hm σ ow w a hr
    | _ => simp [C.m] at hm
  | gt t dp k c ih =>
    intro x K σ ow w a Γ hm hr hv
    obtain ⟨y, hy, hv⟩ := need_iff hv
    split at hv
    · exact ih (by simpa [C.m] using hm) (hr.ghost_t hy) hv
    · exact ih (by simpa [C.m] using hm) hr hv
  | kp ts ls c ih =>
    intro x K σ ow w a Γ hm hr hv
    exact ih (by simpa [C.m] using hm) (hr.keep ts ls) hv
  | lk ts ls c ih =>
    intro x K σ ow w a Γ hm hr hv
    cases x with
    | loop x => exact hv G x hm σ ow w a hr
    | _ => simp [C.m] at hm
  | pz t k c ih =>
    intro x K σ ow w a Γ hm hr hv
    obtain ⟨y, hy, hv⟩ := need_iff hv
    obtain ⟨z, hz, hrf, hv⟩ := need_iff hv
    exact ih (by simpa [C.m] using hm) (hr.view (RepV.keep (σ := fun _ => undef) (p := fun _ => true) (fun _ h => by cases h) (fun b hb => ⟨hb, rfl⟩) rfl (pk_rep (F' := fz G ow w) hr.ob (fun _ h => h) hz (hr.tm t _ hy) (fun h => by rw [hrf] at h; cases h)))) hv
  | pb t j k c ih =>
    intro x K σ ow w a Γ hm hr hv
    obtain ⟨y, hy, hv⟩ := need_iff hv
    split at hv
    · obtain ⟨q, hq, hv⟩ := need_iff hv
      split at hv
      · obtain ⟨z, hz, hv⟩ := need_iff hv
        obtain ⟨x', hx', hrf, hv⟩ := need_iff hv
        exact ih (by simpa [C.m] using hm) (hr.pb hq hz hx' hrf) hv
      · exact hv.elim
    · exact hv.elim
  | gz t k c ih =>
    intro x K σ ow w a Γ hm hr hv
    obtain ⟨y, hy, hv⟩ := need_iff hv
    obtain ⟨l, _, hv⟩ := need_iff hv
    obtain ⟨q, hq, hv⟩ := need_iff hv
    obtain ⟨z, hz, hv⟩ := need_iff hv
    obtain ⟨hr', he'⟩ := hr.gz hy hq hz
    exact wp_mono (ih (by simpa [C.m] using hm) hr' hv) fun e b v h => PostC.trans he' h
  | gb t j dp k c ih =>
    intro x K σ ow w a Γ hm hr hv
    obtain ⟨y, hy, hv⟩ := need_iff hv
    split at hv
    · obtain ⟨q, hq, hv⟩ := need_iff hv
      split at hv
      · obtain ⟨z, hz, hv⟩ := need_iff hv
        split at hv
        · obtain ⟨σ', hr'⟩ := hr.ghost_b (dp := dp) (k := k) hq hz
          exact ih (by simpa [C.m] using hm) hr' hv
        · exact ih (by simpa [C.m] using hm) hr hv
      · exact hv.elim
    · exact hv.elim
  | ex id =>
    intro x K σ ow w a Γ hm hr hv
    cases x with
    | exit id' =>
      simp only [C.m, beq_iff_eq] at hm
      subst hm
      exact wp_exit ⟨Γ, σ, ow, hv, hr, Ext.refl ow w⟩
    | _ => simp [C.m] at hm
  | rt =>
    intro x K σ ow w a Γ hm hr hv
    cases x <;> simp only [C.m, Bool.false_eq_true] at hm
    exact wp_ret ⟨Γ, σ, ow, hv, hr, Ext.refl ow w⟩
/-- What a round may leave. -/
def Again {T : Type} (ts : List Nat) (ls : List Lab) (I : T → Env) (V : T → Prop) (μ : T → Nat) (n : Nat) (Γ : Env) : Prop := ∃ t, V t ∧ μ t < n ∧ Γ.keep ts ls = I t
def Round {T : Type} (ts : List Nat) (ls : List Lab) (I : T → Env) (V : T → Prop) (μ : T → Nat) (n : Nat) (K : Xt → Env → Prop) : Xt → Env → Prop
  | .nrm, Γ => Again ts ls I V μ n Γ
  | e, Γ => K e Γ
theorem Lq.intro (hS : ∀ f as r, S f as r → Sp P f as r) {T : Type} (ts : List Nat) (ls : List Lab) (I : T → Env) (V : T → Prop) (μ : T → Nat) {c : C} {K : Xt → Env → Prop}
    (h0 : ∃ t, V t ∧ Γ.keep ts ls = I t) (hs : ∀ t, V t → vc S (Lq P N) c (I t) (Round ts ls I V μ (μ t) K)) : Lq P N c Γ K := by
  intro G x hm σ ow w a hr
  obtain ⟨t, hV, hI⟩ := h0
  have hr0 := hr.keep ts ls
  rw [hI] at hr0
  intro b k cs
  have key : ∀ n t σ' ow' w' a', μ t = n → V t → Rep N G σ' ow' w' a' (I t) → Ext ow w ow' w' →
      ∃ e a2 w2, PostC N G ow w K e a2 w2 ∧ Arrives P (lone (b.at a' (.code x :: .inLoop x :: k)) cs w') b k cs e a2 w2 := by
    intro n
    induction n using Nat.strongRecOn with
    | _ n ih =>
      intro t σ' ow' w' a' hn hV hr he
      obtain ⟨e, a₁, w₁, hq, harr⟩ := snd_c hS hm hr (hs t hV) b (.inLoop x :: k) cs
      cases e with
      | normal =>
        obtain ⟨Γ', σ2, ow2, ⟨t', hV', hlt, hI'⟩, hr2, he2⟩ := hq
        have hr3 := hr2.keep ts ls
        rw [hI'] at hr3
        obtain ⟨e₂, a₂, w₂, hq₂, harr₂⟩ := ih (μ t') (hn ▸ hlt) t' σ2 ow2 w₁ a₁ rfl hV' hr3 (he.trans he2)
        exact ⟨e₂, a₂, w₂, hq₂, .of_steps (Steps.trans harr (.one step_inLoop)) harr₂⟩
      | exit id => exact ⟨_, a₁, w₁, PostC.trans (K := K) (e := .exit id) he hq, .pass (x := .inLoop x) rfl (fun _ _ => .inl (by simp)) harr⟩
      | ret => exact ⟨_, a₁, w₁, PostC.trans (K := K) (e := .ret) he hq, .pass (x := .inLoop x) rfl (fun _ _ => .inl (by simp)) harr⟩
      | _ => exact hq.elim
  obtain ⟨e, a', w', hq, harr⟩ := key _ t σ ow w a rfl hV hr0 (Ext.refl ow w)
  exact ⟨e, a', w', hq, .of_steps (.one step_loop) harr⟩
/-- The rule, with what a round asks said in another way. -/
theorem Lq.introR (hS : ∀ f as r, S f as r → Sp P f as r) {T : Type} (ts : List Nat) (ls : List Lab) (I : T → Env) (V : T → Prop) (μ : T → Nat) {c : C} {K : Xt → Env → Prop}
    (h0 : ∃ t, V t ∧ Γ.keep ts ls = I t) (R : Nat → Xt → Env → Prop) (hR : ∀ n Γ, R n .nrm Γ → Again ts ls I V μ n Γ) (hE : ∀ n i Γ, R n (.ex i) Γ → K (.ex i) Γ) (hT : ∀ n Γ, R n .rt Γ → K .rt Γ) (hs : ∀ t, V t → vc S (Lq P N) c (I t) (R (μ t))) : Lq P N c Γ K := by
  intro G x hm σ ow w a hr
  obtain ⟨t, hV, hI⟩ := h0
  have hr0 := hr.keep ts ls
  rw [hI] at hr0
  intro b k cs
  have key : ∀ n t σ' ow' w' a', μ t = n → V t → Rep N G σ' ow' w' a' (I t) → Ext ow w ow' w' →
      ∃ e a2 w2, PostC N G ow w K e a2 w2 ∧ Arrives P (lone (b.at a' (.code x :: .inLoop x :: k)) cs w') b k cs e a2 w2 := by
    intro n
    induction n using Nat.strongRecOn with
    | _ n ih =>
      intro t σ' ow' w' a' hn hV hr he
      obtain ⟨e, a₁, w₁, hq, harr⟩ := snd_c hS hm hr (hs t hV) b (.inLoop x :: k) cs
      cases e with
      | normal =>
        obtain ⟨Γ', σ2, ow2, hq1, hr2, he2⟩ := hq
        obtain ⟨t', hV', hlt, hI'⟩ := hR _ _ hq1
        have hr3 := hr2.keep ts ls
        rw [hI'] at hr3
        obtain ⟨e₂, a₂, w₂, hq₂, harr₂⟩ := ih (μ t') (hn ▸ hlt) t' σ2 ow2 w₁ a₁ rfl hV' hr3 (he.trans he2)
        exact ⟨e₂, a₂, w₂, hq₂, .of_steps (Steps.trans harr (.one step_inLoop)) harr₂⟩
      | exit id =>
        obtain ⟨Γ', σ2, ow2, hq1, hq2⟩ := hq
        have hq : PostC N G ow' w' K (.exit id) a₁ w₁ := ⟨Γ', σ2, ow2, hE _ _ _ hq1, hq2⟩
        exact ⟨_, a₁, w₁, PostC.trans (K := K) (e := .exit id) he hq, .pass (x := .inLoop x) rfl (fun _ _ => .inl (by simp)) harr⟩
      | ret =>
        obtain ⟨Γ', σ2, ow2, hq1, hq2⟩ := hq
        have hq : PostC N G ow' w' K .ret a₁ w₁ := ⟨Γ', σ2, ow2, hT _ _ hq1, hq2⟩
        exact ⟨_, a₁, w₁, PostC.trans (K := K) (e := .ret) he hq, .pass (x := .inLoop x) rfl (fun _ _ => .inl (by simp)) harr⟩
      | _ => exact hq.elim
  obtain ⟨e, a', w', hq, harr⟩ := key _ t σ ow w a rfl hV hr0 (Ext.refl ow w)
  exact ⟨e, a', w', hq, .of_steps (.one step_loop) harr⟩
end
end Go.Q

set_option linter.unusedVariables false
namespace Go.Q
/-- A result variable, and how it is handed over. -/
inductive RV where
  | t (n : Nat) (m : RM)
  | c (n : Nat) (m : RM)
def RM.k : RM → Ki
  | .v c => c
  | .o c => c
  | .s c => .slice c
  | .cl c => .slice c
def RV.m : RV → RM
  | .t _ m => m
  | .c _ m => m
def boxA (k : Ki) (ls : List AV) : Option AV :=
  match k with
  | .struct n => if ls.length = ssz n then some (.ag n ls) else none
  | _ => (match ls with
    | [a] => if a.leaf then some a else none
    | _ => none)
def rav (Γ : Env) : RV → Option AV
  | .t n _ => lk Γ.tm n
  | .c n m => (match lk Γ.tm n with
    | some (.pt l 0) => (match lo Γ.ob l with
      | some (.box ls) => boxA m.k ls
      | _ => none)
    | _ => none)
def nodL : List Lab → Bool
  | [] => true
  | l :: ls => !ls.contains l && nodL ls
theorem nodL_nodup : ∀ {ls : List Lab}, nodL ls = true → ls.Nodup
  | [], _ => List.nodup_nil
  | l :: ls, h => by
    simp only [nodL, Bool.and_eq_true] at h
    exact List.nodup_cons.2 ⟨by simpa using h.1, nodL_nodup h.2⟩
def rx1 (Γ : Env) (a : AV) : RM → Option RA
  | .v c => (pk Γ.ob c a).map (RA.v c)
  | .o c => (pkO Γ.ob c a).bind fun r => if nodL r.2 then some (.o c r.1) else none
  | .s c => (match a with
    | .sl l => (match lo Γ.ob l with
      | some (.row false p c' xs) => (Ob.as c (.row false p c' xs)).map (RA.s c)
      | _ => none)
    | _ => none)
  | .cl c => (match a with
    | .cl c' xs => (AV.as (.slice c) (.v (.slice c') xs)).map (RA.cl c)
    | _ => none)
/-- A result, with the labels that it takes. -/
def rxq (Γ : Env) (a : AV) : RM → Option (RA × List Lab)
  | .v c => if a.refs (fun _ => true) then none else (pk Γ.ob c a).map fun x => (.v c x, [])
  | .o c => (pkO Γ.ob c a).map fun r => (.o c r.1, r.2)
  | .s c => (match a with
    | .sl l => (match lo Γ.ob l with
      | some (.row false false c' xs) => (Ob.as c (.row false false c' xs)).map fun xs => (.s c xs, [l])
      | _ => none)
    | .nl _ => some (.s c [], [])
    | _ => none)
  | .cl c => (match a with
    | .cl c' xs => (AV.as (.slice c) (.v (.slice c') xs)).map fun xs => (.cl c xs, [])
    | _ => none)
def rxl (Γ : Env) : List RV → Option (List RA × List Lab)
  | [] => some ([], [])
  | v :: vs => (rav Γ v).bind fun a => (rxq Γ a v.m).bind fun q => (rxl Γ vs).map fun p => (q.1 :: p.1, q.2 ++ p.2)
def rxQ (Γ : Env) : List RV → Option (RA × List Lab)
  | [] => some (.t [], [])
  | [v] => (rav Γ v).bind fun a => rxq Γ a v.m
  | vs => (rxl Γ vs).map fun p => (.t p.1, p.2)
def rx (Γ : Env) : List RV → Option RA
  | [] => some (.t [])
  | [v] => (rav Γ v).bind fun a => rx1 Γ a v.m
  | vs => (rxl Γ vs).bind fun p => if nodL p.2 then some (.t p.1) else none
def Fin (vs : List RV) (r : RA) : Xt → Env → Prop
  | .ex _, _ => False
  | _, Γ => rx Γ vs = some r
def entry : Nat → List SA → List (Nat × AV)
  | _, [] => []
  | i, .v c x :: r => (i, .v c x) :: entry (i + 1) r
  | i, .fn f cs :: r => (i, .fn f (capV cs)) :: entry (i + 1) r
  | i, _ :: r => entry (i + 1) r
def rvM (P : Program) (N : Nat) : RV → ResultVar → Bool
  | .t n _, .tmp t => n == t
  | .c n m, .cell a t => n == a && tk P t m.k
  | _, _ => false
def rvsM (P : Program) (N : Nat) : List RV → List ResultVar → Bool
  | [], [] => true
  | v :: vs, x :: xs => rvM P N v x && rvsM P N vs xs
  | _, _ => false
def fnM (P : Program) (fn : Func) (N : Nat) (c : C) (vs : List RV) : Bool :=
  fn.name != "runtime.NumGoroutine" && fn.ntmps == N && (match fn.body with | some x => c.m P N x | none => false) && rvsM P N vs fn.results.toList
section
variable {P : Program} {N : Nat} {G : Gd} {σ : Lab → Value} {ow : Own} {w w0 : World} {a : Act} {Γ : Env}
theorem own_new (he : Ext (fun _ => none) w0 ow w) {b : Nat} {l : Lab} (h : ow b = some l) : w0.heap.size ≤ b := by
  rcases Nat.lt_or_ge b w0.heap.size with h' | h'
  · rw [(he.block b h' rfl).1] at h; cases h
  · exact h'
theorem ext_own (he : Ext (fun _ => none) w0 ow w) {ow' : Own} (h : ∀ b, b < w0.heap.size → ow' b = none) : Ext (fun _ => none) w0 ow' w :=
  ⟨he.os, he.tape, he.output, he.size, fun b hb hn => ⟨h b hb, (he.block b hb hn).2⟩⟩
theorem rx1_rep (hr : Rep N G σ ow w a Γ) (he : Ext (fun _ => none) w0 ow w) {m : RM} {x : AV} {r : RA} (h : rx1 Γ x m = some r) {u : Value} (hx : RepV σ (fz G ow w) w x u) :
    ∃ ow', ResR G ow' w r u ∧ Ext (fun _ => none) w0 ow' w := by
  cases m with
  | v c =>
    simp only [rx1, Option.map_eq_some_iff] at h
    obtain ⟨y, hp, rfl⟩ := h
    refine ⟨fun _ => none, ⟨fun _ => undef, ?_, fun l q h => by simp [RA.intro, lo] at h⟩, ext_own he fun _ _ => rfl⟩
    exact pk_rep (F' := fz G (fun _ => none) w) hr.ob (fun b hb => ⟨rfl, hb.2⟩) hp hx fun _ b l hb hlt => ⟨rfl, hlt, hr.own b l hb⟩
  | o c =>
    simp only [rx1, Option.bind_eq_some_iff] at h
    obtain ⟨⟨y, labs⟩, hp, h⟩ := h
    split at h
    · rename_i hn
      cases h
      obtain ⟨bs, hd, hnd, hob⟩ := pkO_rep hr.ob hp hx (nodL_nodup hn)
      obtain ⟨ow', h1, h2⟩ := ResR_o (G := G) hd hnd (pkO_val hp hx ⟨bs, y, hd⟩)
      refine ⟨ow', h2, ext_own he fun b hb => h1 b fun hb' => ?_⟩
      obtain ⟨l, _, hl⟩ := hob b hb'
      have := own_new he hl
      omega
    · cases h
  | s c =>
    simp only [rx1] at h
    split at h
    · rename_i l
      split at h
      · rename_i p c' xs hl
        simp only [Option.map_eq_some_iff] at h
        obtain ⟨y, hy, rfl⟩ := h
        have e := oas_eq hy
        simp only [Ob.row.injEq, true_and] at e
        obtain ⟨rfl, e⟩ := e
        obtain rfl := eq_of_heq e
        obtain ⟨bs, hrow, hnd, how⟩ := hr.ob _ _ hl
        obtain ⟨A, n, cp, hs, e⟩ := RepV_sl.1 hx
        let ow' : Own := fun b => if b ∈ bs then some [] else none
        have hfz : ∀ b, fz G ow w b → fz G ow' w b := fun b hb => ⟨if_neg (fun hb' => by have h1 := hb.1; rw [how b hb'] at h1; cases h1), hb.2⟩
        refine ⟨ow', ⟨fun _ => u, ?_, fun k q hq => ?_⟩, ext_own he fun b hb => if_neg fun hb' => ?_⟩
        · simp only [RA.intro]
          exact RepV_sl.2 ⟨A, n, cp, e, e⟩
        · simp only [RA.intro, lo] at hq
          split at hq
          · rename_i ek
            subst ek
            cases hq
            refine ⟨bs, ?_, hnd, fun b hb => if_pos hb⟩
            rw [hs, ← e] at hrow
            exact hrow.keep (fun b hb => ⟨hfz b hb, rfl⟩) (fun _ _ => rfl)
          · cases hq
        · have := own_new he (how b hb')
          omega
      · cases h
    · cases h
  | cl c =>
    simp only [rx1] at h
    split at h
    · rename_i c' xs
      simp only [Option.map_eq_some_iff] at h
      obtain ⟨ys, hy, rfl⟩ := h
      have e := as_eq hy
      simp only [AV.v.injEq, Ki.slice.injEq] at e
      obtain ⟨rfl, e⟩ := e
      obtain rfl := eq_of_heq e
      refine ⟨fun _ => none, ⟨fun _ => undef, ?_, fun l q h => by simp [RA.intro, lo] at h⟩, ext_own he fun _ _ => rfl⟩
      simp only [RepV, RepU, AV.isS, Bool.false_eq_true, if_false, RepC] at hx
      simp only [RA.intro, RepV, RepU, AV.isS, Bool.false_eq_true, if_false, RepC]
      exact ⟨hx.1.keep fun b hb => ⟨⟨rfl, hb.2⟩, rfl⟩, hx.2⟩
    · cases h
/-- A result, with its blocks. -/
theorem rxq_rep (hr : Rep N G σ ow w a Γ) {m : RM} {x : AV} {r : RA} {L : List Lab} (h : rxq Γ x m = some (r, L)) {u : Value} (hx : RepV σ (fz G ow w) w x u) (hn : L.Nodup) :
    ∃ p, PcR (fz G ow w) w r u p ∧ p.Nodup ∧ OB ow L p ∧ r.isT = false := by
  cases m with
  | v c =>
    simp only [rxq] at h
    split at h
    · cases h
    rename_i hrf
    simp only [Option.map_eq_some_iff, Prod.mk.injEq] at h
    obtain ⟨y, hp, rfl, rfl⟩ := h
    have hv := pk_rep (F' := fz G ow w) hr.ob (fun _ h => h) hp hx (fun h => absurd h hrf)
    have hk := RepV_cellsK hv
    refine ⟨[], ⟨hk, ?_, rfl⟩, List.nodup_nil, fun b hb => (by cases hb), rfl⟩
    cases hc : c.isS with
    | true =>
      cases c <;> simp [Ki.isS] at hc
      simp only [RepV, RepU, AV.isS, if_true] at hv
      obtain ⟨cs, rfl, _⟩ := hv
      simp [valOf, Ki.isS, Value.cells]
    | false =>
      have h1 := isS_sz hc
      obtain ⟨e, he⟩ : ∃ e, u.cells.toList = [e] := List.length_eq_one_iff.1 (hk.len.trans h1)
      have hns : (AV.v c y).isS = false := by cases c <;> simp_all [Ki.isS, AV.isS]
      have hv' : RepC (fun _ => undef) (fz G ow w) w (.v c y) [u] := by
        have : RepU (fun _ => undef) (fz G ow w) w (.v c y) u := hv
        simpa only [RepU, hns, Bool.false_eq_true, if_false] using this
      have hone := Kx_one (by simpa only [RepC] using hv') u (by simp)
      have : u.cells = #[u] := by cases u <;> simp_all [Value.oneCell', Value.cells]
      simp [valOf, hc, this]
  | o c =>
    simp only [rxq, Option.map_eq_some_iff, Prod.mk.injEq] at h
    obtain ⟨⟨y, labs⟩, hp, rfl, rfl⟩ := h
    obtain ⟨bs, hd, hnd, hob⟩ := pkO_rep hr.ob hp hx hn
    exact ⟨bs, ⟨hd, pkO_val hp hx ⟨bs, y, hd⟩⟩, hnd, hob, rfl⟩
  | s c =>
    simp only [rxq] at h
    split at h
    · rename_i l
      split at h
      · rename_i c' xs hl
        simp only [Option.map_eq_some_iff, Prod.mk.injEq] at h
        obtain ⟨y, hy, rfl, rfl⟩ := h
        have e := oas_eq hy
        simp only [Ob.row.injEq, true_and] at e
        obtain ⟨rfl, e⟩ := e
        obtain rfl := eq_of_heq e
        obtain ⟨bs, hrow, hnd, how⟩ := hr.ob _ _ hl
        obtain ⟨A, n, cp, hs, e⟩ := RepV_sl.1 hx
        rw [hs, ← e] at hrow
        exact ⟨bs, hrow, hnd, fun b hb => ⟨l, by simp, how b hb⟩, rfl⟩
      · cases h
    · simp only [Option.some.injEq, Prod.mk.injEq] at h
      obtain ⟨rfl, rfl⟩ := h
      obtain ⟨A, rfl⟩ := RepV_nl.1 hx
      refine ⟨[], ?_, List.nodup_nil, fun b hb => (by cases hb), rfl⟩
      show RowO w (fz G ow w) false c [] (.slice A 0 0) []
      simp only [RowO, Bool.false_eq_true, if_false]
      exact .inl ⟨⟨A, rfl⟩, rfl, rfl⟩
    · cases h
  | cl c =>
    simp only [rxq] at h
    split at h
    · rename_i c' xs
      simp only [Option.map_eq_some_iff, Prod.mk.injEq] at h
      obtain ⟨ys, hy, rfl, rfl⟩ := h
      have e := as_eq hy
      simp only [AV.v.injEq, Ki.slice.injEq] at e
      obtain ⟨rfl, e⟩ := e
      obtain rfl := eq_of_heq e
      simp only [RepV, RepU, AV.isS, Bool.false_eq_true, if_false, RepC] at hx
      obtain ⟨h1, A, h2⟩ := hx
      exact ⟨[], ⟨h1, ⟨A, by simpa using h2⟩, rfl⟩, List.nodup_nil, fun b hb => (by cases hb), rfl⟩
    · cases h
/-- What is handed back brings its own blocks. -/
theorem ResR_of (hr : Rep N G σ ow w a Γ) {r : RA} {u : Value} {p : List Nat} {L : List Lab} (h : PcR (fz G ow w) w r u p) (hn : p.Nodup) (hO : OB ow L p) : ∃ ow', (∀ b, b ∉ p → ow' b = none) ∧ ResR G ow' w r u := by
  have hF : ∀ b, fz G ow w b → b ∉ p ∧ b < w.heap.size := fun b hb => ⟨fun hh => (by
    obtain ⟨l, _, ho⟩ := hO b hh
    rw [hb.1] at ho; cases ho), hb.2.1⟩
  obtain ⟨σ0, ow0, k1, k2, k3⟩ := pc_root h hn hF
  have hfz : ∀ b, fz G ow w b → fz G ow0 w b := fun b hb => ⟨k1 b (hF b hb).1, hb.2⟩
  refine ⟨ow0, k1, σ0, RepV.keep (p := fun _ => false) (fun _ _ => rfl) (fun b hb => ⟨hfz b hb, rfl⟩) (refs_false _) k2, fun l q hq => ?_⟩
  have hob := k3 l q hq
  have hm : ∀ b, fz (gd (fz G ow w)) ow0 w b → fz G ow0 w b := fun b hb => ⟨hb.1, hb.2.1, hb.2.2.2.2⟩
  cases q with
  | box ls =>
    obtain ⟨b, e, cs, h1, h2, h3, h4⟩ := hob
    exact ⟨b, e, cs, h1, h2, h3, RepCs.keep (p := fun _ => false) (fun _ _ => rfl) (fun b hb => ⟨hm b hb, rfl⟩) (refsL_false _) h4⟩
  | row dp pin c xs =>
    obtain ⟨bs, h1, h2, h3⟩ := hob
    exact ⟨bs, h1.mono hm, h2, h3⟩
  | mp kk vk es =>
    obtain ⟨g, ms, clk, h1, h2, h3, h4⟩ := hob
    exact ⟨g, ms, clk, h1, h2, h3, h4.keep fun b hb => ⟨hm b hb, rfl⟩⟩
theorem res_val (hr : Rep N G σ ow w a Γ) {v : RV} {x : ResultVar} {y : AV} (hm : rvM P N v x = true) (h : rav Γ v = some y) :
    ∃ u, ((match x with | .tmp t => pure (a.tmps.getD t undef) | .cell b t => do loadVar t (← asAddr (a.tmps.getD b undef)) : Sem Value)).run P w = .ok u w ∧ RepV σ (fz G ow w) w y u := by
  cases v with
  | t n m =>
    cases x with
    | tmp t =>
      simp only [rvM, beq_iff_eq] at hm
      subst hm
      exact ⟨_, rfl, hr.tm _ _ h⟩
    | cell b t => simp [rvM] at hm
  | c n m =>
    cases x with
    | tmp t => simp [rvM] at hm
    | cell b t =>
      simp only [rvM, Bool.and_eq_true, beq_iff_eq] at hm
      obtain ⟨rfl, ht⟩ := hm
      simp only [rav] at h
      split at h
      · rename_i l hl
        split at h
        · rename_i ls hlo
          obtain ⟨b, e, cs, hs, hg, hown, hreps⟩ := hr.ob _ _ hlo
          obtain ⟨b', hs', eu⟩ := RepV_pt.1 (hr.tm _ _ hl)
          rw [hs] at hs'
          cases hs'
          have hcs : cs.toList.length = ls.length := hreps.length
          have key : ∀ es, es.length = m.k.sz → cs.toList = es → (do loadVar t (← asAddr (a.tmps.getD n undef)) : Sem Value).run P w = .ok (valOf m.k es) w := fun es hl hc => by
            have := run_load_cells ht w ⟨b, 0, none⟩ es hl (Cells_box hg 0 es fun j u hj => by rw [← hc] at hj; simpa using hj)
            simp only [Instr.loadAt, Instr.sureAddr, Sem.run_bind, Sem.run_pure, Result.andThen_ok] at this
            rw [eu]
            simp only [asAddr, Sem.run_bind, Sem.run_pure, Result.andThen_ok, this]
          unfold boxA at h
          split at h
          · rename_i n' hk
            split at h
            · rename_i hlen
              cases h
              refine ⟨_, key cs.toList (by rw [hk]; simp only [Ki.sz, ← hlen, hcs]) rfl, ?_⟩
              simp only [RepV, RepU, AV.isS, if_true, valOf, hk, Ki.isS, RepC]
              exact ⟨_, rfl, hlen, hreps⟩
            · cases h
          · rename_i hns
            split at h
            · rename_i a0
              split at h
              · rename_i hleaf
                cases h
                simp only [RepCs] at hreps
                obtain ⟨u, us, e1, h1, h2⟩ := hreps
                subst h2
                have hcS : m.k.isS = false := by cases hk : m.k <;> simp_all [Ki.isS]
                refine ⟨_, key [u] (by simp [isS_sz hcS]) e1, ?_⟩
                simp only [valOf, hcS, Bool.false_eq_true, if_false, List.headD_cons]
                refine RepV_leaf h1 ?_
                cases y <;> simp_all [AV.leaf, AV.isS]
                rename_i c' x'
                cases c' <;> simp_all
              · cases h
            · cases h
        · cases h
      · cases h
/-- The values of result variables. -/
def ValsR (P : Program) (tmps : Array Value) (w : World) : List ResultVar → List Value → Prop
  | [], us => us = []
  | x :: xs, us => ∃ u us', us = u :: us' ∧ ((match x with | .tmp t => pure (tmps.getD t undef) | .cell b t => do loadVar t (← asAddr (tmps.getD b undef)) : Sem Value)).run P w = .ok u w ∧ ValsR P tmps w xs us'
theorem rxl_rep (hr : Rep N G σ ow w a Γ) : ∀ {vs : List RV} {xs : List ResultVar} {rs : List RA} {L : List Lab}, rvsM P N vs xs = true → rxl Γ vs = some (rs, L) → L.Nodup →
    ∃ us p, ValsR P a.tmps w xs us ∧ PcsR (fz G ow w) w rs us p ∧ p.Nodup ∧ OB ow L p
  | [], xs, rs, L, hm, h, hn => by
    simp only [rxl, Option.some.injEq, Prod.mk.injEq] at h
    obtain ⟨rfl, rfl⟩ := h
    cases xs with
    | nil => exact ⟨[], [], rfl, by simp [PcsR], List.nodup_nil, fun b hb => by cases hb⟩
    | cons x xs => simp [rvsM] at hm
  | v :: vs, xs, rs, L, hm, h, hn => by
    simp only [rxl, Option.bind_eq_some_iff, Option.map_eq_some_iff, Prod.mk.injEq] at h
    obtain ⟨x0, hx0, ⟨r1, L1⟩, h1, ⟨rs2, L2⟩, h2, rfl, rfl⟩ := h
    cases xs with
    | nil => simp [rvsM] at hm
    | cons x xs =>
      simp only [rvsM, Bool.and_eq_true] at hm
      obtain ⟨u, hu, hrep⟩ := res_val (w := w) hr hm.1 hx0
      obtain ⟨p1, k1, k2, k3, k4⟩ := rxq_rep hr h1 hrep (List.nodup_append.1 hn).1
      obtain ⟨us, p2, g1, g2, g3, g4⟩ := rxl_rep hr hm.2 h2 (List.nodup_append.1 hn).2.1
      refine ⟨u :: us, p1 ++ p2, ⟨u, us, rfl, hu, g1⟩, ?_, k3.nodup g4 hn k2 g3, k3.append g4⟩
      simp only [PcsR]
      exact ⟨u, us, p1, p2, rfl, rfl, k1, k4, g2⟩
def resM (tmps : Array Value) : ResultVar → Sem Value
  | .tmp t => pure (tmps.getD t undef)
  | .cell b t => do loadVar t (← asAddr (tmps.getD b undef))
theorem run_mapM {tmps : Array Value} : ∀ {xs : List ResultVar} {us : List Value}, ValsR P tmps w xs us → (xs.mapM (resM tmps)).run P w = .ok us w ∧ us.length = xs.length
  | [], us, h => by cases h; exact ⟨rfl, rfl⟩
  | x :: xs, us, ⟨u, us', e, h1, h2⟩ => by
    subst e
    obtain ⟨k1, k2⟩ := run_mapM h2
    have h1' : (resM tmps x).run P w = .ok u w := by cases x <;> exact h1
    rw [List.mapM_cons]
    simp only [Sem.run_bind, h1', Result.andThen_ok, k1, Sem.run_pure]
    exact ⟨trivial, by simp [k2]⟩
theorem run_results {fn : Func} {tmps : Array Value} {us : List Value} (h : ValsR P tmps w fn.results.toList us) (h1 : fn.results.toList.length ≠ 1) : (results fn tmps).run P w = .ok (.tuple us.toArray) w := by
  obtain ⟨k1, k2⟩ := run_mapM h
  have e : fn.results.mapM (resM tmps) = List.toArray <$> fn.results.toList.mapM (resM tmps) := by
    have := List.mapM_toArray (f := resM tmps) (l := fn.results.toList)
    simpa using this
  have e2 : results fn tmps = (do
      let vs ← fn.results.mapM (resM tmps)
      pure (if h : vs.size = 1 then vs[0] else .tuple vs)) := by
    unfold results
    congr 1
  rw [e2, e]
  simp only [map_eq_pure_bind, Sem.run_bind, k1, Result.andThen_ok, Sem.run_pure]
  rw [dif_neg]
  simp only [List.size_toArray, k2]
  exact h1
theorem res_rep (hr : Rep N G σ ow w a Γ) (he : Ext (fun _ => none) w0 ow w) {fn : Func} {vs : List RV} {r : RA} (hm : rvsM P N vs fn.results.toList = true) (h : rx Γ vs = some r) :
    ∃ u, (results fn a.tmps).run P w = .ok u w ∧ ∃ ow', ResR G ow' w r u ∧ Ext (fun _ => none) w0 ow' w := by
  unfold rx at h
  split at h
  · cases h
    have h0 : fn.results = #[] := by
      cases hq : fn.results.toList with
      | nil => simpa using hq
      | cons x xs => rw [hq] at hm; simp [rvsM] at hm
    refine ⟨_, results_none h0 _ _ _, fun _ => none, ⟨fun _ => undef, ?_, fun l q h => by simp [RA.intro, introL, lo] at h⟩, ext_own he fun _ _ => rfl⟩
    simp [RA.intro, introL, RepV, RepUs]
  · rename_i v
    simp only [Option.bind_eq_some_iff] at h
    obtain ⟨y, hv, hx⟩ := h
    obtain ⟨x, h0⟩ : ∃ x, fn.results.toList = [x] := by
      cases hq : fn.results.toList with
      | nil => rw [hq] at hm; simp [rvsM] at hm
      | cons x xs => cases xs with
        | nil => exact ⟨x, rfl⟩
        | cons x' xs => rw [hq] at hm; simp [rvsM] at hm
    rw [h0] at hm
    simp only [rvsM, Bool.and_true] at hm
    obtain ⟨u, hu, hrep⟩ := res_val (w := w) hr hm hv
    refine ⟨u, ?_, rx1_rep hr he hx hrep⟩
    have h1 : fn.results = #[x] := by
      apply Array.toList_inj.1
      simpa using h0
    cases x with
    | tmp t =>
      have : u = a.tmps.getD t undef := by simpa using hu.symm
      subst this
      exact results_tmp h1 _ _ _
    | cell b t =>
      dsimp only at hu
      simp [results, h1]
      simp at hu
      rw [hu]
  · rename_i h1 h2
    simp only [Option.bind_eq_some_iff] at h
    obtain ⟨⟨rs, L⟩, hl, h⟩ := h
    simp only at h
    split at h
    rotate_left
    · cases h
    rename_i hn
    cases h
    obtain ⟨us, p, k1, k2, k3, k4⟩ := rxl_rep hr hm hl (nodL_nodup hn)
    have hlen : fn.results.toList.length ≠ 1 := by
      intro h0
      have : vs.length = 1 := by
        have : ∀ {vs : List RV} {xs : List ResultVar}, rvsM P N vs xs = true → vs.length = xs.length := by
          intro vs
          induction vs with
          | nil => intro xs h; cases xs with | nil => rfl | cons x xs => simp [rvsM] at h
          | cons v vs ih => intro xs h; cases xs with
            | nil => simp [rvsM] at h
            | cons x xs => simp only [rvsM, Bool.and_eq_true] at h; simp [ih h.2]
        rw [this hm, h0]
      obtain ⟨v, hv⟩ := List.length_eq_one_iff.1 this
      exact h2 v hv
    obtain ⟨ow', g1, g2⟩ := ResR_of hr (r := .t rs) (u := .tuple us.toArray) (by simp only [PcR]; exact ⟨us, rfl, k2⟩) k3 k4
    refine ⟨_, run_results k1 hlen, ow', g2, ext_own he fun b hb => g1 b fun hb' => ?_⟩
    obtain ⟨l, _, hl⟩ := k4 b hb'
    have := own_new he hl
    omega
end
end Go.Q

set_option linter.unusedVariables false
namespace Go.Q
section
variable {P : Program} {N : Nat} {F : Nat → Prop} {w : World}
theorem entry_rep {σ : Lab → Value} {F' : Nat → Prop} (hF : ∀ b, F b → F' b) : ∀ {as : List SA} {us : List Value} {i t : Nat} {x : AV}, ArgsR F w as us → lk (entry i as) t = some x → ∃ j, t = i + j ∧ ∃ u, us[j]? = some u ∧ RepV σ F' w x u
  | [], us, i, t, x, _, h => by simp [entry, lk] at h
  | s :: ss, us, i, t, x, ⟨u, r, e, hs, hr⟩, h => by
    subst e
    have tail : lk (entry (i + 1) ss) t = some x → ∃ j, t = i + j ∧ ∃ v, (u :: r)[j]? = some v ∧ RepV σ F' w x v := fun h => by
      obtain ⟨j, e, v, hv, hx⟩ := entry_rep hF hr h
      exact ⟨j + 1, by omega, v, by simpa using hv, hx⟩
    cases s with
    | v c y =>
      simp only [entry, lk] at h
      split at h
      · rename_i e
        cases h
        refine ⟨0, e.symm, u, rfl, ?_⟩
        exact RepV.keep (σ := fun _ => undef) (p := fun _ => true) (fun _ h => by cases h) (fun b hb => ⟨hF b hb, rfl⟩) rfl hs
      · exact tail h
    | fn f =>
      simp only [entry, lk] at h
      split at h
      · rename_i e
        cases h
        exact ⟨0, e.symm, u, rfl, RepV.keep (σ := fun _ => undef) (p := fun _ => true) (fun _ h => by cases h) (fun b hb => ⟨hF b hb, rfl⟩) (capV_refs _) hs⟩
      · exact tail h
    | _ => exact hs.elim
theorem ArgsR.length : ∀ {as : List SA} {us : List Value}, ArgsR F w as us → us.length = as.length
  | [], _, h => by cases h; rfl
  | s :: ss, us, ⟨u, r, e, _, hr⟩ => by subst e; simp [hr.length]
theorem Sp.intro {S : FuncId → List SA → RA → Prop} (hS : ∀ f as r, S f as r → Sp P f as r) {f : FuncId} {fn : Func} {c : C} {vs : List RV} {as : List SA} {r : RA} (hfn : P.funcs[f]? = some fn) (hm : fnM P fn N c vs = true) (hn : Nat.ble as.length N = true)
    (h : vc S (Lq P N) c ⟨entry 0 as, []⟩ (Fin vs r)) (hw : r.isX = false) : Sp P f as r := by
  simp only [fnM, Bool.and_eq_true, beq_iff_eq] at hm
  obtain ⟨⟨⟨hname, hN⟩, hb⟩, hv⟩ := hm
  refine ⟨?_, fun F w us hF hA => ?_, (fun _ _ _ _ h => by rw [isW_of hw] at h; cases h), fun _ _ r0 os' _ _ h => by subst h; cases hw⟩
  · unfold callOk
    rw [hfn]
    simp only [hname, Bool.true_and]
    cases hbody : fn.body with
    | none => rw [hbody] at hb; cases hb
    | some x => rfl
  cases hbody : fn.body with
  | none => rw [hbody] at hb; cases hb
  | some x =>
    rw [hbody] at hb
    have hlen := hA.length
    have hn' : as.length ≤ N := Nat.le_of_ble_eq_true hn
    refine calls_of_wp hfn hbody (wp_mono (snd_c hS (σ := fun _ => undef) (ow := fun _ => none) (G := gd fun b => F b ∨ w.heap.size ≤ b) hb ?_ h) fun e a' w' hq => ?_)
    · refine ⟨?_, rfl, fun t y hy => ?_, fun l q hq => (by simp [lo] at hq), fun b l hb => (by cases hb), fun b hb => .inr hb, fun l q hq => (by simp [lo] at hq), fun _ _ => rfl⟩
      · simp only [Array.size_append, List.size_toArray, Array.size_replicate, hN]
        omega
      · obtain ⟨j, e, u, hu, hx⟩ := entry_rep (F' := fz (gd fun b => F b ∨ w.heap.size ≤ b) (fun _ => none) w) (σ := fun _ => undef) (fun b hb => ⟨rfl, hF b hb, .inl hb⟩) hA hy
        have : t = j := by omega
        subst this
        have hlt : t < us.length := (List.getElem?_eq_some_iff.1 hu).1
        have e1 : (us.toArray ++ Array.replicate (fn.ntmps - us.toArray.size) undef).getD t undef = u := by
          rw [Array.getD_eq_getD_getElem?, Array.getElem?_append_left (by simpa using hlt)]
          simp [hu]
        rw [e1]
        exact hx
    · cases e with
      | normal =>
        obtain ⟨Γ', σ', ow', hk, hr, he⟩ := hq
        obtain ⟨u, hu, o2, h1, h2⟩ := res_rep hr he hv hk
        exact ⟨hr.defers, u, hu, u, o2, rfl, h1, h2⟩
      | ret =>
        obtain ⟨Γ', σ', ow', hk, hr, he⟩ := hq
        obtain ⟨u, hu, o2, h1, h2⟩ := res_rep hr he hv hk
        exact ⟨hr.defers, u, hu, u, o2, rfl, h1, h2⟩
      | exit id => obtain ⟨Γ', σ', ow', hk, _⟩ := hq; exact hk.elim
      | _ => exact hq.elim
end
end Go.Q

/- A function that writes into its argument. -/
set_option linter.unusedVariables false
namespace Go.Q
def RVW (x : Option AV) (n : Int) : Prop := need x fun
  | .v (.int kk) (z : Int) => kk = .i64 ∧ z = n
  | _ => False
def RWW (k : Ki) (ys : List k.T) (x : Option Ob) : Prop := need x fun
  | .row true true k' zs => need (Ob.as k (.row true true k' zs)) fun zs => zs = ys
  | _ => False
def FinW (m N : Nat) (k : Ki) (ys : List k.T) (n : Int) : Xt → Env → Prop
  | .ex _, _ => False
  | _, Γ => RVW (lk Γ.tm m) n ∧ RWW k ys (lo Γ.ob [N])
section
variable {P : Program} {N : Nat} {w : World}
theorem RVW_iff {x : Option AV} {n : Int} (h : RVW x n) : x = some (.v kI n) := by
  obtain ⟨a, rfl, h2⟩ := need_iff h
  clear h
  split at h2
  · obtain ⟨rfl, rfl⟩ := h2; rfl
  · exact h2.elim
theorem RWW_iff {k : Ki} {ys : List k.T} {x : Option Ob} (h : RWW k ys x) : x = some (.row true true k ys) := by
  obtain ⟨a, rfl, h2⟩ := need_iff h
  clear h
  split at h2
  · obtain ⟨zs, hz, rfl⟩ := need_iff h2
    have := oas_eq hz
    cases this
    rfl
  · exact h2.elim
theorem callOk_of {f : FuncId} {fn : Func} {c : C} {vs : List RV} (hfn : P.funcs[f]? = some fn) (hm : fnM P fn N c vs = true) : callOk P f = true := by
  simp only [fnM, Bool.and_eq_true, beq_iff_eq] at hm
  obtain ⟨⟨⟨hname, hN⟩, hb⟩, hv⟩ := hm
  unfold callOk
  rw [hfn]
  simp only [hname, Bool.true_and]
  cases hbody : fn.body with
  | none => rw [hbody] at hb; cases hb
  | some x => rfl
theorem Sp.introW {S : FuncId → List SA → RA → Prop} (hS : ∀ f as r, S f as r → Sp P f as r) {f : FuncId} {fn : Func} {c : C} {m : Nat} {k : Ki} {xs ys : List k.T} {j n : Int} (hfn : P.funcs[f]? = some fn) (hm : fnM P fn N c [.t m (.v kI)] = true) (hn : Nat.ble 2 N = true)
    (h : vc S (Lq P N) c ⟨[(0, .sl [N]), (1, .v kI j)], [([N], .row true true k xs)]⟩ (FinW m N k ys n)) : Sp P f [.io (.slice k) xs, .v kI j] (.w (.slice k) (some ys) n) := by
  refine ⟨callOk_of hfn hm, fun F w us _ hA => ?_, fun c0 y0 j0 he hw => ?_, fun _ _ _ _ _ _ h => (by cases h)⟩
  · obtain ⟨_, _, _, hh, _⟩ := hA
    exact hh.elim
  simp only [List.cons.injEq, SA.io.injEq, SA.v.injEq, and_true] at he
  obtain ⟨⟨rfl, he1⟩, _, he2⟩ := he
  cases he1
  cases he2
  rw [wAs_some]
  simp only [RA.wn]
  intro w u bs hD hnd hval hj
  simp only [fnM, Bool.and_eq_true, beq_iff_eq] at hm
  obtain ⟨⟨⟨hname, hN⟩, hb⟩, hv⟩ := hm
  have hN2 : 2 ≤ N := Nat.le_of_ble_eq_true hn
  obtain ⟨u', e1, hrow⟩ := Dx_slice.1 hD
  have hu' : u = u' := by
    rw [hval, e1]; simp [valOf, Ki.isS]
  subst hu'
  have hblt : ∀ b ∈ bs, b < w.heap.size := RowO.lt (F := fun _ => True) (deep := true) (by simpa [RowO] using hrow)
  cases hbody : fn.body with
  | none => rw [hbody] at hb; cases hb
  | some x =>
    rw [hbody] at hb
    have hfin : ∀ (Γ' : Env) (σ' : Lab → Value) (ow' : Own) (a' : Act) (w' : World), RVW (lk Γ'.tm m) n ∧ RWW k ys (lo Γ'.ob [N]) → Rep N ⟨fun b => b ∈ bs ∨ w.heap.size ≤ b, fun _ => u, fun _ => false⟩ σ' ow' w' a' Γ' → Ext (fun b => if b ∈ bs then some [N] else none) w ow' w' →
        (results fn a'.tmps).run P w' = .ok (.int .i64 n) w' ∧ (inR .i64 n ∧ w'.os = w.os ∧ w'.tape = w.tape ∧ w'.output = w.output ∧ w.heap.size ≤ w'.heap.size ∧ (∀ b, b < w.heap.size → b ∉ bs → w'.heap[b]? = w.heap[b]?) ∧
          ∀ y1, some ys = some y1 → ∃ bs', Dx w' (.slice k) y1 u.cells.toList bs' ∧ bs'.Nodup ∧ ∀ b ∈ bs', b ∈ bs ∨ w.heap.size ≤ b) := by
      intro Γ' σ' ow' a' w' hk hr he
      have h1 := RVW_iff hk.1
      have h2 := RWW_iff hk.2
      obtain ⟨hres, hin⟩ := RepV_int.1 (hr.tm _ _ h1)
      obtain ⟨x0, h0⟩ : ∃ x, fn.results.toList = [x] := by
        cases hq : fn.results.toList with
        | nil => rw [hq] at hv; simp [rvsM] at hv
        | cons x xs => cases xs with
          | nil => exact ⟨x, rfl⟩
          | cons x' xs => rw [hq] at hv; simp [rvsM] at hv
      rw [h0] at hv
      have h3 : fn.results = #[x0] := by
        apply Array.toList_inj.1
        simpa using h0
      have hx0 : x0 = .tmp m := by
        cases x0 with
        | tmp t => simp only [rvsM, rvM, Bool.and_true, beq_iff_eq] at hv; rw [hv]
        | cell b t => simp [rvsM, rvM] at hv
      refine ⟨?_, hin, he.os, he.tape, he.output, he.size, fun b hb hbb => (he.block b hb (if_neg hbb)).2, fun y1 hy1 => ?_⟩
      · have := results_tmp (P := P) (h3.trans (by rw [hx0])) a'.tmps w'
        rw [hres] at this
        exact this
      · cases hy1
        have hp : σ' [N] = u := hr.pin _ _ h2 rfl
        obtain ⟨bs', hro, hnd', hown⟩ := hr.ob _ _ h2
        rw [hp] at hro
        refine ⟨bs', ?_, hnd', fun b hb => ?_⟩
        · rw [e1]
          exact Dx_slice.2 ⟨u, rfl, by simpa [RowO] using hro⟩
        · rcases Nat.lt_or_ge b w.heap.size with hlt | hge
          · left
            refine Classical.byContradiction fun hbb => ?_
            have := (he.block b hlt (if_neg hbb)).1
            rw [hown b hb] at this
            cases this
          · exact .inr hge
    refine calls_of_wp hfn hbody (wp_mono (snd_c hS (σ := fun _ => u) (ow := fun b => if b ∈ bs then some [N] else none) (G := ⟨fun b => b ∈ bs ∨ w.heap.size ≤ b, fun _ => u, fun _ => false⟩) hb ?_ h) fun e a' w' hq => ?_)
    · refine ⟨?_, rfl, fun t y hy => ?_, fun l q hq => ?_, fun b l hb => ?_, fun b hb => .inr hb, fun l q hq hp => rfl, fun _ _ => rfl⟩
      · simp [hN]; omega
      · have hform : ∃ A len cap, u = .slice A len cap := by
          rcases hrow with ⟨⟨A, rfl⟩, _⟩ | ⟨_, _, _, _, _, rfl, _⟩ <;> exact ⟨_, _, _, rfl⟩
        obtain ⟨A, len, cap, hu⟩ := hform
        simp only [lk] at hy
        split at hy
        · rename_i e0
          cases hy
          subst e0
          have : (#[u, Value.int .i64 j] ++ Array.replicate (fn.ntmps - (#[u, Value.int .i64 j] : Array Value).size) undef).getD 0 undef = u := by
            rw [Array.getD_eq_getD_getElem?, Array.getElem?_append_left (by simp)]
            simp
          rw [this]
          exact RepV_sl.2 ⟨A, len, cap, hu, hu⟩
        · split at hy
          · rename_i e0
            cases hy
            subst e0
            have : (#[u, Value.int .i64 j] ++ Array.replicate (fn.ntmps - (#[u, Value.int .i64 j] : Array Value).size) undef).getD 1 undef = .int .i64 j := by
              rw [Array.getD_eq_getD_getElem?, Array.getElem?_append_left (by simp)]
              simp
            rw [this]
            exact RepV_int.2 ⟨rfl, hj⟩
          · cases hy
      · simp only [lo] at hq
        split at hq
        · rename_i e0
          cases hq
          subst e0
          exact ⟨bs, by simpa [RowO] using hrow, hnd, fun b hb => if_pos hb⟩
        · cases hq
      · show b ∈ bs ∨ _
        split at hb
        · rename_i hh; exact .inl hh
        · cases hb
    · cases e with
      | normal =>
        obtain ⟨Γ', σ', ow', hk, hr, he⟩ := hq
        obtain ⟨h1, h2⟩ := hfin Γ' σ' ow' a' w' hk hr he
        exact ⟨hr.defers, _, h1, rfl, h2⟩
      | ret =>
        obtain ⟨Γ', σ', ow', hk, hr, he⟩ := hq
        obtain ⟨h1, h2⟩ := hfin Γ' σ' ow' a' w' hk hr he
        exact ⟨hr.defers, _, h1, rfl, h2⟩
      | exit id => obtain ⟨Γ', σ', ow', hk, _⟩ := hq; exact hk.elim
      | _ => exact hq.elim
def FinG (m : Nat) (n : Int) : Xt → Env → Prop
  | .ex _, _ => False
  | _, Γ => RVW (lk Γ.tm m) n
/-- The argument is a struct, and is given up. -/
theorem Sp.introG {S : FuncId → List SA → RA → Prop} (hS : ∀ f as r, S f as r → Sp P f as r) {f : FuncId} {fn : Func} {c : C} {m s : Nat} {x : Sty s} {j n : Int} (hfn : P.funcs[f]? = some fn) (hm : fnM P fn N c [.t m (.v kI)] = true) (hn : Nat.ble 2 N = true)
    (h : vc S (Lq P N) c ⟨[(0, ((RA.o (kR s) x).intro [N]).1), (1, .v kI j)], ((RA.o (kR s) x).intro [N]).2⟩ (FinG m n)) : Sp P f [.io (kR s) x, .v kI j] (.w (kR s) none n) := by
  refine ⟨callOk_of hfn hm, fun F w us _ hA => ?_, fun c0 y0 j0 he hw => ?_, fun _ _ _ _ _ _ h => (by cases h)⟩
  · obtain ⟨_, _, _, hh, _⟩ := hA
    exact hh.elim
  simp only [List.cons.injEq, SA.io.injEq, SA.v.injEq, and_true] at he
  obtain ⟨⟨rfl, he1⟩, _, he2⟩ := he
  cases he1
  cases he2
  intro w u bs hD hnd hval hj
  simp only [fnM, Bool.and_eq_true, beq_iff_eq] at hm
  obtain ⟨⟨⟨hname, hN⟩, hb⟩, hv⟩ := hm
  have hN2 : 2 ≤ N := Nat.le_of_ble_eq_true hn
  obtain ⟨ow', hnone, σ', hV, hO⟩ := ResR_o (G := ⟨fun b => b ∈ bs ∨ w.heap.size ≤ b, fun _ => undef, fun _ => false⟩) hD hnd hval
  cases hbody : fn.body with
  | none => rw [hbody] at hb; cases hb
  | some x0 =>
    rw [hbody] at hb
    have hfin : ∀ (Γ' : Env) (σ2 : Lab → Value) (ow2 : Own) (a' : Act) (w' : World), RVW (lk Γ'.tm m) n → Rep N ⟨fun b => b ∈ bs ∨ w.heap.size ≤ b, fun _ => undef, fun _ => false⟩ σ2 ow2 w' a' Γ' → Ext (fun b => (ow' b).map (N :: ·)) w ow2 w' →
        (results fn a'.tmps).run P w' = .ok (.int .i64 n) w' ∧ (inR .i64 n ∧ w'.os = w.os ∧ w'.tape = w.tape ∧ w'.output = w.output ∧ w.heap.size ≤ w'.heap.size ∧ (∀ b, b < w.heap.size → b ∉ bs → w'.heap[b]? = w.heap[b]?) ∧
          ∀ y1, wAs (kR s) (.w (kR s) none n) = some y1 → ∃ bs', Dx w' (kR s) y1 u.cells.toList bs' ∧ bs'.Nodup ∧ ∀ b ∈ bs', b ∈ bs ∨ w.heap.size ≤ b) := by
      intro Γ' σ2 ow2 a' w' hk hr he
      have h1 := RVW_iff hk
      obtain ⟨hres, hin⟩ := RepV_int.1 (hr.tm _ _ h1)
      obtain ⟨x0, h0⟩ : ∃ x, fn.results.toList = [x] := by
        cases hq : fn.results.toList with
        | nil => rw [hq] at hv; simp [rvsM] at hv
        | cons x xs => cases xs with
          | nil => exact ⟨x, rfl⟩
          | cons x' xs => rw [hq] at hv; simp [rvsM] at hv
      rw [h0] at hv
      have h3 : fn.results = #[x0] := by
        apply Array.toList_inj.1
        simpa using h0
      have hx0 : x0 = .tmp m := by
        cases x0 with
        | tmp t => simp only [rvsM, rvM, Bool.and_true, beq_iff_eq] at hv; rw [hv]
        | cell b t => simp [rvsM, rvM] at hv
      refine ⟨?_, hin, he.os, he.tape, he.output, he.size, fun b hb hbb => (he.block b hb (by simp [hnone b hbb])).2, fun y1 hy1 => by simp [wAs] at hy1⟩
      have := results_tmp (P := P) (h3.trans (by rw [hx0])) a'.tmps w'
      rw [hres] at this
      exact this
    obtain ⟨p1, p2⟩ := intro_pre N [] (RA.o (kR s) x)
    have hσ : ∀ l, (fun l : Lab => match l with | [] => undef | _ :: l => σ' l) (N :: l) = σ' l := fun l => rfl
    have hfz : ∀ b, fz ⟨fun b => b ∈ bs ∨ w.heap.size ≤ b, fun _ => undef, fun _ => false⟩ ow' w b → fz ⟨fun b => b ∈ bs ∨ w.heap.size ≤ b, fun _ => undef, fun _ => false⟩ (fun b => (ow' b).map (N :: ·)) w b := fun b hb => ⟨by simp [hb.1], hb.2⟩
    refine calls_of_wp hfn hbody (wp_mono (snd_c hS (σ := fun l : Lab => match l with | [] => undef | _ :: l => σ' l) (ow := fun b => (ow' b).map (N :: ·)) (G := ⟨fun b => b ∈ bs ∨ w.heap.size ≤ b, fun _ => undef, fun _ => false⟩) hb ?_ h) fun e a' w' hq => ?_)
    · refine ⟨?_, rfl, fun t y hy => ?_, fun l q hq => ?_, fun b l hb => ?_, fun b hb => .inr hb, fun l q hq hp => ?_, fun _ _ => rfl⟩
      · simp [hN]; omega
      · simp only [lk] at hy
        split at hy
        · rename_i e0
          cases hy
          subst e0
          have : (#[u, Value.int .i64 j] ++ Array.replicate (fn.ntmps - (#[u, Value.int .i64 j] : Array Value).size) undef).getD 0 undef = u := by
            rw [Array.getD_eq_getD_getElem?, Array.getElem?_append_left (by simp)]
            simp
          rw [this, p1]
          exact hV.pre hσ hfz
        · split at hy
          · rename_i e0
            cases hy
            subst e0
            have : (#[u, Value.int .i64 j] ++ Array.replicate (fn.ntmps - (#[u, Value.int .i64 j] : Array Value).size) undef).getD 1 undef = .int .i64 j := by
              rw [Array.getD_eq_getD_getElem?, Array.getElem?_append_left (by simp)]
              simp
            rw [this]
            exact RepV_int.2 ⟨rfl, hj⟩
          · cases hy
      · rw [p2] at hq
        obtain ⟨l', q', rfl, rfl, hq'⟩ := lo_preO _ _ _ hq
        have hob := hO l' q' hq'
        cases q' with
        | box ls =>
          obtain ⟨b, e, cs, h1, h2, h3, h4⟩ := hob
          exact ⟨b, e, cs, h1, h2, by simp [h3], h4.pre hσ hfz⟩
        | row dp pin c xs =>
          obtain ⟨bs2, h1, h2, h3⟩ := hob
          exact ⟨bs2, h1.keep (fun b hb => ⟨hfz b hb, rfl⟩) (fun _ _ => rfl), h2, fun b hb => by simp [h3 b hb]⟩
        | mp kk vk es =>
          obtain ⟨g, ms, clk, h1, h2, h3, h4⟩ := hob
          exact ⟨g, ms, clk, h1, h2, by simp [h3], h4.keep fun b hb => ⟨hfz b hb, rfl⟩⟩
      · show b ∈ bs ∨ _
        refine Classical.byContradiction fun hh => ?_
        have hbb : b ∉ bs := fun h => hh (.inl h)
        simp [hnone b hbb] at hb
      · have := intro_pn [N] (RA.o (kR s) x) _ (lo_mem hq) (fun _ => false) l
        simp only at this
        rw [this] at hp; cases hp
    · cases e with
      | normal =>
        obtain ⟨Γ', σ2, ow2, hk, hr, he⟩ := hq
        obtain ⟨h1, h2⟩ := hfin Γ' σ2 ow2 a' w' hk hr he
        exact ⟨hr.defers, _, h1, rfl, h2⟩
      | ret =>
        obtain ⟨Γ', σ2, ow2, hk, hr, he⟩ := hq
        obtain ⟨h1, h2⟩ := hfin Γ' σ2 ow2 a' w' hk hr he
        exact ⟨hr.defers, _, h1, rfl, h2⟩
      | exit id => obtain ⟨Γ', σ2, ow2, hk, _⟩ := hq; exact hk.elim
      | _ => exact hq.elim
end
end Go.Q

/- A function that is lent what is its caller's own. -/
set_option linter.unusedVariables false
set_option linter.unusedSimpArgs false
namespace Go.Q
def isB : Lab → Bool
  | [n] => Nat.ble 1000 n
  | _ => false
mutual
/-- An argument, as its function has it. -/
def SA.av : SA → AV
  | .v c x => .v c x
  | .fn f cs => .fn f (capV cs)
  | .pt i off => .pt [1000 + i] off
  | .sl i => .sl [1000 + i]
  | .mp i => .mp [1000 + i]
  | .ag n ls => .ag n (avL ls)
  | .fb f cs => .fn f (avL cs)
  | .io _ _ => .no
  | .lo _ => .no
def avL : List SA → List AV
  | [] => []
  | s :: ss => s.av :: avL ss
end
def entryQ : Nat → List SA → List (Nat × AV)
  | _, [] => []
  | i, s :: r => (i, s.av) :: entryQ (i + 1) r
def obsE : Nat → List LO → List LO → List (Lab × Ob)
  | i, o :: os, o' :: os' => o.obs [1000 + i] (!o'.isGone) ++ obsE (i + 1) os os'
  | _, _, _ => []
def lvx (ob : List (Lab × Ob)) : LV → AV → Option (LV × List Lab)
  | .v c _, a => if a.refs (fun _ => true) || c.isSt then none else (pkL ob c a).map fun x => (.v c x, [])
  | .o c _, .sl l => (match lo ob l with
    | some (.row true false c' xs) => (Ob.as c (.row true false c' xs)).map fun xs => (.o c xs, [l])
    | _ => none)
  | .o c _, .nl _ => some (.o c [], [])
  | .s c _, .sl l => (match lo ob l with
    | some (.row false false c' xs) => (Ob.as c (.row false false c' xs)).map fun xs => (.s c xs, [l])
    | _ => none)
  | .s c _, .nl _ => some (.s c [], [])
  | _, _ => none
def lvxs (ob : List (Lab × Ob)) : List LV → List AV → Option (List LV × List Lab)
  | [], [] => some ([], [])
  | v :: vs, a :: as => (lvx ob v a).bind fun q => (lvxs ob vs as).map fun p => (q.1 :: p.1, q.2 ++ p.2)
  | _, _ => none
def lox1 (ob : List (Lab × Ob)) (l : Lab) : LO → Option (LO × List Lab)
  | .gone => some (.gone, [])
  | .box ls => (match lo ob l with
    | some (.box as) => (lvxs ob ls as).map fun q => (.box q.1, l :: q.2)
    | _ => none)
  | .row dp c _ => (match lo ob l with
    | some (.row dp' true c' xs) => if dp' = dp then (Ob.as c (.row dp' true c' xs)).map fun xs => (.row dp c xs, [l]) else none
    | _ => none)
  | .mp kk vk _ => (match lo ob l with
    | some (.mp kk' vk' es) => (mpAs kk vk (.mp kk' vk' es)).map fun es => (.mp kk vk es, [l])
    | _ => none)
def loxs (ob : List (Lab × Ob)) : Nat → List LO → Option (List LO × List Lab)
  | _, [] => some ([], [])
  | i, o :: os => (lox1 ob [1000 + i] o).bind fun q => (loxs ob (i + 1) os).map fun p => (q.1 :: p.1, q.2 ++ p.2)
def FinQ (vs : List RV) (r : RA) (os' : List LO) : Xt → Env → Prop
  | .ex _, _ => False
  | _, Γ => need (rxQ Γ vs) fun q => q.1 = r ∧ need (loxs Γ.ob 0 os') fun p => p.1 = os' ∧ nodB (q.2 ++ p.2) = true
def SA.noLo : SA → Bool
  | .lo _ => false
  | _ => true
section
variable {P : Program} {N : Nat} {G : Gd} {σ : Lab → Value} {ow : Own} {w : World} {a : Act} {Γ : Env} {F : Nat → Prop}
mutual
theorem av_rep {vs : List Value} (hσ : ∀ i v, vs[i]? = some v → σ [1000 + i] = v) : ∀ {s : SA} {u : Value}, ArgQ F w vs s u → RepV σ F w s.av u
  | .v c x, u, h => by
    simp only [ArgQ] at h
    simp only [SA.av]
    exact RepV.keep (σ := fun _ => undef) (p := fun _ => true) (fun _ h => by cases h) (fun b hb => ⟨hb, rfl⟩) rfl h
  | .fn f cs, u, h => by
    simp only [ArgQ] at h
    simp only [SA.av]
    exact RepV.keep (σ := fun _ => undef) (p := fun _ => true) (fun _ h => by cases h) (fun b hb => ⟨hb, rfl⟩) (capV_refs _) h
  | .pt i off, u, h => by
    simp only [ArgQ] at h
    simp only [SA.av]
    obtain ⟨b, h1, h2⟩ := h
    exact RepV_pt.2 ⟨b, hσ i _ h1, h2⟩
  | .sl i, u, h => by
    simp only [ArgQ] at h
    simp only [SA.av]
    obtain ⟨h1, A, n, c, h2⟩ := h
    exact RepV_sl.2 ⟨A, n, c, (hσ i _ h1).trans h2, h2⟩
  | .mp i, u, h => by
    simp only [ArgQ] at h
    simp only [SA.av]
    obtain ⟨h1, g, h2⟩ := h
    exact RepV_mp.2 ⟨g, (hσ i _ h1).trans h2, h2⟩
  | .ag n ls, u, h => by
    simp only [ArgQ] at h
    obtain ⟨h0, hn, cs, rfl, h2⟩ := h
    obtain ⟨k1, k2⟩ := avL_rep hσ hn h2
    simp only [SA.av, RepV, RepU, AV.isS, if_true, RepC]
    exact ⟨cs, rfl, by rw [k2]; exact h0, k1⟩
  | .fb f cs, u, h => by
    simp only [ArgQ] at h
    obtain ⟨hn, us, rfl, h2⟩ := h
    obtain ⟨k1, _⟩ := avL_rep hσ hn h2
    simp only [SA.av, RepV, RepU, AV.isS, Bool.false_eq_true, if_false, RepC]
    exact ⟨us, rfl, k1⟩
  | .io _ _, _, h => by simp [ArgQ] at h
  | .lo _, _, h => by simp [ArgQ] at h
theorem avL_rep {vs : List Value} (hσ : ∀ i v, vs[i]? = some v → σ [1000 + i] = v) : ∀ {ss : List SA} {us : List Value}, nsL ss = true → ArgQs F w vs ss us → RepCs σ F w (avL ss) us ∧ (avL ss).length = ss.length
  | [], us, _, h => by
    simp only [ArgQs] at h
    subst h
    exact ⟨by simp [avL, RepCs], rfl⟩
  | s :: ss, us, hn, h => by
    simp only [ArgQs] at h
    obtain ⟨u, r, rfl, h1, h2⟩ := h
    simp only [nsL, Bool.and_eq_true, Bool.not_eq_true'] at hn
    obtain ⟨k1, k2⟩ := avL_rep hσ hn.2 h2
    have hv := av_rep hσ h1
    refine ⟨?_, by simp [avL, k2]⟩
    simp only [avL, RepCs]
    refine ⟨u, r, rfl, ?_, k1⟩
    have h3 : s.av.isS = false := by
      cases s <;> simp only [SA.av] <;> first | rfl | skip
      · rename_i c x; have := hn.1; cases c <;> simp_all [SA.isS, AV.isS]
      · have := hn.1; simp [SA.isS] at this
    have h4 : ∀ vs, s.av ≠ .tu vs := by
      intro vs e
      cases s <;> simp [SA.av] at e
    cases hq : s.av with
    | tu vs => exact absurd hq (h4 vs)
    | _ =>
      rw [hq] at hv h3
      simpa only [RepV, RepU, h3, Bool.false_eq_true, if_false] using hv
end
theorem lvx_spec (hob : ∀ l q, lo Γ.ob l = some q → ObR G σ ow w l q) {v v' : LV} {x : AV} {L : List Lab} {u : Value} (h : lvx Γ.ob v x = some (v', L)) (hx : RepC σ (fz G ow w) w x [u]) : ∃ p, LvR (fz G ow w) w v' u p ∧ p.Nodup ∧ OB ow L p := by
  have nil : ∀ {dp : Bool} {c : Ki} {c' : Ki}, x = .nl c' → RowO w (fz G ow w) dp c [] u [] := by
    intro dp c c' e
    subst e
    simp only [RepC, List.cons.injEq, and_true] at hx
    obtain ⟨A, rfl⟩ := hx
    unfold RowO
    split <;> exact .inl ⟨⟨A, rfl⟩, rfl, rfl⟩
  have row : ∀ {l : Lab} {dp : Bool} {c : Ki} {xs : List c.T}, x = .sl l → lo Γ.ob l = some (.row dp false c xs) → ∃ p, RowO w (fz G ow w) dp c xs u p ∧ p.Nodup ∧ OB ow [l] p := by
    intro l dp c xs e hl
    subst e
    obtain ⟨bs, r1, r2, r3⟩ := hob _ _ hl
    simp only [RepC] at hx
    obtain ⟨A, n, cp, e1, e2⟩ := hx
    simp only [List.cons.injEq, and_true] at e2
    rw [e1, ← e2] at r1
    exact ⟨bs, r1, r2, fun b hb => ⟨l, by simp, r3 b hb⟩⟩
  cases v with
  | v c y =>
    simp only [lvx] at h
    split at h
    · cases h
    rename_i hc
    simp only [Option.map_eq_some_iff, Prod.mk.injEq] at h
    obtain ⟨z, hz, rfl, rfl⟩ := h
    simp only [Bool.or_eq_true, not_or, Bool.not_eq_true] at hc
    have hk := pkL_rep (F' := fz G ow w) hob (fun _ h => h) hz hx (fun h => by rw [hc.1] at h; cases h)
    refine ⟨[], ⟨?_, hk, rfl⟩, List.nodup_nil, fun b hb => by cases hb⟩
    have := hc.2
    cases c <;> simp_all [Ki.isSt, Ki.isS]
  | o c y =>
    cases x <;> simp only [lvx, reduceCtorEq] at h
    · rename_i l
      split at h
      · rename_i c' xs hl
        simp only [Option.map_eq_some_iff, Prod.mk.injEq] at h
        obtain ⟨z, hz, rfl, rfl⟩ := h
        have e := oas_eq hz
        cases e
        obtain ⟨p, k1, k2, k3⟩ := row rfl hl
        exact ⟨p, k1, k2, k3⟩
      · cases h
    · simp only [Option.some.injEq, Prod.mk.injEq] at h
      obtain ⟨rfl, rfl⟩ := h
      exact ⟨[], nil rfl, List.nodup_nil, fun b hb => by cases hb⟩
  | s c y =>
    cases x <;> simp only [lvx, reduceCtorEq] at h
    · rename_i l
      split at h
      · rename_i c' xs hl
        simp only [Option.map_eq_some_iff, Prod.mk.injEq] at h
        obtain ⟨z, hz, rfl, rfl⟩ := h
        have e := oas_eq hz
        cases e
        obtain ⟨p, k1, k2, k3⟩ := row rfl hl
        exact ⟨p, k1, k2, k3⟩
      · cases h
    · simp only [Option.some.injEq, Prod.mk.injEq] at h
      obtain ⟨rfl, rfl⟩ := h
      exact ⟨[], nil rfl, List.nodup_nil, fun b hb => by cases hb⟩
theorem lvxs_spec (hob : ∀ l q, lo Γ.ob l = some q → ObR G σ ow w l q) : ∀ {vs vs' : List LV} {xs : List AV} {L : List Lab} {us : List Value}, lvxs Γ.ob vs xs = some (vs', L) → RepCs σ (fz G ow w) w xs us → L.Nodup → ∃ p, LvsR (fz G ow w) w vs' us p ∧ p.Nodup ∧ OB ow L p
  | [], vs', [], L, us, h, hx, hn => by
    simp only [lvxs, Option.some.injEq, Prod.mk.injEq] at h
    obtain ⟨rfl, rfl⟩ := h
    simp only [RepCs] at hx
    exact ⟨[], ⟨hx, rfl⟩, List.nodup_nil, fun b hb => by cases hb⟩
  | [], _, _ :: _, _, _, h, _, _ => by simp [lvxs] at h
  | _ :: _, _, [], _, _, h, _, _ => by simp [lvxs] at h
  | v :: vs, vs', x :: xs, L, us, h, hx, hn => by
    simp only [lvxs, Option.bind_eq_some_iff, Option.map_eq_some_iff, Prod.mk.injEq] at h
    obtain ⟨⟨v1, L1⟩, h1, ⟨vs1, L2⟩, h2, rfl, rfl⟩ := h
    simp only [RepCs] at hx
    obtain ⟨u, us', rfl, k1, k2⟩ := hx
    obtain ⟨p1, a1, a2, a3⟩ := lvx_spec hob h1 k1
    obtain ⟨p2, b1, b2, b3⟩ := lvxs_spec hob h2 k2 (List.nodup_append.1 hn).2.1
    exact ⟨p1 ++ p2, ⟨u, us', p1, p2, rfl, rfl, a1, b1⟩, a3.nodup b3 hn a2 b2, a3.append b3⟩
theorem lox1_spec (hob : ∀ l q, lo Γ.ob l = some q → ObR G σ ow w l q) {l : Lab} {o o' : LO} {L : List Lab} (h : lox1 Γ.ob l o = some (o', L)) (hn : L.Nodup) (v : Value) : ∃ p, p.Nodup ∧ OB ow L p ∧ ((o' = .gone ∧ LoR (fz G ow w) w o' v p) ∨ (∃ q, lo Γ.ob l = some q ∧ ((∃ ls, q = .box ls) ∨ (∃ d c xs, q = .row d true c xs) ∨ ∃ kk vk es, q = .mp kk vk es)) ∧ LoR (fz G ow w) w o' (σ l) p) := by
  cases o with
  | gone =>
    simp only [lox1, Option.some.injEq, Prod.mk.injEq] at h
    obtain ⟨rfl, rfl⟩ := h
    exact ⟨[], List.nodup_nil, fun b hb => (by cases hb), .inl ⟨rfl, rfl⟩⟩
  | box ls =>
    simp only [lox1] at h
    split at h
    · rename_i as hl
      simp only [Option.map_eq_some_iff, Prod.mk.injEq] at h
      obtain ⟨⟨ls', L'⟩, hq, rfl, rfl⟩ := h
      obtain ⟨b, e, cs, e1, e2, e3, e4⟩ := hob _ _ hl
      have hnc := List.nodup_cons.1 hn
      obtain ⟨p, k1, k2, k3⟩ := lvxs_spec hob hq e4 hnc.2
      refine ⟨b :: p, List.nodup_cons.2 ⟨fun hb => ?_, k2⟩, fun b' hb' => ?_, .inr ⟨⟨_, hl, .inl ⟨_, rfl⟩⟩, b, e, cs, p, e1, e2, rfl, k1⟩⟩
      · obtain ⟨m, hm, ho⟩ := k3 b hb
        rw [e3] at ho; cases ho
        exact hnc.1 hm
      · rcases List.mem_cons.1 hb' with rfl | hb'
        · exact ⟨l, by simp, e3⟩
        · obtain ⟨m, hm, ho⟩ := k3 b' hb'
          exact ⟨m, List.mem_cons_of_mem _ hm, ho⟩
    · cases h
  | row dp c xs =>
    simp only [lox1] at h
    split at h
    · rename_i dp' c' xs' hl
      split at h
      rotate_left
      · cases h
      rename_i hd
      subst hd
      simp only [Option.map_eq_some_iff, Prod.mk.injEq] at h
      obtain ⟨z, hz, rfl, rfl⟩ := h
      have e := oas_eq hz
      cases e
      obtain ⟨bs, r1, r2, r3⟩ := hob _ _ hl
      exact ⟨bs, r2, fun b hb => ⟨l, by simp, r3 b hb⟩, .inr ⟨⟨_, hl, .inr (.inl ⟨_, _, _, rfl⟩)⟩, r1⟩⟩
    · cases h
  | mp kk vk es =>
    simp only [lox1] at h
    split at h
    · rename_i kk' vk' es' hl
      simp only [Option.map_eq_some_iff, Prod.mk.injEq] at h
      obtain ⟨z, hz, rfl, rfl⟩ := h
      have e := mpAs_eq hz
      cases e
      obtain ⟨g, ms, clk, r1, r2, r3, r4⟩ := hob _ _ hl
      exact ⟨[g], by simp, fun b hb => (by rw [List.mem_singleton] at hb; subst hb; exact ⟨l, by simp, r3⟩), .inr ⟨⟨_, hl, .inr (.inr ⟨_, _, _, rfl⟩)⟩, g, ms, clk, r1, r2, rfl, r4⟩⟩
    · cases h
theorem loxs_spec (hr : Rep N G σ ow w a Γ) (hpb : G.pb = isB) : ∀ {os os' : List LO} {i : Nat} {L : List Lab} {vs : List Value}, loxs Γ.ob i os = some (os', L) → L.Nodup → vs.length = os.length → (∀ j v, vs[j]? = some v → G.pin [1000 + (i + j)] = v) →
    ∃ q, LosR (fz G ow w) w os' vs q ∧ q.Nodup ∧ OB ow L q
  | [], os', i, L, vs, h, hn, hl, hv => by
    simp only [loxs, Option.some.injEq, Prod.mk.injEq] at h
    obtain ⟨rfl, rfl⟩ := h
    have : vs = [] := List.eq_nil_of_length_eq_zero hl
    subst this
    exact ⟨[], ⟨rfl, rfl⟩, List.nodup_nil, fun b hb => by cases hb⟩
  | o :: os, os', i, L, vs, h, hn, hl, hv => by
    simp only [loxs, Option.bind_eq_some_iff, Option.map_eq_some_iff, Prod.mk.injEq] at h
    obtain ⟨⟨o1, L1⟩, h1, ⟨os1, L2⟩, h2, rfl, rfl⟩ := h
    cases vs with
    | nil => simp at hl
    | cons v vs =>
      obtain ⟨p1, a1, a2, a3⟩ := lox1_spec hr.ob h1 (List.nodup_append.1 hn).1 v
      obtain ⟨p2, b1, b2, b3⟩ := loxs_spec hr hpb h2 (List.nodup_append.1 hn).2.1 (by simpa using hl) (fun j u hu => by
        have := hv (j + 1) u (by simpa using hu)
        rwa [show i + (j + 1) = i + 1 + j by omega] at this)
      have hv0 : G.pin [1000 + i] = v := hv 0 v rfl
      refine ⟨p1 ++ p2, ⟨v, vs, p1, p2, rfl, rfl, ?_, b1⟩, a2.nodup b3 hn a1 b2, a2.append b3⟩
      rcases a3 with ⟨rfl, h⟩ | ⟨⟨q, hq, hk⟩, h⟩
      · exact h
      · have hB : isB [1000 + i] = true := by simp only [isB]; exact Nat.ble_eq_true_of_le (by omega)
        have hpin : σ [1000 + i] = v := by
          rw [hr.pin _ q hq ?_, hv0]
          rcases hk with ⟨ls, rfl⟩ | ⟨d, c, xs, rfl⟩ | ⟨kk, vk, es, rfl⟩
          · simp only [Ob.pnd, hpb, hB]
          · rfl
          · simp only [Ob.pnd, hpb, hB]
        rw [hpin] at h
        exact h
def kE : Nat → List LO → List (Option (Lab × Bool))
  | _, [] => []
  | i, o' :: os' => some ([1000 + i], !o'.isGone) :: kE (i + 1) os'
theorem obsG_kE : ∀ (i : Nat) (os os' : List LO), os.length = os'.length → obsG (kE i os') os = obsE i os os'
  | i, [], [], _ => by simp [kE, obsG, obsE]
  | i, [], _ :: _, h => by simp at h
  | i, _ :: _, [], h => by simp at h
  | i, o :: os, o' :: os', h => by
    simp only [kE, obsG, obsE]
    rw [obsG_kE (i + 1) os os' (by simpa using h)]
theorem lkG_kE : ∀ (i : Nat) (os' : List LO), (∀ l ∈ lkG (kE i os'), ∃ j, l = [1000 + (i + j)]) ∧ (lkG (kE i os')).Nodup
  | i, [] => ⟨fun l hl => by simp [kE, lkG] at hl, by simp [kE, lkG]⟩
  | i, o :: os => by
    obtain ⟨h1, h2⟩ := lkG_kE (i + 1) os
    simp only [kE, lkG]
    refine ⟨fun l hl => ?_, List.nodup_cons.2 ⟨fun hl => ?_, h2⟩⟩
    · rcases List.mem_cons.1 hl with rfl | hl
      · exact ⟨0, rfl⟩
      · obtain ⟨j, rfl⟩ := h1 l hl
        exact ⟨j + 1, by rw [show i + (j + 1) = i + 1 + j by omega]⟩
    · obtain ⟨j, hj⟩ := h1 _ hl
      simp at hj
      omega
theorem KsB_kE : ∀ (i : Nat) (os os' : List LO), os.length = os'.length → KsB (kE i os') os
  | i, [], [], _ => trivial
  | i, [], _ :: _, h => by simp at h
  | i, _ :: _, [], h => by simp at h
  | i, o :: os, o' :: os', h => ⟨fun _ => ⟨_, rfl⟩, KsB_kE (i + 1) os os' (by simpa using h)⟩
theorem KsV_kE {σ : Lab → Value} : ∀ (i : Nat) (os' : List LO) (vs : List Value), vs.length = os'.length → (∀ j v, vs[j]? = some v → σ [1000 + (i + j)] = v) → KsV σ (kE i os') vs
  | i, [], [], _, _ => trivial
  | i, [], _ :: _, h, _ => by simp at h
  | i, _ :: _, [], h, _ => by simp at h
  | i, o' :: os', v :: vs, h, hv => ⟨hv 0 v rfl, KsV_kE (i + 1) os' vs (by simpa using h) fun j u hu => by
      have := hv (j + 1) u (by simpa using hu)
      rwa [show i + (j + 1) = i + 1 + j by omega] at this⟩
theorem LosR.length : ∀ {os : List LO} {vs : List Value} {bs : List Nat}, LosR F w os vs bs → vs.length = os.length
  | [], _, _, ⟨h, _⟩ => by subst h; rfl
  | _ :: os, _, _, ⟨u, us', p, q, rfl, _, _, h⟩ => by simp [h.length]
theorem likes_len : ∀ {os os' : List LO}, likes os os' = true → os.length = os'.length
  | [], [], _ => rfl
  | [], _ :: _, h => by simp [likes] at h
  | _ :: _, [], h => by simp [likes] at h
  | _ :: _, _ :: _, h => by
    simp only [likes, Bool.and_eq_true] at h
    simp [likes_len h.2]
theorem ArgQs_noLo {vs : List Value} : ∀ {ss : List SA} {us : List Value}, ArgQs F w vs ss us → ∀ s ∈ ss, ∀ o, s ≠ .lo o
  | [], _, _, s, hs, _ => by cases hs
  | s :: ss, us, h, s', hs, o => by
    simp only [ArgQs] at h
    obtain ⟨u, r, rfl, h1, h2⟩ := h
    rcases List.mem_cons.1 hs with rfl | hs
    · intro e; subst e; simp [ArgQ] at h1
    · exact ArgQs_noLo h2 s' hs o
theorem ArgQs.length {vs : List Value} : ∀ {ss : List SA} {us : List Value}, ArgQs F w vs ss us → us.length = ss.length
  | [], us, h => by simp only [ArgQs] at h; subst h; rfl
  | s :: ss, us, h => by
    simp only [ArgQs] at h
    obtain ⟨u, r, rfl, h1, h2⟩ := h
    simp [h2.length]
theorem ArgQs.get {vs : List Value} : ∀ {ss : List SA} {us : List Value} {i t : Nat} {x : AV}, ArgQs F w vs ss us → lk (entryQ i ss) t = some x → ∃ j s u, t = i + j ∧ us[j]? = some u ∧ ArgQ F w vs s u ∧ x = s.av
  | [], us, i, t, x, h, hx => by simp [entryQ, lk] at hx
  | s :: ss, us, i, t, x, h, hx => by
    simp only [ArgQs] at h
    obtain ⟨u, r, rfl, h1, h2⟩ := h
    simp only [entryQ, lk] at hx
    split at hx
    · rename_i e
      cases hx
      exact ⟨0, s, u, e.symm, rfl, h1, rfl⟩
    · obtain ⟨j, s', u', e, k1, k2, k3⟩ := h2.get hx
      exact ⟨j + 1, s', u', by omega, by simpa using k1, k2, k3⟩
theorem ArgsR_lo : ∀ {as : List SA} {os : List LO} {us : List Value}, os ≠ [] → ¬ ArgsR F w (as ++ os.map SA.lo) us
  | [], o :: os, us, _, ⟨u, r, _, h, _⟩ => h
  | [], [], _, h, _ => h rfl
  | s :: as, os, us, h, ⟨u, r, _, _, k⟩ => ArgsR_lo h k
theorem rxQ_rep (hr : Rep N G σ ow w a Γ) {fn : Func} {vs : List RV} {r : RA} {L : List Lab} (hm : rvsM P N vs fn.results.toList = true) (h : rxQ Γ vs = some (r, L)) (hn : L.Nodup) :
    ∃ u p, (results fn a.tmps).run P w = .ok u w ∧ PcR (fz G ow w) w r u p ∧ p.Nodup ∧ OB ow L p := by
  have hlen : vs.length = fn.results.toList.length := by
    have : ∀ {vs : List RV} {xs : List ResultVar}, rvsM P N vs xs = true → vs.length = xs.length := by
      intro vs
      induction vs with
      | nil => intro xs h; cases xs with | nil => rfl | cons x xs => simp [rvsM] at h
      | cons v vs ih => intro xs h; cases xs with
        | nil => simp [rvsM] at h
        | cons x xs => simp only [rvsM, Bool.and_eq_true] at h; simp [ih h.2]
    exact this hm
  unfold rxQ at h
  split at h
  · simp only [Option.some.injEq, Prod.mk.injEq] at h
    obtain ⟨rfl, rfl⟩ := h
    have h0 : fn.results = #[] := by
      have : fn.results.toList = [] := List.eq_nil_of_length_eq_zero (by simpa using hlen.symm)
      simpa using this
    exact ⟨_, [], results_none h0 _ _ _, by simp only [PcR]; exact ⟨[], rfl, by simp [PcsR]⟩, List.nodup_nil, fun b hb => by cases hb⟩
  · rename_i v
    simp only [Option.bind_eq_some_iff] at h
    obtain ⟨y, hv, hx⟩ := h
    obtain ⟨x, h0⟩ := List.length_eq_one_iff.1 (hlen.symm.trans rfl)
    rw [h0] at hm
    simp only [rvsM, Bool.and_true] at hm
    obtain ⟨u, hu, hrep⟩ := res_val (w := w) hr hm hv
    obtain ⟨p, k1, k2, k3, _⟩ := rxq_rep hr hx hrep hn
    refine ⟨u, p, ?_, k1, k2, k3⟩
    have h1 : fn.results = #[x] := by
      apply Array.toList_inj.1
      simpa using h0
    cases x with
    | tmp t =>
      have : u = a.tmps.getD t undef := by simpa using hu.symm
      subst this
      exact results_tmp h1 _ _ _
    | cell b t =>
      dsimp only at hu
      simp [results, h1]
      simp at hu
      rw [hu]
  · rename_i h1 h2
    simp only [Option.map_eq_some_iff, Prod.mk.injEq] at h
    obtain ⟨⟨rs, L'⟩, hl, rfl, rfl⟩ := h
    obtain ⟨us, p, k1, k2, k3, k4⟩ := rxl_rep hr hm hl hn
    refine ⟨_, p, run_results k1 (fun h0 => ?_), by simp only [PcR]; exact ⟨us, rfl, k2⟩, k3, k4⟩
    obtain ⟨v, hv⟩ := List.length_eq_one_iff.1 (hlen.trans h0)
    exact h2 v hv
theorem LvR.mono {F' : Nat → Prop} (h : ∀ b, F b → F' b) : ∀ {v : LV} {u : Value} {p : List Nat}, LvR F w v u p → LvR F' w v u p
  | .v c x, _, _, ⟨h1, h2, h3⟩ => ⟨h1, h2.keep fun b hb => ⟨h b hb, rfl⟩, h3⟩
  | .o c xs, _, _, hr => RowO.mono hr h
  | .s c xs, _, _, hr => RowO.mono hr h
theorem LvsR.mono {F' : Nat → Prop} (h : ∀ b, F b → F' b) : ∀ {vs : List LV} {us : List Value} {p : List Nat}, LvsR F w vs us p → LvsR F' w vs us p
  | [], _, _, hr => hr
  | _ :: vs, _, _, ⟨u, us', p, q, e1, e2, h1, h2⟩ => ⟨u, us', p, q, e1, e2, h1.mono h, LvsR.mono h h2⟩
theorem LosR.mono {F' : Nat → Prop} (h : ∀ b, F b → F' b) : ∀ {os : List LO} {vs : List Value} {p : List Nat}, LosR F w os vs p → LosR F' w os vs p
  | [], _, _, hr => hr
  | o :: os, _, _, ⟨u, us', p, q, e1, e2, h1, h2⟩ => by
    refine ⟨u, us', p, q, e1, e2, ?_, LosR.mono h h2⟩
    cases o with
    | gone => exact h1
    | row dp c xs => exact RowO.mono h1 h
    | box ls =>
      obtain ⟨b, e, cs, rest, r1, r2, r3, r4⟩ := h1
      exact ⟨b, e, cs, rest, r1, r2, r3, r4.mono h⟩
    | mp kk vk es =>
      obtain ⟨g, ms, clk, r1, r2, r3, r4⟩ := h1
      exact ⟨g, ms, clk, r1, r2, r3, r4.keep fun b hb => ⟨h b hb, rfl⟩⟩
theorem PcR1.mono {F' : Nat → Prop} (h : ∀ b, F b → F' b) {r : RA} {u : Value} {p : List Nat} (hT : r.isT = false) (hr : PcR F w r u p) : PcR F' w r u p := by
  cases r with
  | v c x => exact ⟨hr.1.keep fun b hb => ⟨h b hb, rfl⟩, hr.2⟩
  | o c x => exact hr
  | s c xs => exact RowO.mono hr h
  | cl c xs => exact ⟨hr.1.keep fun b hb => ⟨h b hb, rfl⟩, hr.2⟩
  | t rs => simp [RA.isT] at hT
  | w c y n => exact hr.elim
  | q r os => exact hr.elim
theorem PcsR.mono {F' : Nat → Prop} (h : ∀ b, F b → F' b) : ∀ {rs : List RA} {us : List Value} {p : List Nat}, PcsR F w rs us p → PcsR F' w rs us p
  | [], _, _, hr => by simp only [PcsR] at hr ⊢; exact hr
  | r :: rs, _, _, hr => by
    simp only [PcsR] at hr ⊢
    obtain ⟨u, us', p, q, e1, e2, h1, hT, h2⟩ := hr
    exact ⟨u, us', p, q, e1, e2, PcR1.mono h hT h1, hT, PcsR.mono h h2⟩
theorem PcR.mono {F' : Nat → Prop} (h : ∀ b, F b → F' b) {r : RA} {u : Value} {p : List Nat} (hr : PcR F w r u p) : PcR F' w r u p := by
  cases r with
  | t rs =>
    simp only [PcR] at hr ⊢
    obtain ⟨us, e, hr⟩ := hr
    exact ⟨us, e, hr.mono h⟩
  | _ => exact PcR1.mono h rfl hr
theorem LvR.lt : ∀ {v : LV} {u : Value} {p : List Nat}, LvR F w v u p → ∀ b ∈ p, b < w.heap.size
  | .v c x, _, _, ⟨_, _, h3⟩, b, hb => by subst h3; cases hb
  | .o c xs, _, _, hr, b, hb => RowO.lt hr b hb
  | .s c xs, _, _, hr, b, hb => RowO.lt hr b hb
theorem LvsR.lt : ∀ {vs : List LV} {us : List Value} {p : List Nat}, LvsR F w vs us p → ∀ b ∈ p, b < w.heap.size
  | [], _, _, ⟨_, e⟩, b, hb => by subst e; cases hb
  | _ :: vs, _, _, ⟨u, us', p, q, e1, e2, h1, h2⟩, b, hb => by
    subst e2
    rcases List.mem_append.1 hb with h | h
    · exact h1.lt b h
    · exact h2.lt b h
theorem LosR.lt : ∀ {os : List LO} {vs : List Value} {p : List Nat}, LosR F w os vs p → ∀ b ∈ p, b < w.heap.size
  | [], _, _, ⟨_, e⟩, b, hb => by subst e; cases hb
  | o :: os, _, _, ⟨u, us', p, q, e1, e2, h1, h2⟩, b, hb => by
    subst e2
    rcases List.mem_append.1 hb with hb | hb
    · cases o with
      | gone => have e : p = [] := h1; subst e; cases hb
      | row dp c xs => exact RowO.lt h1 b hb
      | box ls =>
        obtain ⟨b0, e, cs, rest, r1, r2, rfl, r4⟩ := h1
        rcases List.mem_cons.1 hb with rfl | hb
        · exact (Array.getElem?_eq_some_iff.1 r2).1
        · exact r4.lt b hb
      | mp kk vk es =>
        obtain ⟨g, ms, clk, r1, r2, rfl, r4⟩ := h1
        rw [List.mem_singleton] at hb
        subst hb
        exact (Array.getElem?_eq_some_iff.1 r2).1
    · exact h2.lt b hb
theorem PcR1.lt {r : RA} {u : Value} {p : List Nat} (hT : r.isT = false) (hr : PcR F w r u p) : ∀ b ∈ p, b < w.heap.size := by
  intro b hb
  cases r with
  | v c x => obtain ⟨_, _, e⟩ := hr; subst e; cases hb
  | o c x => exact hr.1.lt b hb
  | s c xs => exact RowO.lt hr b hb
  | cl c xs => obtain ⟨_, _, e⟩ := hr; subst e; cases hb
  | t rs => simp [RA.isT] at hT
  | w c y n => exact hr.elim
  | q r os => exact hr.elim
theorem PcsR.lt : ∀ {rs : List RA} {us : List Value} {p : List Nat}, PcsR F w rs us p → ∀ b ∈ p, b < w.heap.size
  | [], _, _, hr, b, hb => by simp only [PcsR] at hr; rw [hr.2] at hb; cases hb
  | r :: rs, _, _, hr, b, hb => by
    simp only [PcsR] at hr
    obtain ⟨u, us', p, q, e1, rfl, h1, hT, h2⟩ := hr
    rcases List.mem_append.1 hb with h | h
    · exact PcR1.lt hT h1 b h
    · exact h2.lt b h
theorem PcR.lt {r : RA} {u : Value} {p : List Nat} (hr : PcR F w r u p) : ∀ b ∈ p, b < w.heap.size := by
  cases r with
  | t rs =>
    simp only [PcR] at hr
    obtain ⟨us, e, hr⟩ := hr
    exact hr.lt
  | _ => exact PcR1.lt rfl hr
theorem Sp.introQ {S : FuncId → List SA → RA → Prop} (hS : ∀ f as r, S f as r → Sp P f as r) {f : FuncId} {fn : Func} {c : C} {vs : List RV} {as : List SA} {os os' : List LO} {r : RA} (hfn : P.funcs[f]? = some fn) (hm : fnM P fn N c vs = true)
    (hn : Nat.ble as.length N = true) (hN2 : Nat.ble N 1000 = true) (hlk : likes os os' = true) (hne : os.isEmpty = false) (hlo : as.all SA.noLo = true) (h : vc S (Lq P N) c ⟨entryQ 0 as, obsE 0 os os'⟩ (FinQ vs r os')) : Sp P f (as ++ os.map SA.lo) (.q r os') := by
  have hne' : os ≠ [] := by cases os <;> simp_all
  refine ⟨callOk_of hfn hm, fun F w us _ hA => absurd hA (ArgsR_lo hne'), fun _ _ _ _ h => (by cases h), fun as0 os0 r0 os0' e he0 hr0 => ?_⟩
  cases hr0
  intro F w us ws bs hF hA hL hbn
  have hsame : as0 = as ∧ os0 = os := by
    have hno := ArgQs_noLo hA
    have inj : ∀ {a b : List LO}, a.map SA.lo = b.map SA.lo → a = b := by
      intro a
      induction a with
      | nil => intro b h; cases b with | nil => rfl | cons x b => simp at h
      | cons x a ih => intro b h; cases b with
        | nil => simp at h
        | cons y b => simp only [List.map_cons, List.cons.injEq, SA.lo.injEq] at h; rw [h.1, ih h.2]
    rcases List.append_eq_append_iff.1 e with ⟨a', h1, h2⟩ | ⟨c', h1, h2⟩
    · cases a' with
      | nil =>
        simp only [List.append_nil, List.nil_append] at h1 h2
        exact ⟨h1, (inj h2).symm⟩
      | cons x a' =>
        exfalso
        have hx : x ∈ os.map SA.lo := by rw [h2]; simp
        obtain ⟨o, _, rfl⟩ := List.mem_map.1 hx
        exact hno (.lo o) (by rw [h1]; simp) o rfl
    · cases c' with
      | nil =>
        simp only [List.append_nil, List.nil_append] at h1 h2
        exact ⟨h1.symm, inj h2⟩
      | cons x c' =>
        exfalso
        have hx : x ∈ os0.map SA.lo := by rw [h2]; simp
        obtain ⟨o, _, rfl⟩ := List.mem_map.1 hx
        have := List.all_eq_true.1 hlo (.lo o) (by rw [h1]; simp)
        simp [SA.noLo] at this
  obtain ⟨rfl, rfl⟩ := hsame
  simp only [fnM, Bool.and_eq_true, beq_iff_eq] at hm
  obtain ⟨⟨⟨hname, hN⟩, hb⟩, hv⟩ := hm
  have hlen := likes_len hlk
  have hvl := hL.length
  have hN' : N ≤ 1000 := Nat.le_of_ble_eq_true hN2
  obtain ⟨hk1, hk2⟩ := lkG_kE 0 os'
  obtain ⟨σ1, ow1, k1, k2, k3⟩ := obsG_root (ks := kE 0 os') hL hbn (fun b hb => ⟨(hF b hb).2, (hF b hb).1⟩) hk2 (KsB_kE 0 os0 os' hlen)
  rw [obsG_kE 0 os0 os' hlen] at k3
  let σ : Lab → Value := fun l => match l with
    | [n] => ws.getD (n - 1000) undef
    | _ => σ1 l
  have hσ : ∀ j v, ws[j]? = some v → σ [1000 + (0 + j)] = v := fun j v hv => by
    simp only [σ, Nat.zero_add]
    rw [show 1000 + j - 1000 = j by omega]
    simp [List.getD_eq_getElem?_getD, hv]
  let G : Gd := ⟨fun b => F b ∨ b ∈ bs ∨ w.heap.size ≤ b, σ, isB⟩
  have hfz : ∀ b, F b → fz G ow1 w b := fun b hb => ⟨k1 b (hF b hb).2, (hF b hb).1, .inl hb⟩
  have hobs : ∀ l q, lo (obsE 0 os0 os') l = some q → ObR G σ ow1 w l q := k3 G σ ow1 (KsV_kE 0 os' ws (hvl.trans hlen) hσ) (fun l hl => by
    cases l with
    | nil => simp [subL] at hl
    | cons n l => cases l with
      | nil => simp [subL] at hl
      | cons j l => rfl) (fun _ _ h => h) hfz
  cases hbody : fn.body with
  | none => rw [hbody] at hb; cases hb
  | some x =>
    rw [hbody] at hb
    have hfin : ∀ (Γ' : Env) (σ' : Lab → Value) (ow' : Own) (a' : Act) (w' : World), (need (rxQ Γ' vs) fun q => q.1 = r ∧ need (loxs Γ'.ob 0 os') fun p => p.1 = os' ∧ nodB (q.2 ++ p.2) = true) → Rep N G σ' ow' w' a' Γ' → Ext ow1 w ow' w' →
        ∃ u, (results fn a'.tmps).run P w' = .ok u w' ∧ ∃ p q, PcR (FQ F w w' bs (p ++ q)) w' r u p ∧ LosR (FQ F w w' bs (p ++ q)) w' os' ws q ∧ (p ++ q).Nodup ∧ (∀ b ∈ p ++ q, (b ∈ bs ∨ w.heap.size ≤ b) ∧ b < w'.heap.size) ∧
          w'.os = w.os ∧ w'.tape = w.tape ∧ w'.output = w.output ∧ w.heap.size ≤ w'.heap.size ∧ ∀ b, b < w.heap.size → b ∉ bs → w'.heap[b]? = w.heap[b]? := by
      intro Γ' σ' ow' a' w' hk hr he
      obtain ⟨⟨r1, L1⟩, h1, e1, hk⟩ := need_iff hk
      obtain ⟨⟨o1, L2⟩, h2, e2, hnd⟩ := need_iff hk
      simp only at e1 e2 hnd
      subst e1 e2
      have hnd' := List.nodup_append.1 (nodB_nodup hnd)
      obtain ⟨u, p, hu, a1, a2, a3⟩ := rxQ_rep hr hv h1 hnd'.1
      obtain ⟨q, b1, b2, b3⟩ := loxs_spec (vs := ws) hr rfl h2 hnd'.2.1 (hvl.trans hlen) hσ
      have hOB := a3.append b3
      have hpq : (p ++ q).Nodup := a3.nodup b3 (nodB_nodup hnd) a2 b2
      have hown : ∀ b ∈ p ++ q, ∃ l, ow' b = some l := fun b hb => by
        obtain ⟨l, _, ho⟩ := hOB b hb
        exact ⟨l, ho⟩
      have hmono : ∀ b, fz G ow' w' b → FQ F w w' bs (p ++ q) b := fun b hb => ⟨fun hh => (by
        obtain ⟨l, ho⟩ := hown b hh
        rw [hb.1] at ho; cases ho), hb.2.1, (by
        rcases hb.2.2 with h | h | h
        · exact .inl h
        · exact .inr (.inr h)
        · exact .inr (.inl h))⟩
      refine ⟨u, hu, p, q, a1.mono hmono, b1.mono hmono, hpq, fun b hb => ?_, he.os, he.tape, he.output, he.size, fun b hb hbb => (he.block b hb (k1 b hbb)).2⟩
      refine ⟨?_, ?_⟩
      · rcases Nat.lt_or_ge b w.heap.size with hlt | hge
        · left
          refine Classical.byContradiction fun hbb => ?_
          obtain ⟨l, ho⟩ := hown b hb
          rw [(he.block b hlt (k1 b hbb)).1] at ho; cases ho
        · exact .inr hge
      · rcases List.mem_append.1 hb with h | h
        · exact a1.lt b h
        · exact b1.lt b h
    refine calls_of_wp hfn hbody (wp_mono (snd_c hS (σ := σ) (ow := ow1) (G := G) hb ?_ h) fun e a' w' hq => ?_)
    · have hul := hA.length
      have hn' : as0.length ≤ N := Nat.le_of_ble_eq_true hn
      refine ⟨?_, rfl, fun t y hy => ?_, hobs, fun b l hb => ?_, fun b hb => .inr (.inr hb), fun l q hq hp => rfl, fun d hd => ?_⟩
      · simp only [Array.size_append, List.size_toArray, Array.size_replicate, hN]
        omega
      · obtain ⟨j, s, u, e, hu, hq, rfl⟩ := hA.get hy
        have : t = j := by omega
        subst this
        have hlt : t < us.length := (List.getElem?_eq_some_iff.1 hu).1
        have e1 : (us.toArray ++ Array.replicate (fn.ntmps - us.toArray.size) undef).getD t undef = u := by
          rw [Array.getD_eq_getD_getElem?, Array.getElem?_append_left (by simpa using hlt)]
          simp [hu]
        rw [e1]
        have hrep := av_rep (F := F) (σ := σ) (fun i v hv => by have := hσ i v hv; rwa [Nat.zero_add] at this) hq
        exact RepV.keep (p := fun _ => false) (fun _ _ => rfl) (fun b hb => ⟨hfz b hb, rfl⟩) (refs_false _) hrep
      · show F b ∨ b ∈ bs ∨ w.heap.size ≤ b
        exact .inr (.inl (Classical.byContradiction fun hbb => by rw [k1 b hbb] at hb; cases hb))
      · show isB [d] = false
        simp only [isB]
        cases hq : Nat.ble 1000 d with
        | false => rfl
        | true => have := Nat.le_of_ble_eq_true hq; omega
    · cases e with
      | normal =>
        obtain ⟨Γ', σ', ow', hk, hr, he⟩ := hq
        obtain ⟨u, hu, p, q, g⟩ := hfin Γ' σ' ow' a' w' hk hr he
        exact ⟨hr.defers, u, hu, u, p, q, rfl, g⟩
      | ret =>
        obtain ⟨Γ', σ', ow', hk, hr, he⟩ := hq
        obtain ⟨u, hu, p, q, g⟩ := hfin Γ' σ' ow' a' w' hk hr he
        exact ⟨hr.defers, u, hu, u, p, q, rfl, g⟩
      | exit id => obtain ⟨Γ', σ', ow', hk, _⟩ := hq; exact hk.elim
      | _ => exact hq.elim
end
end Go.Q
