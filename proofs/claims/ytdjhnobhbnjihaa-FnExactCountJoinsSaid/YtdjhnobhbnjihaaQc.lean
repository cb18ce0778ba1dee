/- Regions, code, loops and functions: for every program of the model. -/
import Derived.Test.YtdjhnobhbnjihaaQb
import Derived.Orders
import Derived.Control
set_option linter.unusedVariables false
set_option linter.unusedSimpArgs false
set_option linter.unusedVariables false
namespace Go.Q
/-- An instruction, against the operations of its region. -/
def I.gm (P : Program) (N : Nat) (ops : List Oper) : I → Oper → Bool
  | .g t b i, o => (match o.guard with
    | some (j, want) => want == b && ((ops[j]?).bind (·.dst)) == some t && i.dst == o.dst && (match i.dst with | some d => decide (d < N) | none => true) && i.m P N o
    | none => false)
  | i, o => o.guard.isNone && i.m P N o
def gms (P : Program) (N : Nat) (ops : List Oper) : List I → List Oper → Bool
  | [], [] => true
  | i :: is, o :: os => i.gm P N ops o && gms P N ops is os
  | _, _ => false
section
variable {S : FuncId → List SA → RA → Prop} {P : Program} {N : Nat} {G : Nat → Prop} {σ : Lab → Value} {ow : Own} {w : World} {a : Act} {Γ : Env} {K : Env → Prop} {Q : Exit → Act → World → Prop} {o : Oper}
theorem snd_i (hS : ∀ f as r, S f as r → Sp P f as r) (hr : Rep N G σ ow w a Γ) {i : I} (hm : i.m P N o = true) (hv : vi S i Γ K) : o.wp P a w (Post N G ow w K) Q := by
  cases i with
  | mv d x => exact snd_mv hr hm hv
  | nck d x => exact snd_nck hr hm hv
  | un d u x => exact snd_un hr hm hv
  | bi d b x y => exact snd_bi hr hm hv
  | be d b x y => exact snd_be hr hm hv
  | pk d c x y => exact snd_pk hr hm hv
  | fa d x n j off => exact snd_fa hr hm hv
  | ia d x y c => exact snd_ia hr hm hv
  | ld d x c => exact snd_ld hr hm hv
  | st x y c => exact snd_st hr hm hv
  | bx d x c => exact snd_bx hr hm hv
  | al d c => exact snd_al hr hm hv
  | ln d b x => exact snd_ln hr hm hv
  | mk d p c n => exact snd_mk hr hm hv
  | cv d f xs => exact snd_cv hS hr hm hv
  | ca d f xs => exact snd_ca hS hr hm hv
  | g t b i => simp [I.m] at hm
theorem Post.trans {ow' : Own} {w' : World} {K' : Env → Prop} {a' : Act} (he : Ext ow w ow' w') {b : Act} {v : World} (h : Post N G ow' w' K b v) : Post N G ow w K b v := by
  obtain ⟨Γ', σ', o', hk, hr, h2⟩ := h
  exact ⟨Γ', σ', o', hk, hr, he.trans h2⟩
theorem Rep.skip (hr : Rep N G σ ow w a Γ) {d : Option Nat} (hd : ∀ x, d = some x → x < N) : Rep N G σ ow w (a.put d undef) (Γ.skip d) := by
  cases d with
  | none => exact hr
  | some d => exact hr.put (hd d rfl) (by simp [RepV, RepU, AV.isS, RepC])
theorem yielded_of {ops : List Oper} {j t : Nat} (hj : ((ops[j]?).bind (·.dst)) = some t) (hr : Rep N G σ ow w a Γ) {x : Bool} (hx : lk Γ.tm t = some (.v .bool x)) (ht : t < N) : yielded ops.toArray a.tmps j = some x := by
  have h := hr.tm t _ hx
  have : a.tmps.getD t undef = .bool x := by
    simpa [RepV, RepU, AV.isS, RepC, Kx_bool] using h
  have hsz : t < a.tmps.size := hr.size ▸ ht
  simp only [yielded, List.getElem?_toArray, hj, Option.bind_some]
  simp only [Array.getD_eq_getD_getElem?, Array.getElem?_eq_getElem hsz, Option.getD_some] at this
  simp only [Array.getElem?_eq_getElem hsz, this]
/-- A value that the environment has is in the frame. -/
theorem lk_lt (hr : Rep N G σ ow w a Γ) {t : Nat} {x : Bool} (hx : lk Γ.tm t = some (.v .bool x)) : t < N := by
  have h := hr.tm t _ hx
  rcases Nat.lt_or_ge t N with h' | h'
  · exact h'
  · have e : a.tmps.getD t undef = undef := by
      simp [Array.getD_eq_getD_getElem?, Array.getElem?_eq_none (hr.size ▸ h')]
    rw [e] at h
    simp [RepV, RepU, AV.isS, RepC, Kx_bool, undef] at h
theorem Rep.same (hr : Rep N G σ ow w a Γ) {t : Nat} {x : AV} (hx : lk Γ.tm t = some x) : Rep N G σ ow w a ⟨(t, x) :: Γ.tm, Γ.ob⟩ :=
  ⟨hr.size, hr.defers, fun t' x' h => by
    simp only [lk] at h
    split at h
    · rename_i e
      subst e
      simp only [Option.some.injEq] at h
      subst h
      exact hr.tm _ _ hx
    · exact hr.tm _ _ h, hr.ob, hr.own, hr.top⟩
theorem snd_g (hS : ∀ f as r, S f as r → Sp P f as r) (hr : Rep N G σ ow w a Γ) {i : I} {ops : List Oper} (hm : i.gm P N ops o = true) (hv : vi S i Γ K) :
    if Region.wanted o (yielded ops.toArray a.tmps) then o.wp P a w (Post N G ow w K) Q else Post N G ow w K (a.put o.dst undef) w := by
  by_cases hg : ∃ t b i', i = .g t b i'
  · obtain ⟨t, b, i', rfl⟩ := hg
    simp only [I.gm] at hm
    split at hm
    · rename_i j want hgu
      simp only [Bool.and_eq_true, beq_iff_eq] at hm
      obtain ⟨⟨⟨⟨rfl, hj⟩, hd⟩, hlt⟩, hm⟩ := hm
      obtain ⟨av, hl, hv⟩ := need_iff hv
      split at hv
      · rename_i x
        have hy := yielded_of hj hr hl (lk_lt hr hl)
        have hs := hr.same hl
        simp only [Region.wanted, hgu, hy]
        by_cases hx : x = want
        · subst hx
          simp only [beq_self_eq_true, if_true]
          exact snd_i hS hs hm (hv.1 rfl)
        · have hx' : x = !want := by cases x <;> cases want <;> simp_all
          subst hx'
          have : (some (!want) == some want) = false := by cases want <;> rfl
          rw [this]
          simp only [Bool.false_eq_true, if_false]
          rw [← hd]
          refine ⟨_, σ, ow, hv.2 rfl, hs.skip fun x hx => ?_, Ext.refl ow w⟩
          simpa [hx] using hlt
      · exact hv.elim
    · cases hm
  · have hm' : (o.guard.isNone && i.m P N o) = true := by
      cases i <;> first | exact hm | (exfalso; exact hg ⟨_, _, _, rfl⟩)
    simp only [Bool.and_eq_true] at hm'
    have hgn : o.guard = none := by simpa using hm'.1
    simp only [Region.wanted, hgn, if_true]
    exact snd_i hS hr hm'.2 hv
theorem snd_is (hS : ∀ f as r, S f as r → Sp P f as r) {ops : List Oper} : ∀ {is : List I} {l : List Oper} {ow : Own} {w : World} {σ : Lab → Value} {a : Act} {Γ : Env}, gms P N ops is l = true → Rep N G σ ow w a Γ → vs S is Γ K →
    (∀ a' w', Post N G ow w K a' w' → Q .normal a' w') → wpList P ops.toArray Q l a w
  | [], [], ow, w, σ, a, Γ, _, hr, hv, hQ => hQ _ _ ⟨Γ, σ, ow, hv, hr, Ext.refl ow w⟩
  | [], _ :: _, _, _, _, _, _, hm, _, _, _ => by simp [gms] at hm
  | _ :: _, [], _, _, _, _, _, hm, _, _, _ => by simp [gms] at hm
  | i :: is, o :: os, ow, w, σ, a, Γ, hm, hr, hv, hQ => by
    simp only [gms, Bool.and_eq_true] at hm
    have h1 := snd_g (Q := Q) hS hr hm.1 hv
    have next : ∀ a' w', Post N G ow w (fun Γ' => vs S is Γ' K) a' w' → wpList P ops.toArray Q os a' w' := fun a' w' h => by
      obtain ⟨Γ', σ', ow', hk, hr', he⟩ := h
      exact snd_is hS hm.2 hr' hk fun a2 w2 h2 => hQ _ _ (Post.trans (a' := a2) (K' := K) he h2)
    refine wpList_step fun K' hK' => ?_
    split
    · rename_i hw
      rw [if_pos hw] at h1
      exact Oper.wp_mono (fun a' w' h => hK' _ _ (next a' w' h)) h1
    · rename_i hw
      rw [if_neg hw] at h1
      exact hK' _ _ (next _ _ h1)
end
end Go.Q

set_option linter.unusedVariables false
namespace Go.Q
def O.tm : O → List Nat
  | .t n => [n]
  | _ => []
/-- The temporaries that an instruction looks at. -/
def I.looks : I → List Nat
  | .mv _ o | .nck _ o | .un _ _ o | .fa _ o _ _ _ | .ld _ o _ | .bx _ o _ | .ln _ _ o | .mk _ _ _ o => o.tm
  | .bi _ _ x y | .be _ _ x y | .ia _ x y _ | .st x y _ => x.tm ++ y.tm
  | .pk _ c x y => c.tm ++ (x.tm ++ y.tm)
  | .al _ _ => []
  | .ca _ _ xs | .cv _ _ xs => xs.flatMap fun x => x.1.tm
  | .g t _ i => t :: i.looks
/-- It makes no object. -/
def I.rd : I → Bool
  | .mv _ _ | .nck _ _ | .un _ _ _ | .fa _ _ _ _ _ | .ld _ _ _ | .ln _ _ _ | .bi _ _ _ _ | .be _ _ _ _ | .ia _ _ _ _ | .pk _ _ _ _ | .cv _ _ _ => true
  | .g _ _ i => i.rd
  | _ => false
def Same (Γ' Γ : Env) : Prop := (∀ t, lk Γ'.tm t = lk Γ.tm t) ∧ Γ'.ob = Γ.ob
theorem Same.refl (Γ : Env) : Same Γ Γ := ⟨fun _ => rfl, rfl⟩
theorem Same.trans {a b c : Env} (h : Same a b) (k : Same b c) : Same a c := ⟨fun t => (h.1 t).trans (k.1 t), h.2.trans k.2⟩
theorem Same.symm {a b : Env} (h : Same a b) : Same b a := ⟨fun t => (h.1 t).symm, h.2.symm⟩
theorem lk_put (Γ : Env) (d : Nat) (a : AV) (t : Nat) : lk (Γ.put d a).tm t = if d = t then some a else lk Γ.tm t := rfl
theorem Same_put {Γ : Env} {d : Nat} {a b : AV} : Same (Γ.put d a) (Γ.puto b (some d)) ↔ a = b := by
  constructor
  · intro h
    have := h.1 d
    simpa [Env.puto, lk_put] using this
  · rintro rfl; exact Same.refl _
theorem Same.puto {Γ Γ' : Env} (h : Same Γ' Γ) (a : AV) : ∀ d, Same (Γ'.puto a d) (Γ.puto a d)
  | none => h
  | some d => ⟨fun t => by simp only [Env.puto, lk_put, h.1 t], h.2⟩
theorem Same_again {Γ : Env} {t : Nat} {x : AV} (h : lk Γ.tm t = some x) : Same ⟨(t, x) :: Γ.tm, Γ.ob⟩ Γ := ⟨fun t' => by
  simp only [lk]; split
  · rename_i e; subst e; exact h.symm
  · rfl, rfl⟩
theorem skip_puto (Γ : Env) (d : Option Nat) : Γ.skip d = Γ.puto .no d := by cases d <;> rfl
section
variable {S : FuncId → List SA → RA → Prop}
theorem vb_det {b : BinOp} {x y : AV} {f : AV → Prop} (h : vb b x y f) : ∃ r, vb b x y fun r' => r' = r ∧ f r' := by
  unfold vb at h ⊢
  split at h <;> first | exact h.elim | exact ⟨_, h.1, rfl, h.2⟩ | exact ⟨_, rfl, h⟩
theorem vb_imp {b : BinOp} {x y : AV} {f g : AV → Prop} (hfg : ∀ r, f r → g r) (h : vb b x y f) : vb b x y g := by
  unfold vb at h ⊢
  split at h <;> first | exact h.elim | exact ⟨h.1, hfg _ h.2⟩ | exact hfg _ h
theorem need_mk {α : Type} {x : Option α} {y : α} {f : α → Prop} (h : x = some y) (k : f y) : need x f := by subst h; exact k
theorem vi_imp : ∀ {i : I} {Γ : Env} {K K' : Env → Prop}, (∀ Γ, K Γ → K' Γ) → i.rd = true → vi S i Γ K → vi S i Γ K'
  | .mv d o, Γ, K, K', hk, _, h => by obtain ⟨a, e, h⟩ := need_iff h; exact need_mk e (hk _ h)
  | .nck d o, Γ, K, K', hk, _, h => by
    obtain ⟨a, e, h⟩ := need_iff h
    refine need_mk e ?_
    split at h
    · obtain ⟨y, e, h⟩ := h; exact ⟨y, e, hk _ h⟩
    · exact hk _ h
    · exact hk _ h
    · exact h.elim
  | .un d u o, Γ, K, K', hk, _, h => by
    obtain ⟨a, e, h⟩ := need_iff h; obtain ⟨b, e2, h⟩ := need_iff h
    exact need_mk e (need_mk e2 (hk _ h))
  | .bi d b x y, Γ, K, K', hk, _, h => by
    obtain ⟨a, e, h⟩ := need_iff h; obtain ⟨a', e2, h⟩ := need_iff h
    exact need_mk e (need_mk e2 (vb_imp (fun r h => hk _ h) h))
  | .be d ne x y, Γ, K, K', hk, _, h => by
    obtain ⟨a, e, h⟩ := need_iff h
    refine need_mk e ?_
    split at h
    · obtain ⟨a', e2, h⟩ := need_iff h
      refine need_mk e2 ?_
      split at h
      · exact hk _ h
      · exact h.elim
    · exact h.elim
  | .pk d c x y, Γ, K, K', hk, _, h => by
    obtain ⟨a, e, h⟩ := need_iff h
    refine need_mk e ?_
    split at h
    · refine ⟨fun hb => ?_, fun hb => ?_⟩
      · obtain ⟨a, e, h⟩ := need_iff (h.1 hb); exact need_mk e (hk _ h)
      · obtain ⟨a, e, h⟩ := need_iff (h.2 hb); exact need_mk e (hk _ h)
    · exact h.elim
  | .fa d o n j off, Γ, K, K', hk, _, h => by
    obtain ⟨a, e, h⟩ := need_iff h
    refine need_mk e ?_
    split at h
    · obtain ⟨y, e, h⟩ := h
      obtain ⟨z, e2, h⟩ := need_iff h
      refine ⟨y, e, need_mk e2 ?_⟩
      split at h
      · exact ⟨h.1, hk _ h.2⟩
      · exact h.elim
    · exact hk _ h
    · exact hk _ h
    · exact h.elim
  | .ia d o i c, Γ, K, K', hk, _, h => by
    obtain ⟨a, e, h⟩ := need_iff h; obtain ⟨a', e2, h⟩ := need_iff h
    refine need_mk e (need_mk e2 ?_)
    split at h
    · split at h
      · exact ⟨h.1, h.2.1, h.2.2.1, hk _ h.2.2.2⟩
      · obtain ⟨q, e3, h⟩ := need_iff h
        refine need_mk e3 ?_
        split at h
        · exact ⟨h.1, h.2.1, h.2.2.1, hk _ h.2.2.2⟩
        · exact h.elim
      · exact h.elim
    · exact h.elim
  | .ld d o c, Γ, K, K', hk, _, h => by
    obtain ⟨a, e, h⟩ := need_iff h
    refine need_mk e ?_
    split at h
    · obtain ⟨y, h1, h2, h⟩ := h; exact ⟨y, h1, h2, hk _ h⟩
    · obtain ⟨q, e3, h⟩ := need_iff h
      refine need_mk e3 ?_
      split at h
      · split at h
        · exact ⟨h.1, hk _ h.2⟩
        · obtain ⟨a, h1, h2, h⟩ := h; exact ⟨a, h1, h2, hk _ h⟩
      · exact h.elim
    · obtain ⟨q, e3, h⟩ := need_iff h
      refine need_mk e3 ?_
      split at h
      · obtain ⟨h1, h2, h3, h4, h5, h⟩ := h; exact ⟨h1, h2, h3, h4, h5, hk _ h⟩
      · exact h.elim
    · exact h.elim
  | .ln d false o, Γ, K, K', hk, _, h => by
    obtain ⟨a, e, h⟩ := need_iff h
    refine need_mk e ?_
    split at h
    · exact fun hl => hk _ (h hl)
    · obtain ⟨q, e3, h⟩ := need_iff h
      refine need_mk e3 ?_
      split at h
      · exact fun hl => hk _ (h hl)
      · exact h.elim
    · exact hk _ h
    · exact h.elim
  | .ln d true o, Γ, K, K', hk, _, h => by
    obtain ⟨a, e, h⟩ := need_iff h
    refine need_mk e ?_
    split at h
    · exact fun hl => hk _ (h hl)
    · exact h.elim
  | .cv d f xs, Γ, K, K', hk, _, h => by
    obtain ⟨a, e, r, hs, h⟩ := need_iff h
    refine need_mk e ⟨r, hs, ?_⟩
    split at h
    · exact ⟨h.1, hk _ h.2⟩
    · exact h.elim
  | .g t b i, Γ, K, K', hk, hr, h => by
    obtain ⟨a, e, h⟩ := need_iff h
    refine need_mk e ?_
    split at h
    · exact ⟨fun hb => vi_imp hk hr (h.1 hb), fun hb => hk _ (h.2 hb)⟩
    · exact h.elim
/-- What such an instruction computes is settled ahead of its run. -/
theorem vi_det : ∀ {i : I} {Γ : Env} {K : Env → Prop}, i.rd = true → vi S i Γ K → ∃ a, vi S i Γ fun Γ' => Same Γ' (Γ.puto a i.dst) ∧ K Γ'
  | .mv d o, Γ, K, _, h => by obtain ⟨a, e, h⟩ := need_iff h; exact ⟨a, need_mk e ⟨Same_put.2 rfl, h⟩⟩
  | .nck d o, Γ, K, _, h => by
    obtain ⟨a, e, h⟩ := need_iff h
    split at h
    · obtain ⟨y, e', h⟩ := h; exact ⟨_, need_mk e ⟨y, e', Same_put.2 rfl, h⟩⟩
    · exact ⟨_, need_mk e ⟨Same_put.2 rfl, h⟩⟩
    · exact ⟨_, need_mk e ⟨Same_put.2 rfl, h⟩⟩
    · exact h.elim
  | .un d u o, Γ, K, _, h => by
    obtain ⟨a, e, h⟩ := need_iff h; obtain ⟨b, e2, h⟩ := need_iff h
    exact ⟨_, need_mk e (need_mk e2 ⟨Same_put.2 rfl, h⟩)⟩
  | .bi d b x y, Γ, K, _, h => by
    obtain ⟨a, e, h⟩ := need_iff h; obtain ⟨a', e2, h⟩ := need_iff h
    obtain ⟨r, h⟩ := vb_det h
    exact ⟨r, need_mk e (need_mk e2 (vb_imp (fun r' h => ⟨Same_put.2 h.1, h.2⟩) h))⟩
  | .be d ne x y, Γ, K, _, h => by
    obtain ⟨a, e, h⟩ := need_iff h
    split at h
    · obtain ⟨a', e2, h⟩ := need_iff h
      split at h
      · exact ⟨_, need_mk e (need_mk e2 ⟨Same_put.2 rfl, h⟩)⟩
      · exact h.elim
    · exact h.elim
  | .pk d c x y, Γ, K, _, h => by
    obtain ⟨a, e, h⟩ := need_iff h
    split at h
    · rename_i b
      cases b with
      | true =>
        obtain ⟨a', e2, h⟩ := need_iff (h.1 rfl)
        exact ⟨a', need_mk e ⟨fun _ => need_mk e2 ⟨Same_put.2 rfl, h⟩, fun hb => by cases hb⟩⟩
      | false =>
        obtain ⟨a', e2, h⟩ := need_iff (h.2 rfl)
        exact ⟨a', need_mk e ⟨fun hb => (by cases hb), fun _ => need_mk e2 ⟨Same_put.2 rfl, h⟩⟩⟩
    · exact h.elim
  | .fa d o n j off, Γ, K, _, h => by
    obtain ⟨a, e, h⟩ := need_iff h
    split at h
    · obtain ⟨y, e', h⟩ := h
      obtain ⟨z, e2, h⟩ := need_iff h
      split at h
      · exact ⟨_, need_mk e ⟨y, e', need_mk e2 ⟨h.1, Same_put.2 rfl, h.2⟩⟩⟩
      · exact h.elim
    · exact ⟨_, need_mk e ⟨Same_put.2 rfl, h⟩⟩
    · exact ⟨_, need_mk e ⟨Same_put.2 rfl, h⟩⟩
    · exact h.elim
  | .ia d o i c, Γ, K, _, h => by
    obtain ⟨a, e, h⟩ := need_iff h; obtain ⟨a', e2, h⟩ := need_iff h
    split at h
    · split at h
      · exact ⟨_, need_mk e (need_mk e2 ⟨h.1, h.2.1, h.2.2.1, Same_put.2 rfl, h.2.2.2⟩)⟩
      · obtain ⟨q, e3, h⟩ := need_iff h
        split at h
        · exact ⟨_, need_mk e (need_mk e2 (need_mk e3 ⟨h.1, h.2.1, h.2.2.1, Same_put.2 rfl, h.2.2.2⟩))⟩
        · exact h.elim
      · exact h.elim
    · exact h.elim
  | .ld d o c, Γ, K, _, h => by
    obtain ⟨a, e, h⟩ := need_iff h
    split at h
    · obtain ⟨y, h1, h2, h⟩ := h; exact ⟨_, need_mk e ⟨y, h1, h2, Same_put.2 rfl, h⟩⟩
    · obtain ⟨q, e3, h⟩ := need_iff h
      split at h
      · cases c with
        | struct n => exact ⟨_, need_mk e (need_mk e3 ⟨h.1, Same_put.2 rfl, h.2⟩)⟩
        | _ => obtain ⟨a, h1, h2, h⟩ := h; exact ⟨a, need_mk e (need_mk e3 ⟨a, h1, h2, Same_put.2 rfl, h⟩)⟩
      · exact h.elim
    · obtain ⟨q, e3, h⟩ := need_iff h
      split at h
      · obtain ⟨h1, h2, h3, h4, h5, h⟩ := h; exact ⟨_, need_mk e (need_mk e3 ⟨h1, h2, h3, h4, h5, Same_put.2 rfl, h⟩)⟩
      · exact h.elim
    · exact h.elim
  | .ln d false o, Γ, K, _, h => by
    obtain ⟨a, e, h⟩ := need_iff h
    split at h
    · exact ⟨_, need_mk e fun hl => ⟨Same_put.2 rfl, h hl⟩⟩
    · obtain ⟨q, e3, h⟩ := need_iff h
      split at h
      · exact ⟨_, need_mk e (need_mk e3 fun hl => ⟨Same_put.2 rfl, h hl⟩)⟩
      · exact h.elim
    · exact ⟨_, need_mk e ⟨Same_put.2 rfl, h⟩⟩
    · exact h.elim
  | .ln d true o, Γ, K, _, h => by
    obtain ⟨a, e, h⟩ := need_iff h
    split at h
    · exact ⟨_, need_mk e fun hl => ⟨Same_put.2 rfl, h hl⟩⟩
    · exact h.elim
  | .cv d f xs, Γ, K, _, h => by
    obtain ⟨a, e, r, hs, h⟩ := need_iff h
    split at h
    · rename_i c x
      exact ⟨.v c x, need_mk e ⟨_, hs, h.1, Same.refl _, h.2⟩⟩
    · exact h.elim
  | .g t b i, Γ, K, hr, h => by
    obtain ⟨a, e, h⟩ := need_iff h
    split at h
    · rename_i x
      by_cases hx : x = b
      · subst hx
        obtain ⟨a, h'⟩ := vi_det (i := i) hr (h.1 rfl)
        refine ⟨a, need_mk e ⟨fun _ => vi_imp (fun Γ' hh => ⟨hh.1.trans ((Same_again e).puto a _), hh.2⟩) hr h', fun hb => ?_⟩⟩
        cases x <;> cases hb
      · have hx' : x = !b := by cases x <;> cases b <;> simp_all
        subst hx'
        refine ⟨.no, need_mk e ⟨fun hb => absurd hb hx, fun _ => ⟨?_, h.2 rfl⟩⟩⟩
        rw [skip_puto]
        exact (Same_again e).puto _ _
    · exact h.elim
end
end Go.Q

set_option linter.unusedVariables false
namespace Go.Q
theorem ev_same {Γ Γ2 : Env} {o : O} (h : ∀ t ∈ o.tm, lk Γ2.tm t = lk Γ.tm t) : ev Γ2 o = ev Γ o := by
  cases o with
  | t n => exact h n (by simp [O.tm])
  | _ => rfl
theorem co_same {Γ Γ2 : Env} (hob : Γ2.ob = Γ.ob) : ∀ {xs : List (O × Md)}, (∀ t ∈ xs.flatMap (fun x => x.1.tm), lk Γ2.tm t = lk Γ.tm t) → co Γ2 xs = co Γ xs ∧ coLab Γ2 xs = coLab Γ xs
  | [], _ => ⟨rfl, rfl⟩
  | (o, m) :: r, h => by
    simp only [List.flatMap_cons, List.mem_append] at h
    have h1 := ev_same (o := o) fun t ht => h t (.inl ht)
    obtain ⟨h2, h3⟩ := co_same hob (xs := r) fun t ht => h t (.inr ht)
    constructor
    · cases m with
      | v c => simp only [co, h1, hob, h2]
      | io c => rfl
    · simp only [coLab, h1, h3]
section
variable {S : FuncId → List SA → RA → Prop}
/-- Such an instruction looks at its operands alone. -/
theorem vi_frame : ∀ {i : I} {Γ Γ2 : Env} {a : AV}, i.rd = true → Γ2.ob = Γ.ob → (∀ t ∈ i.looks, lk Γ2.tm t = lk Γ.tm t) →
    vi S i Γ (fun Γ' => Same Γ' (Γ.puto a i.dst)) → vi S i Γ2 (fun Γ' => Same Γ' (Γ2.puto a i.dst))
  | .mv d o, Γ, Γ2, a, _, hob, hl, h => by
    have e := ev_same (o := o) hl
    simp only [vi, I.dst, Same_put] at h ⊢; rw [e]; exact h
  | .nck d o, Γ, Γ2, a, _, hob, hl, h => by
    have e := ev_same (o := o) hl
    simp only [vi, I.dst, Same_put] at h ⊢; rw [e]; exact h
  | .un d u o, Γ, Γ2, a, _, hob, hl, h => by
    have e := ev_same (o := o) hl
    simp only [vi, I.dst, Same_put] at h ⊢; rw [e]; exact h
  | .bi d b x y, Γ, Γ2, a, _, hob, hl, h => by
    have e := ev_same (o := x) fun t ht => hl t (by simp [I.looks, ht])
    have e2 := ev_same (o := y) fun t ht => hl t (by simp [I.looks, ht])
    simp only [vi, I.dst, Same_put] at h ⊢; rw [e, e2]; exact h
  | .be d ne x y, Γ, Γ2, a, _, hob, hl, h => by
    have e := ev_same (o := x) fun t ht => hl t (by simp [I.looks, ht])
    have e2 := ev_same (o := y) fun t ht => hl t (by simp [I.looks, ht])
    simp only [vi, I.dst, Same_put] at h ⊢; rw [e, e2]; exact h
  | .pk d c x y, Γ, Γ2, a, _, hob, hl, h => by
    have e := ev_same (o := c) fun t ht => hl t (by simp [I.looks, ht])
    have e2 := ev_same (o := x) fun t ht => hl t (by simp [I.looks, ht])
    have e3 := ev_same (o := y) fun t ht => hl t (by simp [I.looks, ht])
    simp only [vi, I.dst, Same_put] at h ⊢; rw [e, e2, e3]; exact h
  | .fa d o n j off, Γ, Γ2, a, _, hob, hl, h => by
    have e := ev_same (o := o) hl
    simp only [vi, I.dst, Same_put] at h ⊢; rw [e]; exact h
  | .ia d o i c, Γ, Γ2, a, _, hob, hl, h => by
    have e := ev_same (o := o) fun t ht => hl t (by simp [I.looks, ht])
    have e2 := ev_same (o := i) fun t ht => hl t (by simp [I.looks, ht])
    simp only [vi, I.dst, Same_put] at h ⊢; rw [e, e2, hob]; exact h
  | .ld d o c, Γ, Γ2, a, _, hob, hl, h => by
    have e := ev_same (o := o) hl
    simp only [vi, I.dst, Same_put] at h ⊢; rw [e, hob]; exact h
  | .ln d false o, Γ, Γ2, a, _, hob, hl, h => by
    have e := ev_same (o := o) hl
    simp only [vi, I.dst, Same_put] at h ⊢; rw [e, hob]; exact h
  | .ln d true o, Γ, Γ2, a, _, hob, hl, h => by
    have e := ev_same (o := o) hl
    simp only [vi, I.dst, Same_put] at h ⊢; rw [e]; exact h
  | .cv d f xs, Γ, Γ2, a, _, hob, hl, h => by
    obtain ⟨e, e2⟩ := co_same hob (xs := xs) hl
    simp only [vi, I.dst] at h ⊢
    rw [e, e2]
    obtain ⟨as, ea, r, hs, h⟩ := need_iff h
    refine need_mk ea ⟨r, hs, ?_⟩
    split at h
    · refine ⟨h.1, ?_⟩
      cases d with
      | none => exact Same.refl _
      | some d => exact Same_put.2 (Same_put.1 h.2)
    · exact h.elim
  | .g t b i, Γ, Γ2, a, hr, hob, hl, h => by
    obtain ⟨x, e, h⟩ := need_iff h
    have e2 : lk Γ2.tm t = some x := (hl t (by simp [I.looks])).trans e
    refine need_mk e2 ?_
    split at h
    · rename_i x
      have key : vi S i Γ (fun Γ' => Same Γ' (Γ.puto a i.dst)) → vi S i Γ2 fun Γ' => Same Γ' (Γ2.puto a i.dst) := vi_frame hr hob fun t ht => hl t (by simp [I.looks, ht])
      refine ⟨fun hb => ?_, fun hb => ?_⟩
      · subst hb
        refine vi_frame (i := i) (Γ := ⟨(t, .v .bool x) :: Γ.tm, Γ.ob⟩) (Γ2 := ⟨(t, .v .bool x) :: Γ2.tm, Γ2.ob⟩) hr hob (fun t' ht => ?_) (vi_imp (fun Γ' hh => hh.trans ((Same_again e).symm.puto a _)) hr (h.1 rfl)) |> vi_imp (fun Γ' hh => hh.trans ((Same_again e2).puto a _)) hr
        simp only [lk]
        split
        · rfl
        · exact hl t' (by simp [I.looks, ht])
      · subst hb
        have h2 := h.2 rfl
        rw [skip_puto] at h2 ⊢
        have h3 : Same ((⟨(t, .v .bool (!b)) :: Γ.tm, Γ.ob⟩ : Env).puto .no i.dst) (Γ.puto a i.dst) := h2
        refine ((Same_again e2).puto .no i.dst).trans ?_
        have h4 := ((Same_again e).puto .no i.dst).symm.trans h3
        show Same (Γ2.puto .no i.dst) (Γ2.puto a i.dst)
        cases hd : i.dst with
        | none => exact Same.refl _
        | some d =>
          rw [hd] at h4
          have h5 := h4.1 d
          simp only [Env.puto, lk_put, if_true, Option.some.injEq] at h5
          subst h5
          exact Same.refl _
    · exact h.elim
end
def dsts (is : List I) : List Nat := is.filterMap I.dst
/-- Nothing is overwritten. -/
def stat : List I → Bool
  | [] => true
  | i :: is => i.rd && (match i.dst with | some d => !(dsts is).contains d | none => true) && i.looks.all (fun t => !(dsts (i :: is)).contains t) && stat is
def edg (o : Oper) : List Nat := (o.after.toList.filter (Region.binds .any)).map Edge.on
def chkE (ops : List Oper) : Bool := (List.range ops.length).all fun i => match ops[i]? with | some o => (edg o).all fun j => Nat.blt j i | none => true
def chkP (ps : List I) (ops : List Oper) : Bool := (List.range ps.length).all fun i => match ps[i]?, ops[i]? with
  | some p, some o => p.looks.all fun t => (List.range ps.length).all fun j => (ps[j]?.bind I.dst) != some t || (edg o).contains j
  | _, _ => true
def chkT (n : Nat) (ops : List Oper) : Bool := (List.range ops.length).all fun i => Nat.blt i n || (match ops[i]? with | some o => (List.range i).all fun j => (edg o).contains j | none => true)
def drM (P : Program) (N : Nat) (ps ts : List I) (ops : List Oper) : Bool :=
  P.follows .mixedOrders && gms P N ops (ps ++ ts) ops && stat ps && chkE ops && chkP ps ops && chkT ps.length ops
section
variable {S : FuncId → List SA → RA → Prop} {P : Program} {N : Nat} {G : Nat → Prop} {σ : Lab → Value} {ow : Own} {w : World} {a : Act} {Γ : Env} {K : Env → Prop} {Q : Exit → Act → World → Prop} {o : Oper}
theorem wp_some {next : Act → World → Prop} (h : o.wp P a w next fun _ _ _ => False) : ∃ a' w', next a' w' := by
  unfold Oper.wp at h
  generalize (execOp a.eval o).run P w = r at h
  cases r with
  | ok n w' =>
    cases n with
    | value v => exact ⟨_, _, h⟩
    | skip => exact ⟨_, _, h⟩
    | defer d => exact ⟨_, _, h⟩
    | enter f args =>
      obtain ⟨e, w'', fr, hR, _⟩ := h []
      cases e with
      | returned v => exact ⟨_, _, hR⟩
      | panicked c => exact hR.elim
      | outgrown => obtain ⟨_, _, h⟩ := hR; exact h.elim
    | row row args =>
      obtain ⟨v, w', h, _⟩ := h default []
      exact ⟨_, _, h⟩
    | _ => exact h.elim
  | halt x w' =>
    cases x <;> exact h.elim
/-- What holds of an instruction, once all have run. -/
def Fact (S : FuncId → List SA → RA → Prop) (E : Env) (i : I) : Prop := ∃ a, vi S i E (fun Γ' => Same Γ' (E.puto a i.dst)) ∧ ∀ d, i.dst = some d → lk E.tm d = some a
theorem chain (hS : ∀ f as r, S f as r → Sp P f as r) {ops : List Oper} : ∀ {is : List I} {l : List Oper} {σ : Lab → Value} {ow : Own} {w : World} {a : Act} {Γ : Env}, stat is = true → gms P N ops is l = true → Rep N G σ ow w a Γ → vs S is Γ K →
    ∃ E, K E ∧ E.ob = Γ.ob ∧ (∀ t, t ∉ dsts is → lk E.tm t = lk Γ.tm t) ∧ ∀ i ∈ is, Fact S E i
  | [], l, σ, ow, w, a, Γ, _, _, _, h => ⟨Γ, h, rfl, fun _ _ => rfl, fun _ h => by cases h⟩
  | i :: is, [], _, _, _, _, _, _, hm, _, _ => by simp [gms] at hm
  | i :: is, o :: l, σ, ow, w, a, Γ, hs, hm, hr, h => by
    simp only [gms, Bool.and_eq_true] at hm
    simp only [stat, Bool.and_eq_true] at hs
    obtain ⟨⟨⟨hrd, hd⟩, hl⟩, hst⟩ := hs
    obtain ⟨x, hx⟩ := vi_det hrd h
    have h1 := snd_g (Q := fun _ _ _ => False) hS hr hm.1 hx
    obtain ⟨a', w', Γ', σ', ow', ⟨hsame, hk⟩, hr', _⟩ : ∃ a' w', Post N G ow w (fun Γ' => Same Γ' (Γ.puto x i.dst) ∧ vs S is Γ' K) a' w' := by
      split at h1
      · exact wp_some h1
      · exact ⟨_, _, h1⟩
    obtain ⟨E, hE, hob, hlk, hf⟩ := chain hS hst hm.2 hr' hk
    have hob' : E.ob = Γ.ob := by
      rw [hob, hsame.2]
      cases i.dst <;> rfl
    have hlk' : ∀ t, t ∉ dsts (i :: is) → lk E.tm t = lk Γ.tm t := fun t ht => by
      have h2 : t ∉ dsts is := fun h => ht (by simp only [dsts, List.filterMap_cons]; split <;> simp_all [dsts])
      rw [hlk t h2, hsame.1 t]
      cases hi : i.dst with
      | none => rfl
      | some d =>
        simp only [Env.puto, lk_put]
        rw [if_neg]
        rintro rfl
        exact ht (by simp [dsts, hi])
    refine ⟨E, hE, hob', hlk', fun j hj => ?_⟩
    rcases List.mem_cons.1 hj with rfl | hj
    · refine ⟨x, vi_frame hrd hob' (fun t ht => hlk' t ?_) (vi_imp (fun Γ' h => h.1) hrd hx), fun d hd' => ?_⟩
      · have := List.all_eq_true.1 hl t ht
        simpa using this
      · rw [hd'] at hd
        have : d ∉ dsts is := by simpa using hd
        rw [hlk d this, hsame.1 d, hd']
        simp [Env.puto, lk_put]
    · exact hf j hj
theorem Rep.of_same {Γ' : Env} (hr : Rep N G σ ow w a Γ) (h : Same Γ' Γ) : Rep N G σ ow w a Γ' :=
  ⟨hr.size, hr.defers, fun t x hx => hr.tm t x ((h.1 t).symm.trans hx), fun l q hq => hr.ob l q (h.2 ▸ hq), hr.own, hr.top⟩
theorem gms_at {ops : List Oper} : ∀ {is : List I} {l : List Oper}, gms P N ops is l = true → is.length = l.length ∧ ∀ (k : Nat) (i : I) (o : Oper), is[k]? = some i → l[k]? = some o → i.gm P N ops o = true
  | [], [], _ => ⟨rfl, fun k i o h => by simp at h⟩
  | [], _ :: _, hm => by simp [gms] at hm
  | _ :: _, [], hm => by simp [gms] at hm
  | i :: is, o :: l, hm => by
    simp only [gms, Bool.and_eq_true] at hm
    obtain ⟨h1, h2⟩ := gms_at hm.2
    refine ⟨by simp [h1], fun k i' o' hi ho => ?_⟩
    cases k with
    | zero => simp at hi ho; subst hi ho; exact hm.1
    | succ k => exact h2 k i' o' (by simpa using hi) (by simpa using ho)
theorem mem_edg {o : Oper} {j : Nat} : j ∈ edg o ↔ ∃ e ∈ o.after, Region.binds .any e = true ∧ e.on = j := by
  simp [edg, and_assoc]
/-- The operations that have run. -/
structure Lst (n : Nat) (U : List Nat) (listed : Array Bool) : Prop where
  iff : ∀ i, listed.getD i true = false ↔ i ∈ U
  lt : ∀ i ∈ U, i < n
  no : ∀ i, i < n → i ∉ U → listed.getD i false = true
  nodup : U.Nodup
theorem Lst.start (n : Nat) : Lst n (List.range n) (Array.replicate n false) :=
  ⟨fun i => by by_cases h : i < n <;> simp [Array.getD, h], fun i h => by simpa using h, fun i h h' => by simp at h'; omega, List.nodup_range⟩
theorem Lst.step {n : Nat} {U : List Nat} {listed : Array Bool} (h : Lst n U listed) {i : Nat} (hi : i ∈ U) : Lst n (U.erase i) (listed.setIfInBounds i true) := by
  have hself : ∀ d, (listed.setIfInBounds i true).getD i d = true := fun d => by
    have h1 := (h.iff i).2 hi
    have hlt : i < listed.size := by
      rcases Nat.lt_or_ge i listed.size with h' | h'
      · exact h'
      · simp [Array.getD, Nat.not_lt.2 h'] at h1
    simp [Array.getD, hlt]
  refine ⟨fun j => ?_, fun j hj => h.lt j (List.mem_of_mem_erase hj), fun j hlt hj => ?_, h.nodup.erase i⟩
  · by_cases e : i = j
    · subst e
      rw [hself]
      have := h.nodup.not_mem_erase (a := i)
      simp [this]
    · rw [getD_set_ne _ e, h.iff j, List.mem_erase_of_ne (Ne.symm e)]
  · by_cases e : i = j
    · subst e; exact hself false
    · rw [getD_set_ne _ e]
      exact h.no j hlt fun hj' => hj ((List.mem_erase_of_ne (Ne.symm e)).2 hj')
theorem Lst.ready {n : Nat} {U : List Nat} {listed : Array Bool} {ops : List Oper} (h : Lst n U listed) {i : Nat} (hi : i ∈ Region.ready .any ops.toArray listed) :
    i ∈ U ∧ ∃ o, ops[i]? = some o ∧ ∀ j ∈ edg o, j ∉ U := by
  rw [mem_ready] at hi
  obtain ⟨h1, o, ho, h2⟩ := hi
  refine ⟨(h.iff i).1 h1, o, by simpa using ho, fun j hj hU => ?_⟩
  obtain ⟨e, he, hb, rfl⟩ := mem_edg.1 hj
  have h3 := h2 e he hb
  have h4 := (h.iff e.on).2 hU
  rcases Nat.lt_or_ge e.on listed.size with h' | h'
  · simp [Array.getD, h'] at h3 h4; rw [h3] at h4; cases h4
  · simp [Array.getD, Nat.not_lt.2 h'] at h4
theorem Lst.some' {n : Nat} {U : List Nat} {listed : Array Bool} {ops : List Oper} (h : Lst n U listed) (hn : ops.length = n) (hE : chkE ops = true) (hne : U ≠ []) : Region.ready .any ops.toArray listed ≠ [] := by
  intro he
  have key : ∀ k i, i < k → i ∉ U := by
    intro k
    induction k with
    | zero => intro i hi; omega
    | succ k ih =>
      intro i hi hU
      have hlt := h.lt i hU
      have hr : i ∈ Region.ready .any ops.toArray listed := by
        rw [mem_ready]
        refine ⟨(h.iff i).2 hU, ops[i]'(by omega), by simp [hn, hlt], fun e hee hb => ?_⟩
        have h1 := List.all_eq_true.1 hE i (by simp [hn, hlt])
        have ho : ops[i]? = some (ops[i]'(by omega)) := List.getElem?_eq_getElem (by omega)
        rw [ho] at h1
        have h2 := List.all_eq_true.1 h1 e.on (mem_edg.2 ⟨e, hee, hb, rfl⟩)
        have h3 : e.on < i := by simpa [Nat.blt_eq] using h2
        exact h.no _ (by omega) (ih _ (by omega))
      rw [he] at hr
      cases hr
  obtain ⟨i, hi⟩ := List.exists_mem_of_ne_nil U hne
  exact key (i + 1) i (by omega) hi
end
end Go.Q

set_option linter.unusedVariables false
namespace Go.Q
section
variable {S : FuncId → List SA → RA → Prop} {P : Program} {N : Nat} {G : Nat → Prop} {K : Env → Prop} {Q : Exit → Act → World → Prop}
theorem wpOp_of {ops : List Oper} {i : Nat} {o : Oper} {a : Act} {w : World} {K1 K2 : Act → World → Prop} (ho : ops[i]? = some o) (h : if Region.wanted o (yielded ops.toArray a.tmps) then o.wp P a w K1 Q else K1 (a.put o.dst undef) w)
    (hk : ∀ a w, K1 a w → K2 a w) : wpOp P ops.toArray Q i K2 a w := by
  unfold wpOp
  simp only [List.getElem?_toArray, ho]
  split
  · rename_i hw; rw [if_pos hw] at h; exact .inl (Oper.wp_mono hk h)
  · rename_i hw; rw [if_neg hw] at h; exact hk _ _ h
theorem any_tail (hS : ∀ f as r, S f as r → Sp P f as r) {ops : List Oper} {ps ts : List I} (hm : gms P N ops (ps ++ ts) ops = true) (hE : chkE ops = true) (hT : chkT ps.length ops = true) :
    ∀ {fuel : Nat} {U : List Nat} {listed : Array Bool} {k : Nat} {σ : Lab → Value} {ow : Own} {w : World} {a : Act} {Γ : Env}, U.length = fuel → Lst ops.length U listed → (∀ i, i ∈ U ↔ k ≤ i ∧ i < ops.length) → ps.length ≤ k →
    Rep N G σ ow w a Γ → vs S (ts.drop (k - ps.length)) Γ K → (∀ a' w', Post N G ow w K a' w' → Q .normal a' w') → wpAny P .any ops.toArray Q fuel listed a w := by
  obtain ⟨hlen, hat⟩ := gms_at hm
  rw [List.length_append] at hlen
  intro fuel
  induction fuel with
  | zero =>
    intro U listed k σ ow w a Γ hU hL hk hpk hr hv hQ
    have hU0 : U = [] := List.length_eq_zero_iff.1 hU
    subst hU0
    have hkn : ops.length ≤ k := Nat.le_of_not_lt fun h => by
      have := (hk k).2 ⟨Nat.le_refl k, h⟩
      cases this
    have hd : ts.drop (k - ps.length) = [] := List.drop_eq_nil_iff.2 (by omega)
    rw [hd] at hv
    refine ⟨?_, hQ _ _ ⟨Γ, σ, ow, hv, hr, Ext.refl ow w⟩⟩
    cases he : Region.ready .any ops.toArray listed with
    | nil => rfl
    | cons x xs =>
      have := (hL.ready (i := x) (by rw [he]; simp)).1
      cases this
  | succ fuel ih =>
    intro U listed k σ ow w a Γ hU hL hk hpk hr hv hQ
    have hne : U ≠ [] := fun h => by simp [h] at hU
    refine ⟨fun h => absurd h (hL.some' rfl hE hne), fun i hi => ?_⟩
    obtain ⟨hiU, o, ho, hedge⟩ := hL.ready hi
    obtain ⟨hki, hin⟩ := (hk i).1 hiU
    have hik : i = k := by
      rcases Nat.lt_or_ge k i with h | h
      · exfalso
        have h1 := List.all_eq_true.1 hT i (by simp [hin])
        rw [ho] at h1
        simp only [Bool.or_eq_true] at h1
        rcases h1 with h1 | h1
        · have : i < ps.length := by simpa [Nat.blt_eq] using h1
          omega
        · have h2 := List.all_eq_true.1 h1 k (by simp [h])
          exact hedge k (by simpa using h2) ((hk k).2 ⟨Nat.le_refl k, by omega⟩)
      · omega
    subst hik
    obtain ⟨j, hj⟩ : ∃ j, ts[i - ps.length]? = some j := ⟨ts[i - ps.length]'(by omega), List.getElem?_eq_getElem (by omega)⟩
    have hd : ts.drop (i - ps.length) = j :: ts.drop (i + 1 - ps.length) := by
      have h1 : i - ps.length < ts.length := by omega
      rw [List.drop_eq_getElem_cons h1]
      have h2 : ts[i - ps.length] = j := by
        rw [List.getElem?_eq_getElem h1] at hj
        simpa using hj
      rw [h2, show i + 1 - ps.length = i - ps.length + 1 by omega]
    rw [hd] at hv
    have hgm := hat i j o (by rw [List.getElem?_append_right hpk]; exact hj) ho
    refine wpOp_of ho (snd_g hS hr hgm hv) fun a' w' hp => ?_
    obtain ⟨Γ', σ', ow', hv', hr', he⟩ := hp
    refine ih (k := i + 1) (by rw [List.length_erase_of_mem hiU]; omega) (hL.step hiU) (fun x => ?_) (by omega) hr' hv' fun a2 w2 h2 => hQ _ _ (Post.trans (a' := a2) (K' := K) he h2)
    by_cases e : x = i
    · subst e
      have := hL.nodup.not_mem_erase (a := x)
      simp only [this, false_iff]
      omega
    · rw [List.mem_erase_of_ne e, hk]
      omega
theorem any_pre (hS : ∀ f as r, S f as r → Sp P f as r) {ops : List Oper} {ps ts : List I} (hm : gms P N ops (ps ++ ts) ops = true) (hrd : ∀ p ∈ ps, p.rd = true) (hE : chkE ops = true) (hPc : chkP ps ops = true) (hT : chkT ps.length ops = true)
    {E : Env} (hF : ∀ i ∈ ps, Fact S E i) (hv : vs S ts E K) :
    ∀ {fuel : Nat} {U : List Nat} {listed : Array Bool} {σ : Lab → Value} {ow : Own} {w : World} {a : Act} {Γ : Env}, U.length = fuel → Lst ops.length U listed → (∀ i, ps.length ≤ i → i < ops.length → i ∈ U) →
    Γ.ob = E.ob → (∀ t, (∀ j ∈ U, ∀ p, ps[j]? = some p → p.dst ≠ some t) → lk Γ.tm t = lk E.tm t) →
    Rep N G σ ow w a Γ → (∀ a' w', Post N G ow w K a' w' → Q .normal a' w') → wpAny P .any ops.toArray Q fuel listed a w := by
  obtain ⟨hlen, hat⟩ := gms_at hm
  rw [List.length_append] at hlen
  intro fuel
  induction fuel with
  | zero =>
    intro U listed σ ow w a Γ hU hL hrest hob hlk hr hQ
    have hU0 : U = [] := List.length_eq_zero_iff.1 hU
    subst hU0
    have hr' : Rep N G σ ow w a E := hr.of_same ⟨fun t => (hlk t fun j hj => by cases hj).symm, hob.symm⟩
    refine any_tail (k := ops.length) hS hm hE hT hU hL (fun i => ?_) (by omega) hr' ?_ hQ
    · constructor
      · intro h; cases h
      · intro h; omega
    · have : ps.length = ops.length := by
        rcases Nat.lt_or_ge ps.length ops.length with h | h
        · have := hrest ps.length (Nat.le_refl _) h
          cases this
        · omega
      rw [this, Nat.sub_self]
      exact hv
  | succ fuel ih =>
    intro U listed σ ow w a Γ hU hL hrest hob hlk hr hQ
    by_cases hall : ∀ i ∈ U, ps.length ≤ i
    · have hr' : Rep N G σ ow w a E := hr.of_same ⟨fun t => (hlk t fun j hj p hp => by
        have := hall j hj
        rw [List.getElem?_eq_none this] at hp
        cases hp).symm, hob.symm⟩
      refine any_tail (k := ps.length) hS hm hE hT hU hL (fun i => ⟨fun h => ⟨hall i h, hL.lt i h⟩, fun h => hrest i h.1 h.2⟩) (Nat.le_refl _) hr' ?_ hQ
      rw [Nat.sub_self]
      exact hv
    · have hne : U ≠ [] := fun h => by simp [h] at hU
      refine ⟨fun h => absurd h (hL.some' rfl hE hne), fun i hi => ?_⟩
      obtain ⟨hiU, o, ho, hedge⟩ := hL.ready hi
      have hin := hL.lt i hiU
      have him : i < ps.length := by
        rcases Nat.lt_or_ge i ps.length with h | h
        · exact h
        · exfalso
          apply hall
          intro j hj
          rcases Nat.lt_or_ge j ps.length with h' | h'
          · exfalso
            have h1 := List.all_eq_true.1 hT i (by simp [hin])
            rw [ho] at h1
            simp only [Bool.or_eq_true] at h1
            rcases h1 with h1 | h1
            · have : i < ps.length := by simpa [Nat.blt_eq] using h1
              omega
            · have h2 := List.all_eq_true.1 h1 j (by simp; omega)
              exact hedge j (by simpa using h2) hj
          · exact h'
      obtain ⟨p, hp⟩ : ∃ p, ps[i]? = some p := ⟨ps[i], List.getElem?_eq_getElem him⟩
      have hpm : p ∈ ps := List.mem_of_getElem? hp
      obtain ⟨x, hx, hxd⟩ := hF p hpm
      have hgm := hat i p o (by rw [List.getElem?_append_left him]; exact hp) ho
      have hlook : ∀ t ∈ p.looks, lk Γ.tm t = lk E.tm t := fun t ht => hlk t fun j hj q hq hd => by
        have h1 := List.all_eq_true.1 hPc i (by simp [him])
        rw [hp, ho] at h1
        have h2 := List.all_eq_true.1 h1 t ht
        have hjm : j < ps.length := (List.getElem?_eq_some_iff.1 hq).1
        have h3 := List.all_eq_true.1 h2 j (by simp [hjm])
        simp only [hq, Option.bind_some, hd, bne_self_eq_false, Bool.false_or] at h3
        exact hedge j (by simpa using h3) hj
      have hvi := vi_frame (Γ2 := Γ) (hrd p hpm) hob hlook hx
      refine wpOp_of ho (snd_g hS hr hgm hvi) fun a' w' hpost => ?_
      obtain ⟨Γ', σ', ow', hsame, hr', he⟩ := hpost
      refine ih (by rw [List.length_erase_of_mem hiU]; omega) (hL.step hiU) (fun j h1 h2 => (List.mem_erase_of_ne (by omega)).2 (hrest j h1 h2)) ?_ (fun t ht => ?_) hr' fun a2 w2 h2 => hQ _ _ (Post.trans (a' := a2) (K' := K) he h2)
      · rw [hsame.2, ← hob]
        cases p.dst <;> rfl
      · rw [hsame.1 t]
        cases hd : p.dst with
        | none =>
          refine hlk t fun j hj q hq hqd => ?_
          by_cases e : j = i
          · subst e
            rw [hp] at hq
            cases hq
            rw [hd] at hqd; cases hqd
          · exact ht j ((List.mem_erase_of_ne e).2 hj) q hq hqd
        | some d =>
          simp only [Env.puto, lk_put]
          split
          · rename_i e
            subst e
            exact (hxd d hd).symm
          · rename_i hne'
            refine hlk t fun j hj q hq hqd => ?_
            by_cases e : j = i
            · subst e
              rw [hp] at hq
              cases hq
              rw [hd] at hqd
              cases hqd
              exact hne' rfl
            · exact ht j ((List.mem_erase_of_ne e).2 hj) q hq hqd
theorem vs_append : ∀ {is js : List I} {Γ : Env}, vs S (is ++ js) Γ K ↔ vs S is Γ fun Γ' => vs S js Γ' K
  | [], _, _ => Iff.rfl
  | i :: is, js, Γ => by
    simp only [List.cons_append, vs]
    have : (fun Γ' => vs S (is ++ js) Γ' K) = fun Γ' => vs S is Γ' fun Γ'' => vs S js Γ'' K := funext fun Γ' => propext vs_append
    rw [this]
theorem stat_rd : ∀ {is : List I}, stat is = true → ∀ p ∈ is, p.rd = true
  | [], _, _, h => by cases h
  | i :: is, hs, p, h => by
    simp only [stat, Bool.and_eq_true] at hs
    rcases List.mem_cons.1 h with rfl | h
    · exact hs.1.1.1
    · exact stat_rd hs.2 p h
/-- The front part of a chain. -/
theorem gms_take {ops : List Oper} : ∀ {is js : List I} {l : List Oper}, gms P N ops (is ++ js) l = true → gms P N ops is (l.take is.length) = true
  | [], _, _, _ => rfl
  | i :: is, js, [], h => by simp [gms] at h
  | i :: is, js, o :: l, h => by
    simp only [List.cons_append, gms, Bool.and_eq_true] at h
    simp only [List.length_cons, List.take_succ_cons, gms, Bool.and_eq_true]
    exact ⟨h.1, gms_take h.2⟩
theorem Rep.drawn {σ : Lab → Value} {ow : Own} {w : World} {a : Act} {Γ : Env} (hr : Rep N G σ ow w a Γ) : Rep N G σ ow { w with drawn := w.drawn + 1 } a Γ := by
  have hu : Upd (fun _ => false) ow w ow { w with drawn := w.drawn + 1 } := ⟨rfl, rfl, rfl, Nat.le_refl _, fun b _ _ => ⟨rfl, rfl⟩⟩
  exact hr.upd hu (fun _ _ => rfl) ⟨fun t x _ => refs_false x, fun l q _ => ⟨rfl, fun ls _ => refsL_false ls⟩⟩
theorem snd_dr (hS : ∀ f as r, S f as r → Sp P f as r) {id : Nat} {ops : Array Oper} {ps ts : List I} (hm : drM P N ps ts ops.toList = true) {σ : Lab → Value} {ow : Own} {w : World} {a : Act} {Γ : Env}
    (hr : Rep N G σ ow w a Γ) (hv : vs S ps Γ fun Γ' => vs S ts Γ' K) (hQ : ∀ a' w', Post N G ow w K a' w' → Q .normal a' w') : (Code.region id ops true).wp P Q a w := by
  simp only [drM, Bool.and_eq_true] at hm
  obtain ⟨⟨⟨⟨⟨hmix, hgm⟩, hst⟩, hE⟩, hP⟩, hT⟩ := hm
  have hr' := hr.drawn
  obtain ⟨E, hE2, hob, hlk, hF⟩ := chain hS hst (gms_take hgm) hr' hv
  refine wp_region_any hmix ?_
  have he : ops = ops.toList.toArray := by simp
  rw [he]
  have hsz : ops.toList.toArray.size = ops.toList.length := by simp
  rw [hsz]
  have hL := Lst.start ops.toList.length
  refine any_pre hS hgm (stat_rd hst) hE hP hT hF hE2 (by simp) hL (fun i _ h => by simp at h ⊢; exact h) hob.symm (fun t ht => (hlk t fun hd => ?_).symm) hr' fun a' w' h => hQ _ _ ?_
  · simp only [dsts, List.mem_filterMap] at hd
    obtain ⟨p, hp, hpd⟩ := hd
    obtain ⟨j, hj⟩ := List.getElem?_of_mem hp
    refine ht j ?_ p hj hpd
    have h1 := (gms_at hgm).1
    rw [List.length_append] at h1
    have h2 : j < ps.length := (List.getElem?_eq_some_iff.1 hj).1
    simp only [List.mem_range]
    omega
  · exact Post.trans (a' := a') (K' := K) (ow := ow) (w := w) (ow' := ow) (w' := { w with drawn := w.drawn + 1 }) ⟨rfl, rfl, rfl, Nat.le_refl _, fun _ _ h => ⟨h, rfl⟩⟩ h
end
end Go.Q

set_option linter.unusedVariables false
namespace Go.Q
def C.m (P : Program) (N : Nat) : C → Code → Bool
  | .skip, .skip => true
  | .rg is, .region _ ops false => gms P N ops.toList is ops.toList
  | .dr ps ts, .region _ ops true => drM P N ps ts ops.toList
  | .sq a b, .seq x y => a.m P N x && b.m P N y
  | .cd o a b, .cond c x y => o.m c && a.m P N x && b.m P N y
  | .bk id c, .block id' x => id == id' && c.m P N x
  | .lp c, .loop x => c.m P N x
  | .ex id, .exit id' => id == id'
  | .rt, .ret => true
  | _, _ => false
/-- What holds behind some code. -/
def PostC (N : Nat) (G : Nat → Prop) (ow : Own) (w : World) (K : Xt → Env → Prop) : Exit → Act → World → Prop
  | .normal, a', w' => Post N G ow w (K .nrm) a' w'
  | .exit id, a', w' => Post N G ow w (K (.ex id)) a' w'
  | .ret, a', w' => Post N G ow w (K .rt) a' w'
  | _, _, _ => False
/-- A loop. -/
def Lq (P : Program) (N : Nat) (c : C) (Γ : Env) (K : Xt → Env → Prop) : Prop :=
  ∀ G x, c.m P N x = true → ∀ σ ow w a, Rep N G σ ow w a Γ → (Code.loop x).wp P (PostC N G ow w K) a w
section
variable {S : FuncId → List SA → RA → Prop} {P : Program} {N : Nat} {G : Nat → Prop} {σ : Lab → Value} {ow : Own} {w : World} {a : Act} {Γ : Env} {Q : Exit → Act → World → Prop}
theorem PostC.trans {K : Xt → Env → Prop} {ow' : Own} {w' : World} (he : Ext ow w ow' w') {e : Exit} {b : Act} {v : World} (h : PostC N G ow' w' K e b v) : PostC N G ow w K e b v := by
  cases e <;> first | exact h.elim | exact Post.trans (a' := b) (K' := K .nrm) he h
theorem snd_c (hS : ∀ f as r, S f as r → Sp P f as r) : ∀ {c : C} {x : Code} {K : Xt → Env → Prop} {σ : Lab → Value} {ow : Own} {w : World} {a : Act} {Γ : Env}, c.m P N x = true → Rep N G σ ow w a Γ → vc S (Lq P N) c Γ K → x.wp P (PostC N G ow w K) a w := by
  intro c
  induction c with
  | skip =>
    intro x K σ ow w a Γ hm hr hv
    cases x <;> simp only [C.m, Bool.false_eq_true] at hm
    exact wp_skip ⟨Γ, σ, ow, hv, hr, Ext.refl ow w⟩
  | rg is =>
    intro x K σ ow w a Γ hm hr hv
    cases x with
    | region id ops draw =>
      cases draw with
      | true => simp [C.m] at hm
      | false => exact wp_region_list (snd_is hS (K := K .nrm) (ops := ops.toList) hm hr hv fun a' w' h => h)
    | _ => simp [C.m] at hm
  | dr ps ts =>
    intro x K σ ow w a Γ hm hr hv
    cases x with
    | region id ops draw =>
      cases draw with
      | true => exact snd_dr hS (K := K .nrm) hm hr hv fun a' w' h => h
      | false => simp [C.m] at hm
    | _ => simp [C.m] at hm
  | sq c d ihc ihd =>
    intro x K σ ow w a Γ hm hr hv
    cases x with
    | seq x y =>
      simp only [C.m, Bool.and_eq_true] at hm
      refine wp_seq (wp_mono (ihc hm.1 hr hv) fun e b v h => ?_)
      cases e with
      | normal =>
        obtain ⟨Γ', σ', ow', hk, hr', he⟩ := h
        exact wp_mono (ihd hm.2 hr' hk) fun e b v h => PostC.trans he h
      | exit id => exact h
      | ret => exact h
      | _ => exact h.elim
    | _ => simp [C.m] at hm
  | cd o c d ihc ihd =>
    intro x K σ ow w a Γ hm hr hv
    cases x with
    | cond o' x y =>
      simp only [C.m, Bool.and_eq_true] at hm
      obtain ⟨av, he, hv⟩ := need_iff hv
      have hx := ev_rep hr hm.1.1 he
      split at hv
      · rename_i t
        have hx' : a.eval o' = .bool t := by simpa [RepV, RepU, AV.isS, RepC, Kx_bool] using hx
        exact wp_cond_split hx' (fun ht => ihc hm.1.2 hr (hv.1 ht)) (fun ht => ihd hm.2 hr (hv.2 ht))
      · exact hv.elim
    | _ => simp [C.m] at hm
  | bk id c ih =>
    intro x K σ ow w a Γ hm hr hv
    cases x with
    | block id' x =>
      simp only [C.m, Bool.and_eq_true, beq_iff_eq] at hm
      obtain ⟨rfl, hm⟩ := hm
      refine wp_block (wp_mono (ih hm hr hv) fun e b v h => ?_)
      cases e with
      | normal => exact h
      | exit j =>
        obtain ⟨Γ', σ', ow', hk, hr', he⟩ := h
        simp only [Exit.inBlock]
        dsimp only at hk
        split
        · rename_i e; rw [if_pos e] at hk; exact ⟨Γ', σ', ow', hk, hr', he⟩
        · rename_i e; rw [if_neg e] at hk; exact ⟨Γ', σ', ow', hk, hr', he⟩
      | ret => exact h
      | _ => exact h.elim
    | _ => simp [C.m] at hm
  | lp c ih =>
    intro x K σ ow w a Γ hm hr hv
    cases x with
    | loop x => exact hv G x hm σ ow w a hr
    | _ => simp [C.m] at hm
  | ex id =>
    intro x K σ ow w a Γ hm hr hv
    cases x with
    | exit id' =>
      simp only [C.m, beq_iff_eq] at hm
      subst hm
      exact wp_exit ⟨Γ, σ, ow, hv, hr, Ext.refl ow w⟩
    | _ => simp [C.m] at hm
  | rt =>
    intro x K σ ow w a Γ hm hr hv
    cases x <;> simp only [C.m, Bool.false_eq_true] at hm
    exact wp_ret ⟨Γ, σ, ow, hv, hr, Ext.refl ow w⟩
theorem lk_keepT {tm : List (Nat × AV)} {t : Nat} {x : AV} : ∀ {ts : List Nat}, lk (keepT tm ts) t = some x → lk tm t = some x
  | [], h => by simp [keepT, lk] at h
  | k :: ts, h => by
    simp only [keepT] at h
    split at h
    · rename_i a ha
      simp only [lk] at h
      split at h
      · rename_i e; subst e; rw [← h]; exact ha
      · exact lk_keepT h
    · exact lk_keepT h
theorem lo_keepO {ob : List (Lab × Ob)} {l : Lab} {x : Ob} : ∀ {ls : List Lab}, lo (keepO ob ls) l = some x → lo ob l = some x
  | [], h => by simp [keepO, lo] at h
  | k :: ls, h => by
    simp only [keepO] at h
    split at h
    · rename_i a ha
      simp only [lo] at h
      split at h
      · rename_i e; subst e; rw [← h]; exact ha
      · exact lo_keepO h
    · exact lo_keepO h
theorem Rep.keep (hr : Rep N G σ ow w a Γ) (ts : List Nat) (ls : List Lab) : Rep N G σ ow w a (Γ.keep ts ls) :=
  ⟨hr.size, hr.defers, fun t x h => hr.tm t x (lk_keepT h), fun l q h => hr.ob l q (lo_keepO h), hr.own, hr.top⟩
/-- What a round may leave. -/
def Again {T : Type} (ts : List Nat) (ls : List Lab) (I : T → Env) (V : T → Prop) (μ : T → Nat) (n : Nat) (Γ : Env) : Prop := ∃ t, V t ∧ μ t < n ∧ Γ.keep ts ls = I t
def Round {T : Type} (ts : List Nat) (ls : List Lab) (I : T → Env) (V : T → Prop) (μ : T → Nat) (n : Nat) (K : Xt → Env → Prop) : Xt → Env → Prop
  | .nrm, Γ => Again ts ls I V μ n Γ
  | e, Γ => K e Γ
theorem Lq.intro (hS : ∀ f as r, S f as r → Sp P f as r) {T : Type} (ts : List Nat) (ls : List Lab) (I : T → Env) (V : T → Prop) (μ : T → Nat) {c : C} {K : Xt → Env → Prop}
    (h0 : ∃ t, V t ∧ Γ.keep ts ls = I t) (hs : ∀ t, V t → vc S (Lq P N) c (I t) (Round ts ls I V μ (μ t) K)) : Lq P N c Γ K := by
  intro G x hm σ ow w a hr
  obtain ⟨t, hV, hI⟩ := h0
  have hr0 := hr.keep ts ls
  rw [hI] at hr0
  intro b k cs
  have key : ∀ n t σ' ow' w' a', μ t = n → V t → Rep N G σ' ow' w' a' (I t) → Ext ow w ow' w' →
      ∃ e a2 w2, PostC N G ow w K e a2 w2 ∧ Arrives P (lone (b.at a' (.code x :: .inLoop x :: k)) cs w') b k cs e a2 w2 := by
    intro n
    induction n using Nat.strongRecOn with
    | _ n ih =>
      intro t σ' ow' w' a' hn hV hr he
      obtain ⟨e, a₁, w₁, hq, harr⟩ := snd_c hS hm hr (hs t hV) b (.inLoop x :: k) cs
      cases e with
      | normal =>
        obtain ⟨Γ', σ2, ow2, ⟨t', hV', hlt, hI'⟩, hr2, he2⟩ := hq
        have hr3 := hr2.keep ts ls
        rw [hI'] at hr3
        obtain ⟨e₂, a₂, w₂, hq₂, harr₂⟩ := ih (μ t') (hn ▸ hlt) t' σ2 ow2 w₁ a₁ rfl hV' hr3 (he.trans he2)
        exact ⟨e₂, a₂, w₂, hq₂, .of_steps (Steps.trans harr (.one step_inLoop)) harr₂⟩
      | exit id => exact ⟨_, a₁, w₁, PostC.trans (K := K) (e := .exit id) he hq, .pass (x := .inLoop x) rfl (fun _ _ => .inl (by simp)) harr⟩
      | ret => exact ⟨_, a₁, w₁, PostC.trans (K := K) (e := .ret) he hq, .pass (x := .inLoop x) rfl (fun _ _ => .inl (by simp)) harr⟩
      | _ => exact hq.elim
  obtain ⟨e, a', w', hq, harr⟩ := key _ t σ ow w a rfl hV hr0 (Ext.refl ow w)
  exact ⟨e, a', w', hq, .of_steps (.one step_loop) harr⟩
end
end Go.Q

set_option linter.unusedVariables false
namespace Go.Q
/-- Leaves that are the call's own to the bottom. -/
def LsD (w : World) : List AV → List Value → List (List Nat) → Prop
  | [], us, ps => us = [] ∧ ps = []
  | a :: as, us, ps => ∃ c x u us' p ps', a = .v c x ∧ c.isS = false ∧ us = u :: us' ∧ ps = p :: ps' ∧ Dx w c x [u] p ∧ LsD w as us' ps'
def mkOw : Nat → List (List Nat) → Own
  | _, [], _ => none
  | j, p :: ps, b => if b ∈ p then some [j] else mkOw (j + 1) ps b
theorem mkOw_none : ∀ {j : Nat} {ps : List (List Nat)} {b : Nat}, b ∉ ps.flatten → mkOw j ps b = none
  | _, [], _, _ => rfl
  | j, p :: ps, b, h => by
    simp only [List.flatten_cons, List.mem_append, not_or] at h
    simp only [mkOw, h.1, if_false]
    exact mkOw_none h.2
theorem mkOw_at : ∀ {j : Nat} {ps : List (List Nat)} {i : Nat} {p : List Nat} {b : Nat}, ps.flatten.Nodup → ps[i]? = some p → b ∈ p → mkOw j ps b = some [j + i]
  | _, [], _, _, _, _, h, _ => by simp at h
  | j, q :: ps, 0, p, b, hn, h, hb => by
    simp only [List.getElem?_cons_zero, Option.some.injEq] at h
    subst h
    simp [mkOw, hb]
  | j, q :: ps, i + 1, p, b, hn, h, hb => by
    simp only [List.getElem?_cons_succ] at h
    simp only [List.flatten_cons, List.nodup_append] at hn
    have hm : b ∈ ps.flatten := List.mem_flatten.2 ⟨p, List.mem_of_getElem? h, hb⟩
    have : b ∉ q := fun hq => hn.2.2 b hq b hm rfl
    simp only [mkOw, this, if_false]
    rw [mkOw_at hn.2.1 h hb]
    simp; omega
theorem nodup_part : ∀ {ps : List (List Nat)} {p : List Nat}, ps.flatten.Nodup → p ∈ ps → p.Nodup
  | [], _, _, h => by cases h
  | q :: ps, p, hn, h => by
    simp only [List.flatten_cons, List.nodup_append] at hn
    rcases List.mem_cons.1 h with rfl | h
    · exact hn.1
    · exact nodup_part hn.2.1 h
theorem LsD.append {w : World} : ∀ {as bs : List AV} {us vs : List Value} {ps qs : List (List Nat)}, LsD w as us ps → LsD w bs vs qs → LsD w (as ++ bs) (us ++ vs) (ps ++ qs)
  | [], _, _, _, _, _, ⟨h1, h2⟩, h => by subst h1 h2; exact h
  | a :: as, _, _, _, _, _, ⟨c, x, u, us', p, ps', e, hs, e1, e2, hd, hr⟩, h => by
    subst e1 e2
    exact ⟨c, x, u, _, p, _, e, hs, rfl, rfl, hd, hr.append h⟩
theorem lv_D {w : World} : ∀ {f : Nat} {cs : List Ki} {h : HL cs} {va : List Value} {bs : List Nat}, fok f cs = true → HAllD (Dx w) cs h va bs → ∃ ps, LsD w (lv f cs h) va ps ∧ bs = ps.flatten := by
  intro f
  induction f with
  | zero => intro cs h va bs hf; simp [fok] at hf
  | succ f ih =>
    intro cs h va bs hf hD
    cases cs with
    | nil =>
      obtain ⟨h1, h2⟩ := hD
      exact ⟨[], ⟨h1, rfl⟩, h2⟩
    | cons c cs =>
      obtain ⟨a, b, p, q, rfl, hl, rfl, hd, hr⟩ := hD
      by_cases hS : ∃ n, c = .struct n
      · obtain ⟨n, rfl⟩ := hS
        simp only [fok, Bool.and_eq_true] at hf
        obtain ⟨ps, h1, rfl⟩ := ih hf.1 (Dx_struct.1 hd)
        obtain ⟨qs, h2, rfl⟩ := ih hf.2 hr
        exact ⟨ps ++ qs, h1.append h2, by simp⟩
      · have hcs : c.isS = false := by
          cases c <;> first | rfl | exact absurd ⟨_, rfl⟩ hS
        have hf' : fok f cs = true := by cases c <;> first | exact hf | exact absurd ⟨_, rfl⟩ hS
        have hlv : lv (f + 1) (c :: cs) h = .v c h.1 :: lv f cs h.2 := by
          cases c <;> first | rfl | exact absurd ⟨_, rfl⟩ hS
        obtain ⟨qs, h2, rfl⟩ := ih hf' hr
        have h1 := isS_sz hcs
        obtain ⟨e, rfl⟩ : ∃ e, a = [e] := List.length_eq_one_iff.1 (hl.trans h1)
        rw [hlv]
        exact ⟨p :: qs, ⟨c, h.1, e, b, p, qs, rfl, hcs, rfl, rfl, hd, h2⟩, by simp⟩
section
variable {P : Program} {N : Nat} {G : Nat → Prop} {σ : Lab → Value} {ow : Own} {w : World} {a : Act} {Γ : Env}
theorem flat_bs {c : Ki} {x : c.T} {u : List Value} {p : List Nat} (hc : c.isS = false) (hs : ∀ e, c ≠ .slice e) (h : Dx w c x u p) : p = [] := by
  cases c with
  | int k => exact (Dx_int.1 h).2.2
  | bool => exact (Dx_bool.1 h).2
  | str => exact (Dx_str.1 h).2.2
  | slice e => exact absurd rfl (hs e)
  | struct n => simp [Ki.isS] at hc
  | ptr c => obtain ⟨d, h⟩ := h; cases d <;> exact h.elim
theorem ownL_rep {F : Nat → Prop} : ∀ {ls : List AV} {us : List Value} {ps : List (List Nat)} {j : Nat}, LsD w ls us ps → (∀ i u, us[i]? = some u → σ [j + i] = u) → (∀ i p, ps[i]? = some p → p.Nodup ∧ ∀ b ∈ p, ow b = some [j + i]) →
    RepCs σ F w (ownL [] j ls).1 us ∧ ∀ k q, lo (ownL [] j ls).2 k = some q → ObR G σ ow w k q
  | [], us, ps, j, ⟨h1, h2⟩, _, _ => ⟨h1, fun k q h => by simp [ownL, lo] at h⟩
  | a :: as, us, ps, j, ⟨c, x, u, us', p, ps', e, hs, e1, e2, hd, hr⟩, hσ, how => by
    subst e e1 e2
    obtain ⟨h1, h2⟩ := ownL_rep (j := j + 1) hr (fun i v hv => by have := hσ (i + 1) v hv; rwa [show j + (i + 1) = j + 1 + i by omega] at this)
      (fun i p hp => by have := how (i + 1) p hp; rwa [show j + (i + 1) = j + 1 + i by omega] at this)
    have hu : σ [j] = u := hσ 0 u rfl
    by_cases hsl : ∃ e, c = .slice e
    · obtain ⟨e, rfl⟩ := hsl
      obtain ⟨u', e1, hrow⟩ := Dx_slice.1 hd
      cases e1
      have hrow' : RowO w (fz G ow w) true e x u p := by simp only [RowO, if_true]; exact hrow
      obtain ⟨A, cap, eu, _, _⟩ := row_form hrow'
      obtain ⟨hnd, hob⟩ := how 0 p rfl
      refine ⟨?_, fun k q hq => ?_⟩
      · simp only [ownL, List.nil_append, RepCs]
        exact ⟨u, us', rfl, ⟨A, _, cap, hu.trans eu, by rw [eu]⟩, h1⟩
      · simp only [ownL, List.nil_append, lo] at hq
        split at hq
        · rename_i ek
          subst ek
          cases hq
          exact ⟨p, hu ▸ hrow', hnd, fun b hb => by simpa using hob b hb⟩
        · exact h2 k q hq
    · have hne : ∀ e, c ≠ .slice e := fun e h => hsl ⟨e, h⟩
      have hp := flat_bs hs hne hd
      subst hp
      have hK : Kx F w c x [u] := hd.read fun b hb => by cases hb
      have e1 : (ownL [] j (.v c x :: as)).1 = .v c x :: (ownL [] (j + 1) as).1 ∧ (ownL [] j (.v c x :: as)).2 = (ownL [] (j + 1) as).2 := by
        cases c <;> first | exact ⟨rfl, rfl⟩ | exact absurd rfl (hne _)
      rw [e1.1, e1.2]
      exact ⟨⟨u, us', rfl, hK, h1⟩, h2⟩
/-- What is the call's own can be handed over. -/
theorem ResR_o {c : Ki} {y : c.T} {u : Value} {bs : List Nat} (hd : Dx w c y u.cells.toList bs) (hnd : bs.Nodup) (hu : u = valOf c u.cells.toList) :
    ∃ ow', (∀ b, b ∉ bs → ow' b = none) ∧ ResR G ow' w (.o c y) u := by
  by_cases hS : c.isS = true
  · cases c <;> simp [Ki.isS] at hS
    rename_i n
    obtain ⟨ps, hL, rfl⟩ := lv_D (fok99 n) (Dx_struct.1 hd)
    obtain ⟨h1, h2⟩ := ownL_rep (G := G) (F := fz G (mkOw 0 ps) w) (σ := fun l => match l with | [i] => u.cells.toList.getD i undef | _ => undef) (ow := mkOw 0 ps) (j := 0) hL
      (fun i v hv => by simp [List.getD_eq_getElem?_getD]; simpa using congrArg (Option.getD · undef) hv)
      (fun i p hp => ⟨nodup_part hnd (List.mem_of_getElem? hp), fun b hb => mkOw_at hnd hp hb⟩)
    refine ⟨mkOw 0 ps, fun b hb => mkOw_none hb, _, ?_, h2⟩
    simp only [RA.intro, RepV, RepU, AV.isS, if_true]
    have hlen := hd.len
    refine ⟨u.cells.toList, by rw [hu]; simp [valOf, Ki.isS, Value.cells], ?_⟩
    simp only [RepC]
    exact ⟨h1.length.symm.trans hlen, h1⟩
  · have hS' : c.isS = false := by simpa using hS
    have h1 := isS_sz hS'
    obtain ⟨e, he⟩ : ∃ e, u.cells.toList = [e] := List.length_eq_one_iff.1 (hd.len.trans h1)
    rw [he] at hd hu
    have hue : u = e := by rw [hu]; simp [valOf, hS']
    subst hue
    by_cases hsl : ∃ e, c = .slice e
    · obtain ⟨e, rfl⟩ := hsl
      obtain ⟨u', e1, hrow⟩ := Dx_slice.1 hd
      cases e1
      let ow' : Own := fun b => if b ∈ bs then some [] else none
      have hrow' : RowO w (fz G ow' w) true e y u bs := by simp only [RowO, if_true]; exact hrow
      obtain ⟨A, cap, eu, _, _⟩ := row_form hrow'
      refine ⟨ow', fun b hb => if_neg hb, fun _ => u, ?_, fun k q hq => ?_⟩
      · simp only [RA.intro]
        exact RepV_sl.2 ⟨A, _, cap, eu, eu⟩
      · simp only [RA.intro, lo] at hq
        split at hq
        · rename_i ek
          subst ek
          cases hq
          exact ⟨bs, hrow', hnd, fun b hb => if_pos hb⟩
        · cases hq
    · have hne : ∀ e, c ≠ .slice e := fun e h => hsl ⟨e, h⟩
      have hp := flat_bs hS' hne hd
      subst hp
      refine ⟨fun _ => none, fun _ _ => rfl, fun _ => undef, ?_, ?_⟩
      · have e1 : (RA.o c y).intro [] = (.v c y, []) := by
          cases c <;> first | rfl | exact absurd rfl (hne _) | simp [Ki.isS] at hS'
        rw [e1]
        exact RepV_cells (hd.read fun b hb => by cases hb) hu
      · have e1 : ((RA.o c y).intro []).2 = [] := by
          cases c <;> first | rfl | exact absurd rfl (hne _) | simp [Ki.isS] at hS'
        rw [e1]
        intro l q h
        simp [lo] at h
theorem pkO_val {ob : List (Lab × Ob)} {c : Ki} {x : AV} {r : c.T × List Lab} (h : pkO ob c x = some r) {F : Nat → Prop} {u : Value} (hx : RepV σ F w x u) (hd : ∃ bs y, Dx w c y u.cells.toList bs) : u = valOf c u.cells.toList := by
  unfold pkO at h
  split at h
  · rename_i n m ls
    simp only [RepV, RepU, AV.isS, if_true, RepC] at hx
    obtain ⟨cs, rfl, _, _⟩ := hx
    simp [valOf, Ki.isS, Value.cells]
  · rename_i hne
    obtain ⟨hS, htu⟩ := pkOL_leaf h
    have hc : c.isS = false := by
      unfold pkOL at h
      split at h <;> first | rfl | cases h
    have hC : RepC σ F w x [u] := by
      cases x with
      | tu vs => exact absurd rfl (htu vs)
      | _ => simp only [RepV, RepU, hS, Bool.false_eq_true, if_false] at hx; exact hx
    obtain ⟨bs, y, hd⟩ := hd
    cases u with
    | agg cs =>
      exfalso
      unfold pkOL at h
      split at h
      · simp only [RepC] at hC; obtain ⟨A, n, cp, _, e⟩ := hC; simp at e
      · simp [RepC] at hC
      all_goals first
        | (simp only [Option.map_eq_some_iff] at h; obtain ⟨y', hy, _⟩ := h; rw [as_eq hy] at hC; simp [RepC, Kx_int, Kx_bool, Kx_str] at hC)
        | cases h
    | _ => simp [valOf, hc, Value.cells]
end
end Go.Q

set_option linter.unusedVariables false
namespace Go.Q
/-- A result variable, and how it is handed over. -/
inductive RV where
  | t (n : Nat) (m : RM)
  | c (n : Nat) (m : RM)
def RM.k : RM → Ki
  | .v c => c
  | .o c => c
  | .s c => .slice c
def RV.m : RV → RM
  | .t _ m => m
  | .c _ m => m
def boxA (k : Ki) (ls : List AV) : Option AV :=
  match k with
  | .struct n => if ls.length = ssz n then some (.ag n ls) else none
  | _ => (match ls with
    | [a] => if a.leaf then some a else none
    | _ => none)
def rav (Γ : Env) : RV → Option AV
  | .t n _ => lk Γ.tm n
  | .c n m => (match lk Γ.tm n with
    | some (.pt l 0) => (match lo Γ.ob l with
      | some (.box ls) => boxA m.k ls
      | _ => none)
    | _ => none)
def nodL : List Lab → Bool
  | [] => true
  | l :: ls => !ls.contains l && nodL ls
theorem nodL_nodup : ∀ {ls : List Lab}, nodL ls = true → ls.Nodup
  | [], _ => List.nodup_nil
  | l :: ls, h => by
    simp only [nodL, Bool.and_eq_true] at h
    exact List.nodup_cons.2 ⟨by simpa using h.1, nodL_nodup h.2⟩
def rx1 (Γ : Env) (a : AV) : RM → Option RA
  | .v c => (pk Γ.ob c a).map (RA.v c)
  | .o c => (pkO Γ.ob c a).bind fun r => if nodL r.2 then some (.o c r.1) else none
  | .s c => (match a with
    | .sl l => (match lo Γ.ob l with
      | some (.row false p c' xs) => (Ob.as c (.row false p c' xs)).map (RA.s c)
      | _ => none)
    | _ => none)
def rx (Γ : Env) : List RV → Option RA
  | [] => some (.t [])
  | [v] => (rav Γ v).bind fun a => rx1 Γ a v.m
  | _ => none
def Fin (vs : List RV) (r : RA) : Xt → Env → Prop
  | .ex _, _ => False
  | _, Γ => rx Γ vs = some r
def entry : Nat → List SA → List (Nat × AV)
  | _, [] => []
  | i, .v c x :: r => (i, .v c x) :: entry (i + 1) r
  | i, .fn f :: r => (i, .fn f []) :: entry (i + 1) r
  | i, .io _ _ :: r => entry (i + 1) r
def rvM (P : Program) (N : Nat) : RV → ResultVar → Bool
  | .t n _, .tmp t => n == t
  | .c n m, .cell a t => n == a && tk P t m.k
  | _, _ => false
def rvsM (P : Program) (N : Nat) : List RV → List ResultVar → Bool
  | [], [] => true
  | [v], [x] => rvM P N v x
  | _, _ => false
def fnM (P : Program) (fn : Func) (N : Nat) (c : C) (vs : List RV) : Bool :=
  fn.ntmps == N && (match fn.body with | some x => c.m P N x | none => false) && rvsM P N vs fn.results.toList
section
variable {P : Program} {N : Nat} {G : Nat → Prop} {σ : Lab → Value} {ow : Own} {w w0 : World} {a : Act} {Γ : Env}
theorem own_new (he : Ext (fun _ => none) w0 ow w) {b : Nat} {l : Lab} (h : ow b = some l) : w0.heap.size ≤ b := by
  rcases Nat.lt_or_ge b w0.heap.size with h' | h'
  · rw [(he.block b h' rfl).1] at h; cases h
  · exact h'
theorem ext_own (he : Ext (fun _ => none) w0 ow w) {ow' : Own} (h : ∀ b, b < w0.heap.size → ow' b = none) : Ext (fun _ => none) w0 ow' w :=
  ⟨he.os, he.tape, he.output, he.size, fun b hb hn => ⟨h b hb, (he.block b hb hn).2⟩⟩
theorem rx1_rep (hr : Rep N G σ ow w a Γ) (he : Ext (fun _ => none) w0 ow w) {m : RM} {x : AV} {r : RA} (h : rx1 Γ x m = some r) {u : Value} (hx : RepV σ (fz G ow w) w x u) :
    ∃ ow', ResR G ow' w r u ∧ Ext (fun _ => none) w0 ow' w := by
  cases m with
  | v c =>
    simp only [rx1, Option.map_eq_some_iff] at h
    obtain ⟨y, hp, rfl⟩ := h
    refine ⟨fun _ => none, ⟨fun _ => undef, ?_, fun l q h => by simp [RA.intro, lo] at h⟩, ext_own he fun _ _ => rfl⟩
    exact pk_rep (F' := fz G (fun _ => none) w) hr.ob (fun b hb => ⟨rfl, hb.2⟩) hp hx fun _ b l hb hlt => ⟨rfl, hlt, hr.own b l hb⟩
  | o c =>
    simp only [rx1, Option.bind_eq_some_iff] at h
    obtain ⟨⟨y, labs⟩, hp, h⟩ := h
    split at h
    · rename_i hn
      cases h
      obtain ⟨bs, hd, hnd, hob⟩ := pkO_rep hr.ob hp hx (nodL_nodup hn)
      obtain ⟨ow', h1, h2⟩ := ResR_o (G := G) hd hnd (pkO_val hp hx ⟨bs, y, hd⟩)
      refine ⟨ow', h2, ext_own he fun b hb => h1 b fun hb' => ?_⟩
      obtain ⟨l, _, hl⟩ := hob b hb'
      have := own_new he hl
      omega
    · cases h
  | s c =>
    simp only [rx1] at h
    split at h
    · rename_i l
      split at h
      · rename_i p c' xs hl
        simp only [Option.map_eq_some_iff] at h
        obtain ⟨y, hy, rfl⟩ := h
        have e := oas_eq hy
        simp only [Ob.row.injEq, true_and] at e
        obtain ⟨rfl, e⟩ := e
        obtain rfl := eq_of_heq e
        obtain ⟨bs, hrow, hnd, how⟩ := hr.ob _ _ hl
        obtain ⟨A, n, cp, hs, e⟩ := RepV_sl.1 hx
        let ow' : Own := fun b => if b ∈ bs then some [] else none
        have hfz : ∀ b, fz G ow w b → fz G ow' w b := fun b hb => ⟨if_neg (fun hb' => by have h1 := hb.1; rw [how b hb'] at h1; cases h1), hb.2⟩
        refine ⟨ow', ⟨fun _ => u, ?_, fun k q hq => ?_⟩, ext_own he fun b hb => if_neg fun hb' => ?_⟩
        · simp only [RA.intro]
          exact RepV_sl.2 ⟨A, n, cp, e, e⟩
        · simp only [RA.intro, lo] at hq
          split at hq
          · rename_i ek
            subst ek
            cases hq
            refine ⟨bs, ?_, hnd, fun b hb => if_pos hb⟩
            rw [hs, ← e] at hrow
            exact hrow.keep (fun b hb => ⟨hfz b hb, rfl⟩) (fun _ _ => rfl)
          · cases hq
        · have := own_new he (how b hb')
          omega
      · cases h
    · cases h
theorem res_val (hr : Rep N G σ ow w a Γ) {v : RV} {x : ResultVar} {y : AV} (hm : rvM P N v x = true) (h : rav Γ v = some y) :
    ∃ u, ((match x with | .tmp t => pure (a.tmps.getD t undef) | .cell b t => do loadVar t (← asAddr (a.tmps.getD b undef)) : Sem Value)).run P w = .ok u w ∧ RepV σ (fz G ow w) w y u := by
  cases v with
  | t n m =>
    cases x with
    | tmp t =>
      simp only [rvM, beq_iff_eq] at hm
      subst hm
      exact ⟨_, rfl, hr.tm _ _ h⟩
    | cell b t => simp [rvM] at hm
  | c n m =>
    cases x with
    | tmp t => simp [rvM] at hm
    | cell b t =>
      simp only [rvM, Bool.and_eq_true, beq_iff_eq] at hm
      obtain ⟨rfl, ht⟩ := hm
      simp only [rav] at h
      split at h
      · rename_i l hl
        split at h
        · rename_i ls hlo
          obtain ⟨b, e, cs, hs, hg, hown, hreps⟩ := hr.ob _ _ hlo
          obtain ⟨b', hs', eu⟩ := RepV_pt.1 (hr.tm _ _ hl)
          rw [hs] at hs'
          cases hs'
          have hcs : cs.toList.length = ls.length := hreps.length
          have key : ∀ es, es.length = m.k.sz → cs.toList = es → (do loadVar t (← asAddr (a.tmps.getD n undef)) : Sem Value).run P w = .ok (valOf m.k es) w := fun es hl hc => by
            have := run_load_cells ht w ⟨b, 0, none⟩ es hl (Cells_box hg 0 es fun j u hj => by rw [← hc] at hj; simpa using hj)
            simp only [Instr.loadAt, Instr.sureAddr, Sem.run_bind, Sem.run_pure, Result.andThen_ok] at this
            rw [eu]
            simp only [asAddr, Sem.run_bind, Sem.run_pure, Result.andThen_ok, this]
          unfold boxA at h
          split at h
          · rename_i n' hk
            split at h
            · rename_i hlen
              cases h
              refine ⟨_, key cs.toList (by rw [hk]; simp only [Ki.sz, ← hlen, hcs]) rfl, ?_⟩
              simp only [RepV, RepU, AV.isS, if_true, valOf, hk, Ki.isS, RepC]
              exact ⟨_, rfl, hlen, hreps⟩
            · cases h
          · rename_i hns
            split at h
            · rename_i a0
              split at h
              · rename_i hleaf
                cases h
                simp only [RepCs] at hreps
                obtain ⟨u, us, e1, h1, h2⟩ := hreps
                subst h2
                have hcS : m.k.isS = false := by cases hk : m.k <;> simp_all [Ki.isS]
                refine ⟨_, key [u] (by simp [isS_sz hcS]) e1, ?_⟩
                simp only [valOf, hcS, Bool.false_eq_true, if_false, List.headD_cons]
                refine RepV_leaf h1 ?_
                cases y <;> simp_all [AV.leaf, AV.isS]
                rename_i c' x'
                cases c' <;> simp_all
              · cases h
            · cases h
        · cases h
      · cases h
theorem res_rep (hr : Rep N G σ ow w a Γ) (he : Ext (fun _ => none) w0 ow w) {fn : Func} {vs : List RV} {r : RA} (hm : rvsM P N vs fn.results.toList = true) (h : rx Γ vs = some r) :
    ∃ u, (results fn a.tmps).run P w = .ok u w ∧ ∃ ow', ResR G ow' w r u ∧ Ext (fun _ => none) w0 ow' w := by
  unfold rx at h
  split at h
  · cases h
    have h0 : fn.results = #[] := by
      cases hq : fn.results.toList with
      | nil => simpa using hq
      | cons x xs => rw [hq] at hm; simp [rvsM] at hm
    refine ⟨_, results_none h0 _ _ _, fun _ => none, ⟨fun _ => undef, ?_, fun l q h => by simp [RA.intro, introL, lo] at h⟩, ext_own he fun _ _ => rfl⟩
    simp [RA.intro, introL, RepV, RepUs]
  · rename_i v
    simp only [Option.bind_eq_some_iff] at h
    obtain ⟨y, hv, hx⟩ := h
    obtain ⟨x, h0⟩ : ∃ x, fn.results.toList = [x] := by
      cases hq : fn.results.toList with
      | nil => rw [hq] at hm; simp [rvsM] at hm
      | cons x xs => cases xs with
        | nil => exact ⟨x, rfl⟩
        | cons x' xs => rw [hq] at hm; simp [rvsM] at hm
    rw [h0] at hm
    obtain ⟨u, hu, hrep⟩ := res_val (w := w) hr hm hv
    refine ⟨u, ?_, rx1_rep hr he hx hrep⟩
    have h1 : fn.results = #[x] := by
      apply Array.toList_inj.1
      simpa using h0
    cases x with
    | tmp t =>
      have : u = a.tmps.getD t undef := by simpa using hu.symm
      subst this
      exact results_tmp h1 _ _ _
    | cell b t =>
      dsimp only at hu
      simp [results, h1]
      simp at hu
      rw [hu]
  · cases h
end
end Go.Q

set_option linter.unusedVariables false
namespace Go.Q
section
variable {P : Program} {N : Nat} {F : Nat → Prop} {w : World}
theorem entry_rep {σ : Lab → Value} {F' : Nat → Prop} (hF : ∀ b, F b → F' b) : ∀ {as : List SA} {us : List Value} {i t : Nat} {x : AV}, ArgsR F w as us → lk (entry i as) t = some x → ∃ j, t = i + j ∧ ∃ u, us[j]? = some u ∧ RepV σ F' w x u
  | [], us, i, t, x, _, h => by simp [entry, lk] at h
  | s :: ss, us, i, t, x, ⟨u, r, e, hs, hr⟩, h => by
    subst e
    have tail : lk (entry (i + 1) ss) t = some x → ∃ j, t = i + j ∧ ∃ v, (u :: r)[j]? = some v ∧ RepV σ F' w x v := fun h => by
      obtain ⟨j, e, v, hv, hx⟩ := entry_rep hF hr h
      exact ⟨j + 1, by omega, v, by simpa using hv, hx⟩
    cases s with
    | v c y =>
      simp only [entry, lk] at h
      split at h
      · rename_i e
        cases h
        refine ⟨0, e.symm, u, rfl, ?_⟩
        exact RepV.keep (σ := fun _ => undef) (p := fun _ => true) (fun _ h => by cases h) (fun b hb => ⟨hF b hb, rfl⟩) rfl hs
      · exact tail h
    | fn f =>
      simp only [entry, lk] at h
      split at h
      · rename_i e
        cases h
        exact ⟨0, e.symm, u, rfl, RepV_fn0.2 hs⟩
      · exact tail h
    | io c y => exact hs.elim
theorem ArgsR.length : ∀ {as : List SA} {us : List Value}, ArgsR F w as us → us.length = as.length
  | [], _, h => by cases h; rfl
  | s :: ss, us, ⟨u, r, e, _, hr⟩ => by subst e; simp [hr.length]
theorem Sp.intro {S : FuncId → List SA → RA → Prop} (hS : ∀ f as r, S f as r → Sp P f as r) {f : FuncId} {fn : Func} {c : C} {vs : List RV} {as : List SA} {r : RA} (hfn : P.funcs[f]? = some fn) (hm : fnM P fn N c vs = true) (hn : Nat.ble as.length N = true)
    (h : vc S (Lq P N) c ⟨entry 0 as, []⟩ (Fin vs r)) : Sp P f as r := by
  intro F w us hF hA
  simp only [fnM, Bool.and_eq_true, beq_iff_eq] at hm
  obtain ⟨⟨hN, hb⟩, hv⟩ := hm
  cases hbody : fn.body with
  | none => rw [hbody] at hb; cases hb
  | some x =>
    rw [hbody] at hb
    have hlen := hA.length
    have hn' : as.length ≤ N := Nat.le_of_ble_eq_true hn
    refine calls_of_wp hfn hbody (wp_mono (snd_c hS (σ := fun _ => undef) (ow := fun _ => none) (G := fun b => F b ∨ w.heap.size ≤ b) hb ?_ h) fun e a' w' hq => ?_)
    · refine ⟨?_, rfl, fun t y hy => ?_, fun l q hq => (by simp [lo] at hq), fun b l hb => (by cases hb), fun b hb => .inr hb⟩
      · simp only [Array.size_append, List.size_toArray, Array.size_replicate, hN]
        omega
      · obtain ⟨j, e, u, hu, hx⟩ := entry_rep (F' := fz (fun b => F b ∨ w.heap.size ≤ b) (fun _ => none) w) (σ := fun _ => undef) (fun b hb => ⟨rfl, hF b hb, .inl hb⟩) hA hy
        have : t = j := by omega
        subst this
        have hlt : t < us.length := (List.getElem?_eq_some_iff.1 hu).1
        have e1 : (us.toArray ++ Array.replicate (fn.ntmps - us.toArray.size) undef).getD t undef = u := by
          rw [Array.getD_eq_getD_getElem?, Array.getElem?_append_left (by simpa using hlt)]
          simp [hu]
        rw [e1]
        exact hx
    · cases e with
      | normal =>
        obtain ⟨Γ', σ', ow', hk, hr, he⟩ := hq
        obtain ⟨u, hu, o2, h1, h2⟩ := res_rep hr he hv hk
        exact ⟨hr.defers, u, hu, u, o2, rfl, h1, h2⟩
      | ret =>
        obtain ⟨Γ', σ', ow', hk, hr, he⟩ := hq
        obtain ⟨u, hu, o2, h1, h2⟩ := res_rep hr he hv hk
        exact ⟨hr.defers, u, hu, u, o2, rfl, h1, h2⟩
      | exit id => obtain ⟨Γ', σ', ow', hk, _⟩ := hq; exact hk.elim
      | _ => exact hq.elim
end
end Go.Q
