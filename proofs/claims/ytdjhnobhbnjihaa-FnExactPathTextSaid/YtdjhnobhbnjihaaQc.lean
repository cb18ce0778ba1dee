/- Regions, code, loops and functions: for every program of the model. -/
import Derived.Test.YtdjhnobhbnjihaaQb
import Derived.Orders
import Derived.Control
set_option linter.unusedVariables false
set_option linter.unusedSimpArgs false
set_option linter.unusedVariables false
namespace Go.Q
/-- An instruction, against the operations of its region. -/
def I.gm (P : Program) (N : Nat) (ops : List Oper) : I → Oper → Bool
  | .g t b i, o => (match o.guard with
    | some (j, want) => want == b && ((ops[j]?).bind (·.dst)) == some t && i.dst == o.dst && (match i.dst with | some d => decide (d < N) | none => true) && i.m P N o
    | none => false)
  | i, o => o.guard.isNone && i.m P N o
def gms (P : Program) (N : Nat) (ops : List Oper) : List I → List Oper → Bool
  | [], [] => true
  | i :: is, o :: os => i.gm P N ops o && gms P N ops is os
  | _, _ => false
section
variable {S : FuncId → List SA → RA → Prop} {P : Program} {N : Nat} {G : Nat → Prop} {σ : Lab → Value} {ow : Own} {w : World} {a : Act} {Γ : Env} {K : Env → Prop} {Q : Exit → Act → World → Prop} {o : Oper}
theorem snd_i (hS : ∀ f as r, S f as r → Sp P f as r) (hr : Rep N G σ ow w a Γ) {i : I} (hm : i.m P N o = true) (hv : vi S i Γ K) : o.wp P a w (Post N G ow w K) Q := by
  cases i with
  | mv d x => exact snd_mv hr hm hv
  | nck d x => exact snd_nck hr hm hv
  | un d u x => exact snd_un hr hm hv
  | bi d b x y => exact snd_bi hr hm hv
  | be d b x y => exact snd_be hr hm hv
  | pk d c x y => exact snd_pk hr hm hv
  | fa d x n j off => exact snd_fa hr hm hv
  | ia d x y c => exact snd_ia hr hm hv
  | ld d x c => exact snd_ld hr hm hv
  | st x y c => exact snd_st hr hm hv
  | bx d x c => exact snd_bx hr hm hv
  | al d c => exact snd_al hr hm hv
  | ln d b x => exact snd_ln hr hm hv
  | mk d p c n => exact snd_mk hr hm hv
  | cv d f xs => exact snd_cv hS hr hm hv
  | ca d f xs => exact snd_ca hS hr hm hv
  | cf d x xs => exact snd_cf hS hr hm hv
  | mf d f xs => exact snd_mf hr hm hv
  | bs d dp c xs => exact snd_bs hr hm hv
  | bd d n ps => exact snd_bd hr hm hv
  | an d dp c x y => exact snd_an hr hm hv
  | ap d L dp c x y => exact snd_ap hr hm hv
  | ge d ne x y => exact snd_ge hr hm hv
  | ci d k x => exact snd_ci hr hm hv
  | cs d x => exact snd_cs hr hm hv
  | ix d x i => exact snd_ix hr hm hv
  | sx d x lo hi => exact snd_sx hr hm hv
  | sa d L x y => exact snd_sa hr hm hv
  | g t b i => simp [I.m] at hm
theorem Post.trans {ow' : Own} {w' : World} {K' : Env → Prop} {a' : Act} (he : Ext ow w ow' w') {b : Act} {v : World} (h : Post N G ow' w' K b v) : Post N G ow w K b v := by
  obtain ⟨Γ', σ', o', hk, hr, h2⟩ := h
  exact ⟨Γ', σ', o', hk, hr, he.trans h2⟩
theorem Rep.skip (hr : Rep N G σ ow w a Γ) {d : Option Nat} (hd : ∀ x, d = some x → x < N) : Rep N G σ ow w (a.put d undef) (Γ.skip d) := by
  cases d with
  | none => exact hr
  | some d => exact hr.put (hd d rfl) (by simp [RepV, RepU, AV.isS, RepC])
theorem yielded_of {ops : List Oper} {j t : Nat} (hj : ((ops[j]?).bind (·.dst)) = some t) (hr : Rep N G σ ow w a Γ) {x : Bool} (hx : lk Γ.tm t = some (.v .bool x)) (ht : t < N) : yielded ops.toArray a.tmps j = some x := by
  have h := hr.tm t _ hx
  have : a.tmps.getD t undef = .bool x := by
    simpa [RepV, RepU, AV.isS, RepC, Kx_bool] using h
  have hsz : t < a.tmps.size := hr.size ▸ ht
  simp only [yielded, List.getElem?_toArray, hj, Option.bind_some]
  simp only [Array.getD_eq_getD_getElem?, Array.getElem?_eq_getElem hsz, Option.getD_some] at this
  simp only [Array.getElem?_eq_getElem hsz, this]
/-- A value that the environment has is in the frame. -/
theorem lk_lt (hr : Rep N G σ ow w a Γ) {t : Nat} {x : Bool} (hx : lk Γ.tm t = some (.v .bool x)) : t < N := by
  have h := hr.tm t _ hx
  rcases Nat.lt_or_ge t N with h' | h'
  · exact h'
  · have e : a.tmps.getD t undef = undef := by
      simp [Array.getD_eq_getD_getElem?, Array.getElem?_eq_none (hr.size ▸ h')]
    rw [e] at h
    simp [RepV, RepU, AV.isS, RepC, Kx_bool, undef] at h
theorem Rep.same (hr : Rep N G σ ow w a Γ) {t : Nat} {x : AV} (hx : lk Γ.tm t = some x) : Rep N G σ ow w a ⟨(t, x) :: Γ.tm, Γ.ob⟩ :=
  ⟨hr.size, hr.defers, fun t' x' h => by
    simp only [lk] at h
    split at h
    · rename_i e
      subst e
      simp only [Option.some.injEq] at h
      subst h
      exact hr.tm _ _ hx
    · exact hr.tm _ _ h, hr.ob, hr.own, hr.top⟩
theorem snd_g (hS : ∀ f as r, S f as r → Sp P f as r) (hr : Rep N G σ ow w a Γ) {i : I} {ops : List Oper} (hm : i.gm P N ops o = true) (hv : vi S i Γ K) :
    if Region.wanted o (yielded ops.toArray a.tmps) then o.wp P a w (Post N G ow w K) Q else Post N G ow w K (a.put o.dst undef) w := by
  by_cases hg : ∃ t b i', i = .g t b i'
  · obtain ⟨t, b, i', rfl⟩ := hg
    simp only [I.gm] at hm
    split at hm
    · rename_i j want hgu
      simp only [Bool.and_eq_true, beq_iff_eq] at hm
      obtain ⟨⟨⟨⟨rfl, hj⟩, hd⟩, hlt⟩, hm⟩ := hm
      obtain ⟨av, hl, hv⟩ := need_iff hv
      split at hv
      · rename_i x
        have hy := yielded_of hj hr hl (lk_lt hr hl)
        have hs := hr.same hl
        simp only [Region.wanted, hgu, hy]
        by_cases hx : x = want
        · subst hx
          simp only [beq_self_eq_true, if_true]
          exact snd_i hS hs hm (hv.1 rfl)
        · have hx' : x = !want := by cases x <;> cases want <;> simp_all
          subst hx'
          have : (some (!want) == some want) = false := by cases want <;> rfl
          rw [this]
          simp only [Bool.false_eq_true, if_false]
          rw [← hd]
          refine ⟨_, σ, ow, hv.2 rfl, hs.skip fun x hx => ?_, Ext.refl ow w⟩
          simpa [hx] using hlt
      · exact hv.elim
    · cases hm
  · have hm' : (o.guard.isNone && i.m P N o) = true := by
      cases i <;> first | exact hm | (exfalso; exact hg ⟨_, _, _, rfl⟩)
    simp only [Bool.and_eq_true] at hm'
    have hgn : o.guard = none := by simpa using hm'.1
    simp only [Region.wanted, hgn, if_true]
    exact snd_i hS hr hm'.2 hv
theorem snd_is (hS : ∀ f as r, S f as r → Sp P f as r) {ops : List Oper} : ∀ {is : List I} {l : List Oper} {ow : Own} {w : World} {σ : Lab → Value} {a : Act} {Γ : Env}, gms P N ops is l = true → Rep N G σ ow w a Γ → vs S is Γ K →
    (∀ a' w', Post N G ow w K a' w' → Q .normal a' w') → wpList P ops.toArray Q l a w
  | [], [], ow, w, σ, a, Γ, _, hr, hv, hQ => hQ _ _ ⟨Γ, σ, ow, hv, hr, Ext.refl ow w⟩
  | [], _ :: _, _, _, _, _, _, hm, _, _, _ => by simp [gms] at hm
  | _ :: _, [], _, _, _, _, _, hm, _, _, _ => by simp [gms] at hm
  | i :: is, o :: os, ow, w, σ, a, Γ, hm, hr, hv, hQ => by
    simp only [gms, Bool.and_eq_true] at hm
    have h1 := snd_g (Q := Q) hS hr hm.1 hv
    have next : ∀ a' w', Post N G ow w (fun Γ' => vs S is Γ' K) a' w' → wpList P ops.toArray Q os a' w' := fun a' w' h => by
      obtain ⟨Γ', σ', ow', hk, hr', he⟩ := h
      exact snd_is hS hm.2 hr' hk fun a2 w2 h2 => hQ _ _ (Post.trans (a' := a2) (K' := K) he h2)
    refine wpList_step fun K' hK' => ?_
    split
    · rename_i hw
      rw [if_pos hw] at h1
      exact Oper.wp_mono (fun a' w' h => hK' _ _ (next a' w' h)) h1
    · rename_i hw
      rw [if_neg hw] at h1
      exact hK' _ _ (next _ _ h1)
end
end Go.Q

set_option linter.unusedVariables false
namespace Go.Q
def O.tm : O → List Nat
  | .t n => [n]
  | _ => []
/-- The temporaries that an instruction looks at. -/
def I.looks : I → List Nat
  | .mv _ o | .nck _ o | .un _ _ o | .fa _ o _ _ _ | .ld _ o _ | .bx _ o _ | .ln _ _ o | .mk _ _ _ o => o.tm
  | .bi _ _ x y | .be _ _ x y | .ia _ x y _ | .st x y _ => x.tm ++ y.tm
  | .pk _ c x y => c.tm ++ (x.tm ++ y.tm)
  | .al _ _ => []
  | .ca _ _ xs | .cv _ _ xs => xs.flatMap fun x => x.1.tm
  | .cf _ o xs => o.tm ++ xs.flatMap fun x => x.1.tm
  | .ci _ _ o | .cs _ o => o.tm
  | .ix _ x y | .sa _ _ x y => x.tm ++ y.tm
  | .sx _ x lo hi => x.tm ++ (lo.elim [] O.tm ++ hi.elim [] O.tm)
  | .mf _ _ xs | .bs _ _ _ xs => xs.flatMap O.tm
  | .bd _ _ ps => ps.flatMap fun x => x.2.2.tm
  | .an _ _ _ x y | .ap _ _ _ _ x y | .ge _ _ x y => x.tm ++ y.tm
  | .g t _ i => t :: i.looks
/-- It makes no object. -/
def I.rd : I → Bool
  | .mv _ _ | .nck _ _ | .un _ _ _ | .fa _ _ _ _ _ | .ld _ _ _ | .ln _ _ _ | .bi _ _ _ _ | .be _ _ _ _ | .ia _ _ _ _ | .pk _ _ _ _ | .cv _ _ _ | .mf _ _ _ | .bd _ _ _ | .ge _ _ _ _ | .ci _ _ _ | .cs _ _ | .ix _ _ _ | .sx _ _ _ _ | .bs _ _ _ [] => true
  | .g _ _ i => i.rd
  | _ => false
def I.rd0 : I → Bool
  | .mv _ _ | .nck _ _ | .un _ _ _ | .fa _ _ _ _ _ | .ld _ _ _ | .ln _ _ _ | .bi _ _ _ _ | .be _ _ _ _ | .ia _ _ _ _ | .pk _ _ _ _ | .cv _ _ _ | .mf _ _ _ | .bd _ _ _ | .ge _ _ _ _ | .ci _ _ _ | .cs _ _ | .ix _ _ _ | .sx _ _ _ _ | .bs _ _ _ [] => true
  | _ => false
/-- It makes an object, labelled by its temporary. -/
def I.cr : I → Bool
  | .al _ _ | .bx _ _ _ | .mk _ _ _ _ | .ca (some _) _ _ | .cf (some _) _ _ | .bs _ _ _ (_ :: _) | .an _ _ _ _ _ => true
  | _ => false
def Same (Γ' Γ : Env) : Prop := (∀ t, lk Γ'.tm t = lk Γ.tm t) ∧ ∀ l, lo Γ'.ob l = lo Γ.ob l
theorem Same.refl (Γ : Env) : Same Γ Γ := ⟨fun _ => rfl, fun _ => rfl⟩
theorem Same.trans {a b c : Env} (h : Same a b) (k : Same b c) : Same a c := ⟨fun t => (h.1 t).trans (k.1 t), fun l => (h.2 l).trans (k.2 l)⟩
theorem Same.symm {a b : Env} (h : Same a b) : Same b a := ⟨fun t => (h.1 t).symm, fun l => (h.2 l).symm⟩
theorem lk_put (Γ : Env) (d : Nat) (a : AV) (t : Nat) : lk (Γ.put d a).tm t = if d = t then some a else lk Γ.tm t := rfl
theorem Same_put {Γ : Env} {d : Nat} {a b : AV} : Same (Γ.put d a) (Γ.puto b (some d)) ↔ a = b := by
  constructor
  · intro h
    have := h.1 d
    simpa [Env.puto, lk_put] using this
  · rintro rfl; exact Same.refl _
theorem Same.puto {Γ Γ' : Env} (h : Same Γ' Γ) (a : AV) : ∀ d, Same (Γ'.puto a d) (Γ.puto a d)
  | none => h
  | some d => ⟨fun t => by simp only [Env.puto, lk_put, h.1 t], h.2⟩
theorem Same_again {Γ : Env} {t : Nat} {x : AV} (h : lk Γ.tm t = some x) : Same ⟨(t, x) :: Γ.tm, Γ.ob⟩ Γ := ⟨fun t' => by
  simp only [lk]; split
  · rename_i e; subst e; exact h.symm
  · rfl, fun _ => rfl⟩
theorem skip_puto (Γ : Env) (d : Option Nat) : Γ.skip d = Γ.puto .no d := by cases d <;> rfl
section
variable {S : FuncId → List SA → RA → Prop}
theorem vb_det {b : BinOp} {x y : AV} {f : AV → Prop} (h : vb b x y f) : ∃ r, vb b x y fun r' => r' = r ∧ f r' := by
  unfold vb at h ⊢
  split at h <;> first | exact h.elim | exact ⟨_, h.1, h.2.1, rfl, h.2.2⟩ | exact ⟨_, h.1, rfl, h.2⟩ | exact ⟨_, rfl, h⟩
theorem vb_imp {b : BinOp} {x y : AV} {f g : AV → Prop} (hfg : ∀ r, f r → g r) (h : vb b x y f) : vb b x y g := by
  unfold vb at h ⊢
  split at h <;> first | exact h.elim | exact ⟨h.1, h.2.1, hfg _ h.2.2⟩ | exact ⟨h.1, hfg _ h.2⟩ | exact hfg _ h
theorem need_mk {α : Type} {x : Option α} {y : α} {f : α → Prop} (h : x = some y) (k : f y) : need x f := by subst h; exact k
theorem vi_imp : ∀ {i : I} {Γ : Env} {K K' : Env → Prop}, (∀ Γ, K Γ → K' Γ) → i.rd = true → vi S i Γ K → vi S i Γ K' := by
  intro i
  induction i with
  | mv d o =>
    intro Γ K K' hk _ h
    obtain ⟨a, e, h⟩ := need_iff h; exact need_mk e (hk _ h)
  | nck d o =>
    intro Γ K K' hk _ h
    obtain ⟨a, e, h⟩ := need_iff h
    refine need_mk e ?_
    split at h
    · obtain ⟨y, e, h⟩ := h; exact ⟨y, e, hk _ h⟩
    · exact hk _ h
    · exact hk _ h
    · exact h.elim
  | un d u o =>
    intro Γ K K' hk _ h
    obtain ⟨a, e, h⟩ := need_iff h; obtain ⟨b, e2, h⟩ := need_iff h
    exact need_mk e (need_mk e2 (hk _ h))
  | bi d b x y =>
    intro Γ K K' hk _ h
    obtain ⟨a, e, h⟩ := need_iff h; obtain ⟨a', e2, h⟩ := need_iff h
    exact need_mk e (need_mk e2 (vb_imp (fun r h => hk _ h) h))
  | be d ne x y =>
    intro Γ K K' hk _ h
    obtain ⟨a, e, h⟩ := need_iff h
    refine need_mk e ?_
    split at h
    · obtain ⟨a', e2, h⟩ := need_iff h
      refine need_mk e2 ?_
      split at h
      · exact hk _ h
      · exact h.elim
    · exact h.elim
  | pk d c x y =>
    intro Γ K K' hk _ h
    obtain ⟨a, e, h⟩ := need_iff h
    refine need_mk e ?_
    split at h
    · refine ⟨fun hb => ?_, fun hb => ?_⟩
      · obtain ⟨a, e, h⟩ := need_iff (h.1 hb); exact need_mk e (hk _ h)
      · obtain ⟨a, e, h⟩ := need_iff (h.2 hb); exact need_mk e (hk _ h)
    · exact h.elim
  | fa d o n j off =>
    intro Γ K K' hk _ h
    obtain ⟨a, e, h⟩ := need_iff h
    refine need_mk e ?_
    split at h
    · obtain ⟨y, e, h⟩ := h
      obtain ⟨z, e2, h⟩ := need_iff h
      refine ⟨y, e, need_mk e2 ?_⟩
      split at h
      · exact ⟨h.1, hk _ h.2⟩
      · exact h.elim
    · exact hk _ h
    · exact hk _ h
    · exact h.elim
  | ia d o i c =>
    intro Γ K K' hk _ h
    obtain ⟨a, e, h⟩ := need_iff h; obtain ⟨a', e2, h⟩ := need_iff h
    refine need_mk e (need_mk e2 ?_)
    split at h
    · split at h
      · exact ⟨h.1, h.2.1, h.2.2.1, hk _ h.2.2.2⟩
      · obtain ⟨q, e3, h⟩ := need_iff h
        refine need_mk e3 ?_
        split at h
        · exact ⟨h.1, h.2.1, h.2.2.1, hk _ h.2.2.2⟩
        · exact h.elim
      · exact h.elim
    · exact h.elim
  | ld d o c =>
    intro Γ K K' hk _ h
    obtain ⟨a, e, h⟩ := need_iff h
    refine need_mk e ?_
    split at h
    · obtain ⟨y, h1, h2, h⟩ := h; exact ⟨y, h1, h2, hk _ h⟩
    · obtain ⟨q, e3, h⟩ := need_iff h
      refine need_mk e3 ?_
      split at h
      · split at h
        · exact ⟨h.1, hk _ h.2⟩
        · obtain ⟨a, h1, h2, h⟩ := h; exact ⟨a, h1, h2, hk _ h⟩
      · exact h.elim
    · obtain ⟨q, e3, h⟩ := need_iff h
      refine need_mk e3 ?_
      split at h
      · obtain ⟨h1, h2, h3, h4, h5, h⟩ := h; exact ⟨h1, h2, h3, h4, h5, hk _ h⟩
      · exact h.elim
    · exact h.elim
  | ln d st o =>
    cases st with
    | false =>
      intro Γ K K' hk _ h
      obtain ⟨a, e, h⟩ := need_iff h
      refine need_mk e ?_
      split at h
      · exact fun hl => hk _ (h hl)
      · obtain ⟨q, e3, h⟩ := need_iff h
        refine need_mk e3 ?_
        split at h
        · exact fun hl => hk _ (h hl)
        · exact h.elim
      · exact hk _ h
      · exact h.elim
    | true =>
      intro Γ K K' hk _ h
      obtain ⟨a, e, h⟩ := need_iff h
      refine need_mk e ?_
      split at h
      · exact fun hl => hk _ (h hl)
      · exact h.elim
  | cv d f xs =>
    intro Γ K K' hk _ h
    obtain ⟨a, e, r, hs, h⟩ := need_iff h
    refine need_mk e ⟨r, hs, ?_⟩
    split at h
    · exact ⟨h.1, hk _ h.2⟩
    · exact h.elim
  | mf d f xs =>
    intro Γ K K' hk _ h
    obtain ⟨a, e, h1, h⟩ := need_iff h
    exact need_mk e ⟨h1, hk _ h⟩
  | ge d ne x y =>
    intro Γ K K' hk _ h
    obtain ⟨a, e1, h⟩ := need_iff h
    obtain ⟨a', e2, h⟩ := need_iff h
    obtain ⟨m, e3, h⟩ := need_iff h
    obtain ⟨n, e4, h⟩ := need_iff h
    exact need_mk e1 (need_mk e2 (need_mk e3 (need_mk e4 (hk _ h))))
  | ci d k x =>
    intro Γ K K' hk _ h
    obtain ⟨a, e1, h⟩ := need_iff h
    refine need_mk e1 ?_
    split at h
    · exact hk _ h
    · exact h.elim
  | cs d x =>
    intro Γ K K' hk _ h
    obtain ⟨a, e1, h⟩ := need_iff h
    obtain ⟨xs, e2, h⟩ := need_iff h
    exact need_mk e1 (need_mk e2 (hk _ h))
  | ix d x i =>
    intro Γ K K' hk _ h
    obtain ⟨a, e1, h⟩ := need_iff h
    refine need_mk e1 ?_
    split at h
    · obtain ⟨b, e2, h⟩ := need_iff h
      refine need_mk e2 ?_
      split at h
      · exact ⟨h.1, h.2.1, hk _ h.2.2⟩
      · exact h.elim
    · exact h.elim
  | sx d x lo hi =>
    intro Γ K K' hk _ h
    obtain ⟨a, e1, h⟩ := need_iff h
    refine need_mk e1 ?_
    split at h
    · obtain ⟨b, e2, h⟩ := need_iff h
      obtain ⟨c, e3, h⟩ := need_iff h
      exact need_mk e2 (need_mk e3 ⟨h.1, h.2.1, h.2.2.1, hk _ h.2.2.2⟩)
    · exact h.elim
  | bd d n ps =>
    intro Γ K K' hk _ h
    obtain ⟨a, e, h⟩ := need_iff h
    exact need_mk e (hk _ h)
  | bs d dp c xs =>
    cases xs with
    | cons x xs => intros; rename_i hr _; cases hr
    | nil =>
    intro Γ K K' hk _ h
    exact hk _ h
  | g t b i ih =>
    intro Γ K K' hk hr h
    obtain ⟨a, e, h⟩ := need_iff h
    refine need_mk e ?_
    split at h
    · exact ⟨fun hb => ih hk hr (h.1 hb), fun hb => hk _ (h.2 hb)⟩
    · exact h.elim
  | _ => intros; rename_i hr _; cases hr
/-- What such an instruction computes is settled ahead of its run. -/
theorem vi_det : ∀ {i : I} {Γ : Env} {K : Env → Prop}, i.rd = true → vi S i Γ K → ∃ a, vi S i Γ fun Γ' => Same Γ' (Γ.puto a i.dst) ∧ K Γ' := by
  intro i
  induction i with
  | mv d o =>
    intro Γ K _ h
    obtain ⟨a, e, h⟩ := need_iff h; exact ⟨a, need_mk e ⟨Same_put.2 rfl, h⟩⟩
  | nck d o =>
    intro Γ K _ h
    obtain ⟨a, e, h⟩ := need_iff h
    split at h
    · obtain ⟨y, e', h⟩ := h; exact ⟨_, need_mk e ⟨y, e', Same_put.2 rfl, h⟩⟩
    · exact ⟨_, need_mk e ⟨Same_put.2 rfl, h⟩⟩
    · exact ⟨_, need_mk e ⟨Same_put.2 rfl, h⟩⟩
    · exact h.elim
  | un d u o =>
    intro Γ K _ h
    obtain ⟨a, e, h⟩ := need_iff h; obtain ⟨b, e2, h⟩ := need_iff h
    exact ⟨_, need_mk e (need_mk e2 ⟨Same_put.2 rfl, h⟩)⟩
  | bi d b x y =>
    intro Γ K _ h
    obtain ⟨a, e, h⟩ := need_iff h; obtain ⟨a', e2, h⟩ := need_iff h
    obtain ⟨r, h⟩ := vb_det h
    exact ⟨r, need_mk e (need_mk e2 (vb_imp (fun r' h => ⟨Same_put.2 h.1, h.2⟩) h))⟩
  | be d ne x y =>
    intro Γ K _ h
    obtain ⟨a, e, h⟩ := need_iff h
    split at h
    · obtain ⟨a', e2, h⟩ := need_iff h
      split at h
      · exact ⟨_, need_mk e (need_mk e2 ⟨Same_put.2 rfl, h⟩)⟩
      · exact h.elim
    · exact h.elim
  | pk d c x y =>
    intro Γ K _ h
    obtain ⟨a, e, h⟩ := need_iff h
    split at h
    · rename_i b
      cases b with
      | true =>
        obtain ⟨a', e2, h⟩ := need_iff (h.1 rfl)
        exact ⟨a', need_mk e ⟨fun _ => need_mk e2 ⟨Same_put.2 rfl, h⟩, fun hb => by cases hb⟩⟩
      | false =>
        obtain ⟨a', e2, h⟩ := need_iff (h.2 rfl)
        exact ⟨a', need_mk e ⟨fun hb => (by cases hb), fun _ => need_mk e2 ⟨Same_put.2 rfl, h⟩⟩⟩
    · exact h.elim
  | fa d o n j off =>
    intro Γ K _ h
    obtain ⟨a, e, h⟩ := need_iff h
    split at h
    · obtain ⟨y, e', h⟩ := h
      obtain ⟨z, e2, h⟩ := need_iff h
      split at h
      · exact ⟨_, need_mk e ⟨y, e', need_mk e2 ⟨h.1, Same_put.2 rfl, h.2⟩⟩⟩
      · exact h.elim
    · exact ⟨_, need_mk e ⟨Same_put.2 rfl, h⟩⟩
    · exact ⟨_, need_mk e ⟨Same_put.2 rfl, h⟩⟩
    · exact h.elim
  | ia d o i c =>
    intro Γ K _ h
    obtain ⟨a, e, h⟩ := need_iff h; obtain ⟨a', e2, h⟩ := need_iff h
    split at h
    · split at h
      · exact ⟨_, need_mk e (need_mk e2 ⟨h.1, h.2.1, h.2.2.1, Same_put.2 rfl, h.2.2.2⟩)⟩
      · obtain ⟨q, e3, h⟩ := need_iff h
        split at h
        · exact ⟨_, need_mk e (need_mk e2 (need_mk e3 ⟨h.1, h.2.1, h.2.2.1, Same_put.2 rfl, h.2.2.2⟩))⟩
        · exact h.elim
      · exact h.elim
    · exact h.elim
  | ld d o c =>
    intro Γ K _ h
    obtain ⟨a, e, h⟩ := need_iff h
    split at h
    · obtain ⟨y, h1, h2, h⟩ := h; exact ⟨_, need_mk e ⟨y, h1, h2, Same_put.2 rfl, h⟩⟩
    · obtain ⟨q, e3, h⟩ := need_iff h
      split at h
      · cases c with
        | struct n => exact ⟨_, need_mk e (need_mk e3 ⟨h.1, Same_put.2 rfl, h.2⟩)⟩
        | _ => obtain ⟨a, h1, h2, h⟩ := h; exact ⟨a, need_mk e (need_mk e3 ⟨a, h1, h2, Same_put.2 rfl, h⟩)⟩
      · exact h.elim
    · obtain ⟨q, e3, h⟩ := need_iff h
      split at h
      · obtain ⟨h1, h2, h3, h4, h5, h⟩ := h; exact ⟨_, need_mk e (need_mk e3 ⟨h1, h2, h3, h4, h5, Same_put.2 rfl, h⟩)⟩
      · exact h.elim
    · exact h.elim
  | ln d st o =>
    cases st with
    | false =>
      intro Γ K _ h
      obtain ⟨a, e, h⟩ := need_iff h
      split at h
      · exact ⟨_, need_mk e fun hl => ⟨Same_put.2 rfl, h hl⟩⟩
      · obtain ⟨q, e3, h⟩ := need_iff h
        split at h
        · exact ⟨_, need_mk e (need_mk e3 fun hl => ⟨Same_put.2 rfl, h hl⟩)⟩
        · exact h.elim
      · exact ⟨_, need_mk e ⟨Same_put.2 rfl, h⟩⟩
      · exact h.elim
    | true =>
      intro Γ K _ h
      obtain ⟨a, e, h⟩ := need_iff h
      split at h
      · exact ⟨_, need_mk e fun hl => ⟨Same_put.2 rfl, h hl⟩⟩
      · exact h.elim
  | cv d f xs =>
    intro Γ K _ h
    obtain ⟨a, e, r, hs, h⟩ := need_iff h
    split at h
    · rename_i c x
      exact ⟨.v c x, need_mk e ⟨_, hs, h.1, Same.refl _, h.2⟩⟩
    · exact h.elim
  | mf d f xs =>
    intro Γ K _ h
    obtain ⟨a, e, h1, h⟩ := need_iff h
    exact ⟨_, need_mk e ⟨h1, Same_put.2 rfl, h⟩⟩
  | ge d ne x y =>
    intro Γ K _ h
    obtain ⟨a, e1, h⟩ := need_iff h
    obtain ⟨a', e2, h⟩ := need_iff h
    obtain ⟨m, e3, h⟩ := need_iff h
    obtain ⟨n, e4, h⟩ := need_iff h
    exact ⟨_, need_mk e1 (need_mk e2 (need_mk e3 (need_mk e4 ⟨Same_put.2 rfl, h⟩)))⟩
  | ci d k x =>
    intro Γ K _ h
    obtain ⟨a, e1, h⟩ := need_iff h
    split at h
    · exact ⟨_, need_mk e1 ⟨Same_put.2 rfl, h⟩⟩
    · exact h.elim
  | cs d x =>
    intro Γ K _ h
    obtain ⟨a, e1, h⟩ := need_iff h
    obtain ⟨xs, e2, h⟩ := need_iff h
    exact ⟨_, need_mk e1 (need_mk e2 ⟨Same_put.2 rfl, h⟩)⟩
  | ix d x i =>
    intro Γ K _ h
    obtain ⟨a, e1, h⟩ := need_iff h
    split at h
    · obtain ⟨b, e2, h⟩ := need_iff h
      split at h
      · exact ⟨_, need_mk e1 (need_mk e2 ⟨h.1, h.2.1, Same_put.2 rfl, h.2.2⟩)⟩
      · exact h.elim
    · exact h.elim
  | sx d x lo hi =>
    intro Γ K _ h
    obtain ⟨a, e1, h⟩ := need_iff h
    split at h
    · obtain ⟨b, e2, h⟩ := need_iff h
      obtain ⟨c, e3, h⟩ := need_iff h
      exact ⟨_, need_mk e1 (need_mk e2 (need_mk e3 ⟨h.1, h.2.1, h.2.2.1, Same_put.2 rfl, h.2.2.2⟩))⟩
    · exact h.elim
  | bd d n ps =>
    intro Γ K _ h
    obtain ⟨a, e, h⟩ := need_iff h
    exact ⟨_, need_mk e ⟨Same_put.2 rfl, h⟩⟩
  | bs d dp c xs =>
    cases xs with
    | cons x xs => intros; rename_i hr _; cases hr
    | nil =>
    intro Γ K _ h
    exact ⟨.nl c, Same_put.2 rfl, h⟩
  | g t b i ih =>
    intro Γ K hr h
    obtain ⟨a, e, h⟩ := need_iff h
    split at h
    · rename_i x
      by_cases hx : x = b
      · subst hx
        obtain ⟨a, h'⟩ := ih hr (h.1 rfl)
        refine ⟨a, need_mk e ⟨fun _ => vi_imp (fun Γ' hh => ⟨hh.1.trans ((Same_again e).puto a _), hh.2⟩) hr h', fun hb => ?_⟩⟩
        cases x <;> cases hb
      · have hx' : x = !b := by cases x <;> cases b <;> simp_all
        subst hx'
        refine ⟨.no, need_mk e ⟨fun hb => absurd hb hx, fun _ => ⟨?_, h.2 rfl⟩⟩⟩
        rw [skip_puto]
        exact (Same_again e).puto _ _
    · exact h.elim
  | _ => intros; rename_i hr _; cases hr
end
end Go.Q

set_option linter.unusedVariables false
namespace Go.Q
theorem ev_same {Γ Γ2 : Env} {o : O} (h : ∀ t ∈ o.tm, lk Γ2.tm t = lk Γ.tm t) : ev Γ2 o = ev Γ o := by
  cases o with
  | t n => exact h n (by simp [O.tm])
  | _ => rfl
/-- The second state's objects agree with the first's, but for some labels, of which the first does not speak. -/
structure Agr (p : Lab → Bool) (Γ Γ2 : Env) (ts : List Nat) : Prop where
  tm : ∀ t ∈ ts, lk Γ2.tm t = lk Γ.tm t
  ob : ∀ l, p l = false → lo Γ2.ob l = lo Γ.ob l
  fr : ∀ t ∈ ts, ∀ x, lk Γ.tm t = some x → x.refs p = false
  bx : ∀ l ls, p l = false → lo Γ.ob l = some (.box ls) → refsL p ls = false
section
variable {p : Lab → Bool} {Γ Γ2 : Env} {ts : List Nat}
theorem Agr.sub {us : List Nat} (h : Agr p Γ Γ2 ts) (hs : ∀ t ∈ us, t ∈ ts) : Agr p Γ Γ2 us := ⟨fun t ht => h.tm t (hs t ht), h.ob, fun t ht => h.fr t (hs t ht), h.bx⟩
theorem Agr.ev {o : O} (h : Agr p Γ Γ2 ts) (hs : ∀ t ∈ o.tm, t ∈ ts) : ev Γ2 o = ev Γ o := ev_same fun t ht => h.tm t (hs t ht)
theorem Agr.evf {o : O} (h : Agr p Γ Γ2 ts) (hs : ∀ t ∈ o.tm, t ∈ ts) {x : AV} (he : Q.ev Γ o = some x) : x.refs p = false := by
  cases o with
  | t n => exact h.fr n (hs n (by simp [O.tm])) x he
  | _ => simp only [Q.ev, Option.some.injEq] at he; subst he; rfl
theorem pkL_agr (hob : ∀ l, p l = false → lo Γ2.ob l = lo Γ.ob l) {c : Ki} {x : AV} (hx : x.refs p = false) : pkL Γ2.ob c x = pkL Γ.ob c x := by
  cases c with
  | slice c =>
    cases x with
    | sl l => simp only [pkL]; rw [hob l (by simpa [AV.refs] using hx)]
    | _ => rfl
  | _ => rfl
theorem im_rest {ob : List (Lab × Ob)} : ∀ {f : Nat} {cs : List Ki} {ls : List AV} {h : HL cs} {rest : List AV}, im ob f cs ls = some (h, rest) → refsL p ls = false → refsL p rest = false
  | 0, _, _, _, _, e, _ => by simp [im] at e
  | _ + 1, [], _, _, _, e, hl => by simp only [im, Option.some.injEq, Prod.mk.injEq] at e; rw [← e.2]; exact hl
  | f + 1, .struct n :: cs, ls, h, rest, e, hl => by
    simp only [im, Option.bind_eq_some_iff, Option.map_eq_some_iff] at e
    obtain ⟨r, h1, q, h2, e⟩ := e
    cases e
    exact im_rest (f := f) (cs := cs) (h := q.1) h2 (im_rest (f := f) (cs := flds n) (h := r.1) h1 hl)
  | f + 1, .int k :: cs, a :: ls, h, rest, e, hl => by
    simp only [im, Option.bind_eq_some_iff, Option.map_eq_some_iff] at e
    obtain ⟨x, h1, q, h2, e⟩ := e
    cases e
    simp only [refsL, Bool.or_eq_false_iff] at hl
    exact im_rest (f := f) (cs := cs) (h := q.1) h2 hl.2
  | f + 1, .bool :: cs, a :: ls, h, rest, e, hl => by
    simp only [im, Option.bind_eq_some_iff, Option.map_eq_some_iff] at e
    obtain ⟨x, h1, q, h2, e⟩ := e
    cases e
    simp only [refsL, Bool.or_eq_false_iff] at hl
    exact im_rest (f := f) (cs := cs) (h := q.1) h2 hl.2
  | f + 1, .str :: cs, a :: ls, h, rest, e, hl => by
    simp only [im, Option.bind_eq_some_iff, Option.map_eq_some_iff] at e
    obtain ⟨x, h1, q, h2, e⟩ := e
    cases e
    simp only [refsL, Bool.or_eq_false_iff] at hl
    exact im_rest (f := f) (cs := cs) (h := q.1) h2 hl.2
  | f + 1, .slice c :: cs, a :: ls, h, rest, e, hl => by
    simp only [im, Option.bind_eq_some_iff, Option.map_eq_some_iff] at e
    obtain ⟨x, h1, q, h2, e⟩ := e
    cases e
    simp only [refsL, Bool.or_eq_false_iff] at hl
    exact im_rest (f := f) (cs := cs) (h := q.1) h2 hl.2
  | f + 1, .ptr c :: cs, a :: ls, h, rest, e, hl => by
    simp only [im, Option.bind_eq_some_iff, Option.map_eq_some_iff] at e
    obtain ⟨x, h1, q, h2, e⟩ := e
    cases e
    simp only [refsL, Bool.or_eq_false_iff] at hl
    exact im_rest (f := f) (cs := cs) (h := q.1) h2 hl.2
  | f + 1, .int k :: cs, [], _, _, e, _ | f + 1, .bool :: cs, [], _, _, e, _ | f + 1, .str :: cs, [], _, _, e, _ | f + 1, .slice c :: cs, [], _, _, e, _ | f + 1, .ptr c :: cs, [], _, _, e, _ => by simp [im] at e
theorem im_agr (hob : ∀ l, p l = false → lo Γ2.ob l = lo Γ.ob l) : ∀ {f : Nat} {cs : List Ki} {ls : List AV}, refsL p ls = false → im Γ2.ob f cs ls = im Γ.ob f cs ls
  | 0, _, _, _ => rfl
  | _ + 1, [], _, _ => rfl
  | f + 1, .struct n :: cs, ls, hl => by
    simp only [im]
    rw [im_agr hob (f := f) (cs := flds n) hl]
    cases hr : im Γ.ob f (flds n) ls with
    | none => rfl
    | some r => simp only [Option.bind_some]; rw [im_agr hob (f := f) (cs := cs) (im_rest (h := r.1) (rest := r.2) hr hl)]
  | f + 1, .int k :: cs, a :: ls, hl => by
    simp only [refsL, Bool.or_eq_false_iff] at hl
    simp only [im]; rw [pkL_agr hob hl.1, im_agr hob (f := f) (cs := cs) hl.2]
  | f + 1, .bool :: cs, a :: ls, hl => by
    simp only [refsL, Bool.or_eq_false_iff] at hl
    simp only [im]; rw [pkL_agr hob hl.1, im_agr hob (f := f) (cs := cs) hl.2]
  | f + 1, .str :: cs, a :: ls, hl => by
    simp only [refsL, Bool.or_eq_false_iff] at hl
    simp only [im]; rw [pkL_agr hob hl.1, im_agr hob (f := f) (cs := cs) hl.2]
  | f + 1, .slice c :: cs, a :: ls, hl => by
    simp only [refsL, Bool.or_eq_false_iff] at hl
    simp only [im]; rw [pkL_agr hob hl.1, im_agr hob (f := f) (cs := cs) hl.2]
  | f + 1, .ptr c :: cs, a :: ls, hl => by
    simp only [refsL, Bool.or_eq_false_iff] at hl
    simp only [im]; rw [pkL_agr hob hl.1, im_agr hob (f := f) (cs := cs) hl.2]
  | f + 1, .int k :: cs, [], _ | f + 1, .bool :: cs, [], _ | f + 1, .str :: cs, [], _ | f + 1, .slice c :: cs, [], _ | f + 1, .ptr c :: cs, [], _ => rfl
theorem refsL_drop : ∀ {ls : List AV} (n : Nat), refsL p ls = false → refsL p (ls.drop n) = false
  | [], n, h => by simp [refsL]
  | a :: ls, 0, h => h
  | a :: ls, n + 1, h => by
    simp only [refsL, Bool.or_eq_false_iff] at h
    exact refsL_drop n h.2
theorem pk_agr (h : Agr p Γ Γ2 ts) {c : Ki} {x : AV} (hx : x.refs p = false) : pk Γ2.ob c x = pk Γ.ob c x := by
  unfold pk
  split
  · rename_i n m ls
    simp only [imS]
    rw [im_agr h.ob (by simpa [AV.refs] using hx)]
  · rename_i c l off
    have hl : p l = false := by simpa [AV.refs] using hx
    rw [h.ob l hl]
    split
    · rename_i ls hlo
      rw [im_agr h.ob (refsL_drop off (h.bx l ls hl hlo))]
    · rfl
  · exact pkL_agr h.ob hx
theorem Agr.co {xs : List (O × Md)} (h : Agr p Γ Γ2 ts) (hs : ∀ t ∈ xs.flatMap (fun x => x.1.tm), t ∈ ts) : co Γ2 xs = co Γ xs ∧ coLab Γ2 xs = coLab Γ xs := by
  induction xs with
  | nil => exact ⟨rfl, rfl⟩
  | cons y r ih =>
    obtain ⟨o, m⟩ := y
    simp only [List.flatMap_cons, List.mem_append] at hs
    have hs1 : ∀ t ∈ o.tm, t ∈ ts := fun t ht => hs t (.inl ht)
    have h1 := h.ev hs1
    obtain ⟨h2, h3⟩ := ih fun t ht => hs t (.inr ht)
    constructor
    · cases m with
      | v c =>
        simp only [Q.co, h1, h2]
        cases he : Q.ev Γ o with
        | none => rfl
        | some x => simp only [Option.bind_some]; rw [pk_agr h (h.evf hs1 he)]
      | io c => rfl
      | fn => simp only [Q.co, h1, h2]
    · simp only [coLab, h1, h3]
theorem Agr.evs {xs : List O} (h : Agr p Γ Γ2 ts) (hs : ∀ t ∈ xs.flatMap O.tm, t ∈ ts) : evs Γ2 xs = evs Γ xs := by
  induction xs with
  | nil => rfl
  | cons o r ih =>
    simp only [List.flatMap_cons, List.mem_append] at hs
    simp only [Q.evs, h.ev fun t ht => hs t (.inl ht), ih fun t ht => hs t (.inr ht)]
theorem Agr.evsf {xs : List O} (h : Agr p Γ Γ2 ts) (hs : ∀ t ∈ xs.flatMap O.tm, t ∈ ts) {as : List AV} (he : Q.evs Γ xs = some as) : refsL p as = false := by
  induction xs generalizing as with
  | nil => cases he; rfl
  | cons o r ih =>
    simp only [List.flatMap_cons, List.mem_append] at hs
    simp only [Q.evs, Option.bind_eq_some_iff, Option.map_eq_some_iff] at he
    obtain ⟨x, e1, s, e2, rfl⟩ := he
    simp only [refsL, h.evf (fun t ht => hs t (.inl ht)) e1, ih (fun t ht => hs t (.inr ht)) e2, Bool.or_false]
theorem Agr.evp {xs : List (Nat × Nat × O)} (h : Agr p Γ Γ2 ts) (hs : ∀ t ∈ xs.flatMap (fun x => x.2.2.tm), t ∈ ts) : evp Γ2 xs = evp Γ xs := by
  induction xs with
  | nil => rfl
  | cons y r ih =>
    obtain ⟨off, sz, o⟩ := y
    simp only [List.flatMap_cons, List.mem_append] at hs
    simp only [Q.evp, h.ev fun t ht => hs t (.inl ht), ih fun t ht => hs t (.inr ht)]
theorem pks_agr (h : Agr p Γ Γ2 ts) {c : Ki} : ∀ {as : List AV}, refsL p as = false → pks Γ2.ob c as = pks Γ.ob c as
  | [], _ => rfl
  | a :: as, hr => by
    simp only [refsL, Bool.or_eq_false_iff] at hr
    simp only [pks]; rw [pk_agr h hr.1, pks_agr h hr.2]
theorem shr_agr (h : Agr p Γ Γ2 ts) {c : Ki} {x : AV} (hx : x.refs p = false) : shr Γ2.ob c x = shr Γ.ob c x := by
  unfold shr
  cases x with
  | sl l => simp only; rw [h.ob l (by simpa [AV.refs] using hx)]
  | _ => rfl
end
section
variable {S : FuncId → List SA → RA → Prop}
/-- Such an instruction looks at its operands alone. -/
theorem vi_frame0 {p : Lab → Bool} : ∀ {i : I} {Γ Γ2 : Env} {a : AV}, i.rd0 = true → Agr p Γ Γ2 i.looks →
    vi S i Γ (fun Γ' => Same Γ' (Γ.puto a i.dst)) → vi S i Γ2 (fun Γ' => Same Γ' (Γ2.puto a i.dst)) := by
  intro i
  cases i with
  | mv d o =>
    intro Γ Γ2 a _ hA h
    have e := hA.ev (o := o) fun t ht => ht
    simp only [vi, I.dst, Same_put] at h ⊢; rw [e]; exact h
  | nck d o =>
    intro Γ Γ2 a _ hA h
    have e := hA.ev (o := o) fun t ht => ht
    simp only [vi, I.dst, Same_put] at h ⊢; rw [e]; exact h
  | un d u o =>
    intro Γ Γ2 a _ hA h
    have e := hA.ev (o := o) fun t ht => ht
    simp only [vi, I.dst, Same_put] at h ⊢; rw [e]; exact h
  | bi d b x y =>
    intro Γ Γ2 a _ hA h
    have e := hA.ev (o := x) fun t ht => by simp [I.looks, ht]
    have e2 := hA.ev (o := y) fun t ht => by simp [I.looks, ht]
    simp only [vi, I.dst, Same_put] at h ⊢; rw [e, e2]; exact h
  | be d ne x y =>
    intro Γ Γ2 a _ hA h
    have e := hA.ev (o := x) fun t ht => by simp [I.looks, ht]
    have e2 := hA.ev (o := y) fun t ht => by simp [I.looks, ht]
    simp only [vi, I.dst, Same_put] at h ⊢; rw [e, e2]; exact h
  | pk d c x y =>
    intro Γ Γ2 a _ hA h
    have e := hA.ev (o := c) fun t ht => by simp [I.looks, ht]
    have e2 := hA.ev (o := x) fun t ht => by simp [I.looks, ht]
    have e3 := hA.ev (o := y) fun t ht => by simp [I.looks, ht]
    simp only [vi, I.dst, Same_put] at h ⊢; rw [e, e2, e3]; exact h
  | fa d o n j off =>
    intro Γ Γ2 a _ hA h
    have e := hA.ev (o := o) fun t ht => ht
    simp only [vi, I.dst, Same_put] at h ⊢; rw [e]; exact h
  | ia d o i c =>
    intro Γ Γ2 a _ hA h
    have e := hA.ev (o := o) fun t ht => by simp [I.looks, ht]
    have e2 := hA.ev (o := i) fun t ht => by simp [I.looks, ht]
    simp only [vi, I.dst, Same_put] at h ⊢; rw [e, e2]
    obtain ⟨x, ex, h⟩ := need_iff h
    refine need_mk ex ?_
    have hf := hA.evf (o := o) (fun t ht => by simp [I.looks, ht]) ex
    cases x with
    | sl l => have hq := hA.ob l (by simpa [AV.refs] using hf); simp only [hq]; exact h
    | v c' xs => cases c' <;> exact h
    | _ => exact h
  | ld d o c =>
    intro Γ Γ2 a _ hA h
    have e := hA.ev (o := o) fun t ht => ht
    simp only [vi, I.dst, Same_put] at h ⊢; rw [e]
    obtain ⟨x, ex, h⟩ := need_iff h
    refine need_mk ex ?_
    have hf := hA.evf (o := o) (fun t ht => ht) ex
    cases x with
    | pt l off => simp only at h ⊢; rw [hA.ob l (by simpa [AV.refs] using hf)]; exact h
    | ep l c i off =>
      cases off with
      | zero => simp only at h ⊢; rw [hA.ob l (by simpa [AV.refs] using hf)]; exact h
      | succ n => exact h
    | v c' xs => cases c' <;> exact h
    | _ => exact h
  | ln d st o =>
    cases st with
    | false =>
      intro Γ Γ2 a _ hA h
      have e := hA.ev (o := o) fun t ht => ht
      simp only [vi, I.dst, Same_put] at h ⊢; rw [e]
      obtain ⟨x, ex, h⟩ := need_iff h
      refine need_mk ex ?_
      have hf := hA.evf (o := o) (fun t ht => ht) ex
      cases x with
      | sl l => simp only at h ⊢; rw [hA.ob l (by simpa [AV.refs] using hf)]; exact h
      | v c' xs => cases c' <;> exact h
      | _ => exact h
    | true =>
      intro Γ Γ2 a _ hA h
      have e := hA.ev (o := o) fun t ht => ht
      simp only [vi, I.dst, Same_put] at h ⊢; rw [e]; exact h
  | cv d f xs =>
    intro Γ Γ2 a _ hA h
    obtain ⟨e, e2⟩ := hA.co (xs := xs) fun t ht => ht
    simp only [vi, I.dst] at h ⊢
    rw [e, e2]
    obtain ⟨as, ea, r, hs, h⟩ := need_iff h
    refine need_mk ea ⟨r, hs, ?_⟩
    split at h
    · refine ⟨h.1, ?_⟩
      cases d with
      | none => exact Same.refl _
      | some d => exact Same_put.2 (Same_put.1 h.2)
    · exact h.elim
  | mf d f xs =>
    intro Γ Γ2 a _ hA h
    have e := hA.evs (xs := xs) fun t ht => ht
    simp only [vi, I.dst, Same_put] at h ⊢; rw [e]; exact h
  | ge d ne x y =>
    intro Γ Γ2 a _ hA h
    have e1 := hA.ev (o := x) fun t ht => by simp [I.looks, ht]
    have e2 := hA.ev (o := y) fun t ht => by simp [I.looks, ht]
    simp only [vi, I.dst, Same_put] at h ⊢; rw [e1, e2]
    obtain ⟨u, eu, h⟩ := need_iff h
    obtain ⟨v, ev', h⟩ := need_iff h
    refine need_mk eu (need_mk ev' ?_)
    rw [pk_agr hA (hA.evf (o := x) (fun t ht => by simp [I.looks, ht]) eu), pk_agr hA (hA.evf (o := y) (fun t ht => by simp [I.looks, ht]) ev')]
    exact h
  | ci d k x =>
    intro Γ Γ2 a _ hA h
    have e := hA.ev (o := x) fun t ht => ht
    simp only [vi, I.dst, Same_put] at h ⊢; rw [e]; exact h
  | cs d x =>
    intro Γ Γ2 a _ hA h
    have e1 := hA.ev (o := x) fun t ht => ht
    simp only [vi, I.dst, Same_put] at h ⊢; rw [e1]
    obtain ⟨u, eu, h⟩ := need_iff h
    refine need_mk eu ?_
    rw [pk_agr hA (hA.evf (o := x) (fun t ht => ht) eu)]
    exact h
  | ix d x i =>
    intro Γ Γ2 a _ hA h
    have e := hA.ev (o := x) fun t ht => by simp [I.looks, ht]
    have e2 := hA.ev (o := i) fun t ht => by simp [I.looks, ht]
    simp only [vi, I.dst, Same_put] at h ⊢; rw [e, e2]; exact h
  | sx d x lo hi =>
    intro Γ Γ2 a _ hA h
    have e := hA.ev (o := x) fun t ht => by simp [I.looks, ht]
    have e2 : ∀ z, evo Γ2 lo z = evo Γ lo z := by
      intro z
      cases lo with
      | none => rfl
      | some lo => simp only [evo]; rw [hA.ev (o := lo) fun t ht => by simp [I.looks, ht]]
    have e3 : ∀ z, evo Γ2 hi z = evo Γ hi z := by
      intro z
      cases hi with
      | none => rfl
      | some hi => simp only [evo]; rw [hA.ev (o := hi) fun t ht => by simp [I.looks, ht]]
    simp only [vi, I.dst, Same_put, e2, e3] at h ⊢; rw [e]; exact h
  | bd d n xs =>
    intro Γ Γ2 a _ hA h
    have e := hA.evp (xs := xs) fun t ht => ht
    simp only [vi, I.dst, Same_put] at h ⊢; rw [e]; exact h
  | bs d dp c xs =>
    cases xs with
    | cons x xs => intros; rename_i hr _ _; cases hr
    | nil =>
    intro Γ Γ2 a _ hA h
    simp only [vi, I.dst, Same_put] at h ⊢; exact h
  | _ => intros; rename_i hr _ _; cases hr
theorem vi_frame {p : Lab → Bool} : ∀ {i : I} {Γ Γ2 : Env} {a : AV}, i.rd = true → Agr p Γ Γ2 i.looks →
    vi S i Γ (fun Γ' => Same Γ' (Γ.puto a i.dst)) → vi S i Γ2 (fun Γ' => Same Γ' (Γ2.puto a i.dst)) := by
  intro i
  induction i with
  | g t b i vi_frame =>
    intro Γ Γ2 a hr hA h
    obtain ⟨x, e, h⟩ := need_iff h
    have e2 : lk Γ2.tm t = some x := (hA.tm t (by simp [I.looks])).trans e
    refine need_mk e2 ?_
    split at h
    · rename_i x
      have key : vi S i Γ (fun Γ' => Same Γ' (Γ.puto a i.dst)) → vi S i Γ2 fun Γ' => Same Γ' (Γ2.puto a i.dst) := vi_frame hr (hA.sub fun t ht => by simp [I.looks, ht])
      refine ⟨fun hb => ?_, fun hb => ?_⟩
      · subst hb
        refine vi_frame (Γ := ⟨(t, .v .bool x) :: Γ.tm, Γ.ob⟩) (Γ2 := ⟨(t, .v .bool x) :: Γ2.tm, Γ2.ob⟩) hr ⟨fun t' ht => ?_, hA.ob, fun t' ht x' hx' => ?_, hA.bx⟩ (vi_imp (fun Γ' hh => hh.trans ((Same_again e).symm.puto a _)) hr (h.1 rfl)) |> vi_imp (fun Γ' hh => hh.trans ((Same_again e2).puto a _)) hr
        · simp only [lk]
          split
          · rfl
          · exact hA.tm t' (by simp [I.looks, ht])
        · simp only [lk] at hx'
          split at hx'
          · cases hx'; rfl
          · exact hA.fr t' (by simp [I.looks, ht]) x' hx'
      · subst hb
        have h2 := h.2 rfl
        rw [skip_puto] at h2 ⊢
        have h3 : Same ((⟨(t, .v .bool (!b)) :: Γ.tm, Γ.ob⟩ : Env).puto .no i.dst) (Γ.puto a i.dst) := h2
        refine ((Same_again e2).puto .no i.dst).trans ?_
        have h4 := ((Same_again e).puto .no i.dst).symm.trans h3
        show Same (Γ2.puto .no i.dst) (Γ2.puto a i.dst)
        cases hd : i.dst with
        | none => exact Same.refl _
        | some d =>
          rw [hd] at h4
          have h5 := h4.1 d
          simp only [Env.puto, lk_put, if_true, Option.some.injEq] at h5
          subst h5
          exact Same.refl _
    · exact h.elim
  | mv d o => exact fun h => vi_frame0 rfl
  | nck d o => exact fun h => vi_frame0 rfl
  | un d u o => exact fun h => vi_frame0 rfl
  | bi d b x y => exact fun h => vi_frame0 rfl
  | be d b x y => exact fun h => vi_frame0 rfl
  | pk d c x y => exact fun h => vi_frame0 rfl
  | fa d o n j off => exact fun h => vi_frame0 rfl
  | ia d o i c => exact fun h => vi_frame0 rfl
  | ld d o c => exact fun h => vi_frame0 rfl
  | ln d b o => exact fun h => vi_frame0 rfl
  | cv d f xs => exact fun h => vi_frame0 rfl
  | mf d f xs => exact fun h => vi_frame0 rfl
  | bd d n xs => exact fun h => vi_frame0 rfl
  | ge d ne x y => exact fun h => vi_frame0 rfl
  | ci d k x => exact fun h => vi_frame0 rfl
  | cs d x => exact fun h => vi_frame0 rfl
  | ix d x y => exact fun h => vi_frame0 rfl
  | sx d x lo hi => exact fun h => vi_frame0 rfl
  | bs d dp c xs =>
    cases xs with
    | nil => exact fun h => vi_frame0 rfl
    | cons x xs => intro _ _ _ h; cases h
  | _ => intro _ _ _ h; cases h
/-! ### what makes an object -/
def Env.adds (Γ : Env) (x : AV) (obs : List (Lab × Ob)) : Option Nat → Env
  | some d => ⟨(d, x) :: Γ.tm, obs ++ Γ.ob⟩
  | none => Γ
def Env.made (Γ : Env) (d : Nat) (x : AV) (obs : List (Lab × Ob)) : Env := ⟨(d, x) :: killT (hd d) Γ.tm, obs ++ killO (hd d) Γ.ob⟩
theorem lo_append (l : Lab) : ∀ (a b : List (Lab × Ob)), lo (a ++ b) l = (match lo a l with | some o => some o | none => lo b l)
  | [], b => rfl
  | (k, o) :: a, b => by
    simp only [List.cons_append, lo]
    split
    · rfl
    · exact lo_append l a b
theorem kill_id {p : Lab → Bool} {x : AV} (h : x.refs p = false) : x.kill p = x := by simp [AV.kill, h]
theorem killL_id {p : Lab → Bool} : ∀ {ls : List AV}, refsL p ls = false → killL p ls = ls
  | [], _ => rfl
  | a :: ls, h => by
    simp only [refsL, Bool.or_eq_false_iff] at h
    simp only [killL, kill_id h.1, killL_id h.2]
theorem Free.same {p : Lab → Bool} {Γ : Env} (h : Free p Γ) : Same (Γ.kill p) Γ := by
  refine ⟨fun t => ?_, fun l => ?_⟩
  · simp only [Env.kill, lk_killT]
    cases hx : lk Γ.tm t with
    | none => rfl
    | some x => simp only [Option.map_some]; rw [kill_id (h.tm t x hx)]
  · simp only [Env.kill]
    cases hx : lo Γ.ob l with
    | none =>
      by_cases hp : p l = true
      · rw [lo_killO_none p _ _ hp]
      · rw [lo_killO p _ _ (by simpa using hp), hx]; rfl
    | some x =>
      obtain ⟨h1, h2⟩ := h.ob l x hx
      rw [lo_killO p _ _ h1, hx]
      cases x with
      | box ls => simp only [Option.map_some, Ob.kill]; rw [killL_id (h2 ls rfl)]
      | row _ _ _ _ => rfl
theorem Same.adds {Γ Γ' : Env} (h : Same Γ' Γ) (x : AV) (obs : List (Lab × Ob)) (d : Option Nat) : Same (Γ'.adds x obs d) (Γ.adds x obs d) := by
  cases d with
  | none => exact h
  | some d =>
    refine ⟨fun t => ?_, fun l => ?_⟩
    · simp only [Env.adds, lk, h.1 t]
    · simp only [Env.adds, lo_append, h.2 l]
theorem made_same {Γ : Env} {d : Nat} (h : Free (hd d) Γ) (x : AV) (obs : List (Lab × Ob)) : Same (Γ.made d x obs) (Γ.adds x obs (some d)) := h.same.adds x obs (some d)
theorem adds_nil (Γ : Env) (x : AV) (d : Option Nat) : Γ.adds x [] d = Γ.puto x d := by cases d <;> rfl
theorem Agr.kill {p : Lab → Bool} {Γ Γ2 : Env} {ts : List Nat} (h : Agr p Γ Γ2 ts) (q : Lab → Bool) : Agr p (Γ.kill q) (Γ2.kill q) ts := by
  refine ⟨fun t ht => ?_, fun l hl => ?_, fun t ht x hx => ?_, fun l ls hl ho => ?_⟩
  · simp only [Env.kill, lk_killT, h.tm t ht]
  · simp only [Env.kill]
    by_cases hq : q l = true
    · rw [lo_killO_none q _ _ hq, lo_killO_none q _ _ hq]
    · rw [lo_killO q _ _ (by simpa using hq), lo_killO q _ _ (by simpa using hq), h.ob l hl]
  · simp only [Env.kill, lk_killT, Option.map_eq_some_iff] at hx
    obtain ⟨y, hy, rfl⟩ := hx
    have := h.fr t ht y hy
    unfold AV.kill
    split
    · rfl
    · exact this
  · simp only [Env.kill] at ho
    by_cases hq : q l = true
    · rw [lo_killO_none q _ _ hq] at ho; cases ho
    · rw [lo_killO q _ _ (by simpa using hq)] at ho
      simp only [Option.map_eq_some_iff] at ho
      obtain ⟨y, hy, e⟩ := ho
      cases y with
      | row _ _ _ _ => simp [Ob.kill] at e
      | box ls' =>
        simp only [Ob.kill, Ob.box.injEq] at e
        subst e
        have h1 := h.bx l ls' hl hy
        clear hy
        induction ls' with
        | nil => rfl
        | cons a as ih =>
          simp only [refsL, Bool.or_eq_false_iff] at h1
          simp only [killL, refsL, ih h1.2, Bool.or_false]
          unfold AV.kill
          split
          · rfl
          · exact h1.1
/-- What such an instruction makes. -/
def Prd (S : FuncId → List SA → RA → Prop) : I → Env → AV → List (Lab × Ob) → Prop
  | .al d c, Γ, x, obs => x = .pt [d] 0 ∧ obs = [([d], .box (zA c))]
  | .bx d o c, Γ, x, obs => ∃ a, ev (Γ.kill (hd d)) o = some a ∧ a.stor = true ∧ x = .pt [d] 0 ∧ obs = [([d], .box (cellsOf a))]
  | .mk d dp c n, Γ, x, obs => ∃ k m, ev Γ n = some (.v (.int k) (m : Int)) ∧ 0 ≤ m ∧ m ≤ 2147483647 ∧ nop 99 [c] = true ∧ x = .sl [d] ∧ obs = [([d], .row dp false c (List.replicate m.toNat c.z))]
  | .ca (some d) f xs, Γ, x, obs => ∃ as r, co Γ xs = some as ∧ S f as r ∧ (coLab Γ xs = false ∨ r.safe = true) ∧ x = (r.intro [d]).1 ∧ obs = (r.intro [d]).2
  | .cf (some d) o xs, Γ, x, obs => ∃ f as r, (ev Γ o).bind fnS = some f ∧ co Γ xs = some as ∧ S f.1 (as ++ capA f.2) r ∧ (coLab Γ xs = false ∨ r.safe = true) ∧ x = (r.intro [d]).1 ∧ obs = (r.intro [d]).2
  | .bs d dp c (y :: ys), Γ, x, obs => ∃ as zs, evs (Γ.kill (hd d)) (y :: ys) = some as ∧ pks (Γ.kill (hd d)).ob c as = some zs ∧ ((!dp || c.nref) && !refsL (fun _ => true) as) = true ∧ x = .sl [d] ∧ obs = [([d], .row dp false c zs)]
  | .an d dp c o y, Γ, x, obs => ∃ c' a zs, ev (Γ.kill (hd d)) o = some (.nl c') ∧ ev (Γ.kill (hd d)) y = some a ∧ pk (Γ.kill (hd d)).ob (.slice c) a = some zs ∧ ((!dp || c.nref) && shr (Γ.kill (hd d)).ob c a) = true ∧ List.length zs ≤ 33554432 ∧ x = .sl [d] ∧ obs = [([d], .row dp false c zs)]
  | _, _, _, _ => False
theorem intro_heads {d : Nat} {r : RA} {l : Lab} {o : Ob} (h : lo (r.intro [d]).2 l = some o) : hd d l = true := by
  rw [(intro_pre d [] r).2] at h
  obtain ⟨l', o', rfl, _⟩ := lo_preO _ _ _ h
  simp [hd]
theorem one_heads {d : Nat} {q : Ob} {l : Lab} {o : Ob} (h : lo [([d], q)] l = some o) : hd d l = true := by
  simp only [lo] at h
  split at h
  · rename_i e; subst e; simp [hd]
  · cases h
theorem vi_prd {i : I} {Γ : Env} {K : Env → Prop} (hc : i.cr = true) (h : vi S i Γ K) : ∃ d x obs, i.dst = some d ∧ Prd S i Γ x obs ∧ (∀ l o, lo obs l = some o → hd d l = true) ∧ K (Γ.made d x obs) := by
  cases i with
  | al d c => exact ⟨d, _, _, rfl, ⟨rfl, rfl⟩, fun l o => one_heads, h⟩
  | bx d o c =>
    obtain ⟨a, e, hs, h⟩ := need_iff h
    exact ⟨d, _, _, rfl, ⟨a, e, hs, rfl, rfl⟩, fun l o => one_heads, h⟩
  | mk d dp c n =>
    obtain ⟨a, e, h⟩ := need_iff h
    split at h
    · rename_i k m
      obtain ⟨h0, h1, h2, h⟩ := h
      exact ⟨d, _, _, rfl, ⟨k, m, e, h0, h1, h2, rfl, rfl⟩, fun l o => one_heads, h⟩
    · exact h.elim
  | ca d f xs =>
    cases d with
    | none => cases hc
    | some d =>
      obtain ⟨as, e, r, hs, hsf, h⟩ := need_iff h
      exact ⟨d, _, _, rfl, ⟨as, r, e, hs, hsf, rfl, rfl⟩, fun l o => intro_heads, h⟩
  | cf d y xs =>
    cases d with
    | none => cases hc
    | some d =>
      obtain ⟨f, e1, h⟩ := need_iff h
      obtain ⟨as, e, r, hs, hsf, h⟩ := need_iff h
      exact ⟨d, _, _, rfl, ⟨f, as, r, e1, e, hs, hsf, rfl, rfl⟩, fun l o => intro_heads, h⟩
  | bs d dp c xs =>
    cases xs with
    | nil => cases hc
    | cons x xs =>
      simp only [vi] at h
      obtain ⟨as, e1, h⟩ := need_iff h
      obtain ⟨zs, e2, h1, h⟩ := need_iff h
      exact ⟨d, _, _, rfl, ⟨as, zs, e1, e2, h1, rfl, rfl⟩, fun l o => one_heads, h⟩
  | an d dp c o y =>
    simp only [vi] at h
    obtain ⟨a, e1, h⟩ := need_iff h
    split at h
    · rename_i c'
      obtain ⟨b, e2, h⟩ := need_iff h
      obtain ⟨zs, e3, h1, h2, h⟩ := need_iff h
      exact ⟨d, _, _, rfl, ⟨c', b, zs, e1, e2, e3, h1, h2, rfl, rfl⟩, fun l o => one_heads, h⟩
    · exact h.elim
  | _ => cases hc
theorem prd_vi {i : I} {Γ : Env} {K : Env → Prop} {d : Nat} {x : AV} {obs : List (Lab × Ob)} (hd' : i.dst = some d) (hp : Prd S i Γ x obs) (h : K (Γ.made d x obs)) : vi S i Γ K := by
  cases i with
  | al e c => cases hd'; obtain ⟨rfl, rfl⟩ := hp; exact h
  | bx e o c => cases hd'; obtain ⟨a, e, hs, rfl, rfl⟩ := hp; exact need_mk e ⟨hs, h⟩
  | mk e dp c n => cases hd'; obtain ⟨k, m, e, h0, h1, h2, rfl, rfl⟩ := hp; exact need_mk e ⟨h0, h1, h2, h⟩
  | ca e f xs => cases hd'; obtain ⟨as, r, e, hs, hsf, rfl, rfl⟩ := hp; exact need_mk e ⟨r, hs, hsf, h⟩
  | cf e y xs => cases hd'; obtain ⟨f, as, r, e1, e, hs, hsf, rfl, rfl⟩ := hp; exact need_mk e1 (need_mk e ⟨r, hs, hsf, h⟩)
  | bs e dp c xs =>
    cases hd'
    cases xs with
    | nil => exact hp.elim
    | cons y ys => obtain ⟨as, zs, e1, e2, h1, rfl, rfl⟩ := hp; exact need_mk e1 (need_mk e2 ⟨h1, h⟩)
  | an e dp c o y => cases hd'; obtain ⟨c', b, zs, e1, e2, e3, h1, h2, rfl, rfl⟩ := hp; exact need_mk e1 (need_mk e2 (need_mk e3 ⟨h1, h2, h⟩))
  | _ => exact hp.elim
theorem prd_frame {p : Lab → Bool} {i : I} {Γ Γ2 : Env} {x : AV} {obs : List (Lab × Ob)} (hA : Agr p Γ Γ2 i.looks) (hp : Prd S i Γ x obs) : Prd S i Γ2 x obs := by
  cases i with
  | al e c => exact hp
  | bx e o c =>
    obtain ⟨a, h, r⟩ := hp
    exact ⟨a, ((hA.kill (hd e)).ev fun t ht => ht).trans h, r⟩
  | mk e dp c n =>
    obtain ⟨k, m, h, r⟩ := hp
    exact ⟨k, m, (hA.ev fun t ht => ht).trans h, r⟩
  | ca e f xs =>
    cases e with
    | none => exact hp.elim
    | some e =>
      obtain ⟨as, r, h, hs, hsf, r'⟩ := hp
      obtain ⟨e1, e2⟩ := hA.co (xs := xs) fun t ht => ht
      exact ⟨as, r, e1.trans h, hs, by rw [e2]; exact hsf, r'⟩
  | cf e y xs =>
    cases e with
    | none => exact hp.elim
    | some e =>
      obtain ⟨f, as, r, h0, h, hs, hsf, r'⟩ := hp
      obtain ⟨e1, e2⟩ := hA.co (xs := xs) fun t ht => List.mem_append_right _ ht
      exact ⟨f, as, r, by rw [hA.ev fun t ht => List.mem_append_left _ ht]; exact h0, e1.trans h, hs, by rw [e2]; exact hsf, r'⟩
  | bs e dp c xs =>
    cases xs with
    | nil => exact hp.elim
    | cons y ys =>
      obtain ⟨as, zs, e1, e2, h1, r⟩ := hp
      have hA' := hA.kill (hd e)
      have hf := hA'.evsf (xs := y :: ys) (fun t ht => ht) e1
      exact ⟨as, zs, (hA'.evs fun t ht => ht).trans e1, (pks_agr hA' hf).trans e2, h1, r⟩
  | an e dp c o y =>
    obtain ⟨c', b, zs, e1, e2, e3, h1, r⟩ := hp
    have hA' := hA.kill (hd e)
    have hf := hA'.evf (o := y) (fun t ht => List.mem_append_right _ ht) e2
    exact ⟨c', b, zs, (hA'.ev fun t ht => List.mem_append_left _ ht).trans e1, (hA'.ev fun t ht => List.mem_append_right _ ht).trans e2, (pk_agr hA' hf).trans e3, by rw [shr_agr hA' hf]; exact h1, r⟩
  | _ => exact hp.elim
end
end Go.Q

set_option linter.unusedVariables false
set_option linter.unusedSimpArgs false
namespace Go.Q
section
variable {S : FuncId → List SA → RA → Prop} {p : Lab → Bool} {Γ Γ2 : Env}
/-- Of these labels the state does not speak, where these temporaries lead. -/
structure Fre (p : Lab → Bool) (Γ : Env) (ts : List Nat) : Prop where
  fr : ∀ t ∈ ts, ∀ x, lk Γ.tm t = some x → x.refs p = false
  bx : ∀ l ls, p l = false → lo Γ.ob l = some (.box ls) → refsL p ls = false
theorem Fre.ev {ts : List Nat} {o : O} (h : Fre p Γ ts) (hs : ∀ t ∈ o.tm, t ∈ ts) {x : AV} (he : Q.ev Γ o = some x) : x.refs p = false := by
  cases o with
  | t n => exact h.fr n (hs n (by simp [O.tm])) x he
  | _ => simp only [Q.ev, Option.some.injEq] at he; subst he; rfl
theorem refsL_take : ∀ {ls : List AV} (n : Nat), refsL p ls = false → refsL p (ls.take n) = false
  | [], n, h => by simp [refsL]
  | a :: ls, 0, h => rfl
  | a :: ls, n + 1, h => by
    simp only [refsL, Bool.or_eq_false_iff] at h
    simp only [List.take_succ_cons, refsL, h.1, refsL_take n h.2, Bool.or_false]
theorem refsL_get {ls : List AV} {i : Nat} {x : AV} (h : refsL p ls = false) (hx : ls[i]? = some x) : x.refs p = false := by
  induction ls generalizing i with
  | nil => simp at hx
  | cons a as ih =>
    simp only [refsL, Bool.or_eq_false_iff] at h
    cases i with
    | zero => simp only [List.getElem?_cons_zero, Option.some.injEq] at hx; subst hx; exact h.1
    | succ i => exact ih h.2 (by simpa using hx)
theorem refsL_append {as bs : List AV} (h : refsL p as = false) (k : refsL p bs = false) : refsL p (as ++ bs) = false := by
  induction as with
  | nil => exact k
  | cons a as ih =>
    simp only [refsL, Bool.or_eq_false_iff] at h
    simp only [List.cons_append, refsL, h.1, ih h.2, Bool.or_false]
theorem lv_refs : ∀ (f : Nat) (cs : List Ki) (x : HL cs), refsL p (lv f cs x) = false := fun f cs x => by
  have h := lv_v f cs x
  generalize lv f cs x = ls at h
  induction ls with
  | nil => rfl
  | cons a as ih =>
    obtain ⟨_, c, y, rfl⟩ := h a (by simp)
    simp only [refsL, AV.refs, Bool.false_or]
    exact ih fun b hb => h b (by simp [hb])
theorem cellsOf_refs {x : AV} (h : x.refs p = false) : refsL p (cellsOf x) = false := by
  cases x with
  | v c y =>
    cases c with
    | struct n => simp only [cellsOf, lvs]; exact lv_refs _ _ _
    | _ => simp only [cellsOf, refsL, AV.refs, Bool.or_false]
  | ag n ls => simpa [cellsOf, AV.refs] using h
  | _ => simp only [cellsOf, refsL, Bool.or_false]; exact h
theorem setAt_refs : ∀ {ls : List AV} {k : Nat} {xs : List AV}, refsL p ls = false → refsL p xs = false → refsL p (setAt ls k xs) = false
  | ls, _, [], h, _ => by cases ls <;> exact h
  | [], _, _ :: _, h, _ => rfl
  | l :: ls, 0, x :: xs, h, k => by
    simp only [refsL, Bool.or_eq_false_iff] at h k
    simp only [setAt, refsL, k.1, setAt_refs h.2 k.2, Bool.or_false]
  | l :: ls, n + 1, x :: xs, h, k => by
    simp only [refsL, Bool.or_eq_false_iff] at h
    simp only [setAt, refsL, h.1, setAt_refs h.2 k, Bool.or_false]
theorem zA_refs (c : Ki) : refsL p (zA c) = false := by
  have h1 : ∀ c, (z1 c).refs p = false := fun c => by cases c <;> rfl
  have h2 : ∀ cs : List Ki, refsL p (cs.map z1) = false := fun cs => by
    induction cs with
    | nil => rfl
    | cons c cs ih => simp only [List.map_cons, refsL, h1, ih, Bool.or_false]
  cases c with
  | struct n => exact h2 _
  | _ => simp only [zA, refsL, h1, Bool.or_false]
theorem fillA_refs : ∀ {as : List (Nat × AV)} {ls : List AV}, refsL p ls = false → (∀ y ∈ as, y.2.refs p = false) → refsL p (fillA ls as) = false
  | [], ls, h, _ => h
  | (off, a) :: r, ls, h, k => fillA_refs (as := r) (setAt_refs h (cellsOf_refs (k (off, a) (by simp)))) fun y hy => k y (List.mem_cons_of_mem _ hy)
theorem Fre.evs {ts : List Nat} {xs : List O} (h : Fre p Γ ts) (hs : ∀ t ∈ xs.flatMap O.tm, t ∈ ts) {as : List AV} (he : Q.evs Γ xs = some as) : refsL p as = false := by
  induction xs generalizing as with
  | nil => cases he; rfl
  | cons o r ih =>
    simp only [List.flatMap_cons, List.mem_append] at hs
    simp only [Q.evs, Option.bind_eq_some_iff, Option.map_eq_some_iff] at he
    obtain ⟨x, e1, s, e2, rfl⟩ := he
    simp only [refsL, h.ev (fun t ht => hs t (.inl ht)) e1, ih (fun t ht => hs t (.inr ht)) e2, Bool.or_false]
theorem Fre.evp {ts : List Nat} {xs : List (Nat × Nat × O)} (h : Fre p Γ ts) (hs : ∀ t ∈ xs.flatMap (fun x => x.2.2.tm), t ∈ ts) {as : List (Nat × AV)} (he : Q.evp Γ xs = some as) : ∀ y ∈ as, y.2.refs p = false := by
  induction xs generalizing as with
  | nil => cases he; intro y hy; cases hy
  | cons z r ih =>
    obtain ⟨off, sz, o⟩ := z
    simp only [List.flatMap_cons, List.mem_append] at hs
    simp only [Q.evp, Option.bind_eq_some_iff] at he
    obtain ⟨x, e1, he⟩ := he
    split at he
    · simp only [Option.map_eq_some_iff] at he
      obtain ⟨s, e2, rfl⟩ := he
      intro y hy
      rcases List.mem_cons.1 hy with rfl | hy
      · exact h.ev (fun t ht => hs t (.inl ht)) e1
      · exact ih (fun t ht => hs t (.inr ht)) e2 y hy
    · cases he
/-- What is read leads to no label that was not led to before. -/
theorem rd_fr : ∀ {i : I} {Γ : Env} {x : AV} {d : Nat}, i.rd = true → i.dst = some d → Fre p Γ i.looks → vi S i Γ (fun Γ' => Same Γ' (Γ.puto x i.dst)) → x.refs p = false ∨ vi S i Γ (fun _ => False) := by
  intro i
  induction i with
  | mv d o =>
    intro Γ x e _ _ hF h
    obtain ⟨a, ea, h⟩ := need_iff h
    simp only [I.dst, Same_put] at h; subst h
    exact .inl (hF.ev (fun t ht => ht) ea)
  | nck d o =>
    intro Γ x e _ _ hF h
    obtain ⟨a, ea, h⟩ := need_iff h
    have hf := hF.ev (o := o) (fun t ht => ht) ea
    simp only [I.dst, Same_put] at h
    split at h
    · obtain ⟨y, _, rfl⟩ := h; exact .inl rfl
    · subst h; exact .inl hf
    · subst h; exact .inl hf
    · exact h.elim
  | un d u o =>
    intro Γ x e _ _ hF h
    obtain ⟨a, ea, h⟩ := need_iff h
    obtain ⟨b, eb, h⟩ := need_iff h
    simp only [I.dst, Same_put] at h; subst h
    unfold vu at eb
    split at eb <;> simp_all
    all_goals (subst eb; exact .inl rfl)
  | bi d b y z =>
    intro Γ x e _ _ hF h
    obtain ⟨a, ea, h⟩ := need_iff h
    obtain ⟨a', ea', h⟩ := need_iff h
    simp only [I.dst, Same_put] at h
    unfold vb at h
    split at h <;> first | exact h.elim | (obtain ⟨_, _, rfl⟩ := h; exact .inl rfl) | (obtain ⟨_, rfl⟩ := h; exact .inl rfl) | (subst h; exact .inl rfl)
  | be d ne y z =>
    intro Γ x e _ _ hF h
    obtain ⟨a, ea, h⟩ := need_iff h
    simp only [I.dst, Same_put] at h
    split at h
    · obtain ⟨a', ea', h⟩ := need_iff h
      split at h
      · subst h; exact .inl rfl
      · exact h.elim
    · exact h.elim
  | pk d c y z =>
    intro Γ x e _ _ hF h
    obtain ⟨a, ea, h⟩ := need_iff h
    simp only [I.dst, Same_put] at h
    split at h
    · rename_i b
      cases b with
      | true =>
        obtain ⟨a', ea', h⟩ := need_iff (h.1 rfl)
        subst h
        exact .inl (hF.ev (o := y) (fun t ht => by simp [I.looks, ht]) ea')
      | false =>
        obtain ⟨a', ea', h⟩ := need_iff (h.2 rfl)
        subst h
        exact .inl (hF.ev (o := z) (fun t ht => by simp [I.looks, ht]) ea')
    · exact h.elim
  | fa d o n j off =>
    intro Γ x e _ _ hF h
    obtain ⟨a, ea, h⟩ := need_iff h
    have hf := hF.ev (o := o) (fun t ht => ht) ea
    simp only [I.dst, Same_put] at h
    split at h
    · obtain ⟨y, _, h⟩ := h
      obtain ⟨z, _, h⟩ := need_iff h
      split at h
      · obtain ⟨_, rfl⟩ := h; exact .inl rfl
      · exact h.elim
    · subst h; exact .inl hf
    · subst h; exact .inl hf
    · exact h.elim
  | ia d o y c =>
    intro Γ x e _ _ hF h
    obtain ⟨a, ea, h⟩ := need_iff h
    have hf := hF.ev (o := o) (fun t ht => by simp [I.looks, ht]) ea
    obtain ⟨a', ea', h⟩ := need_iff h
    simp only [I.dst, Same_put] at h
    split at h
    · split at h
      · obtain ⟨_, _, _, rfl⟩ := h; exact .inl rfl
      · obtain ⟨q, _, h⟩ := need_iff h
        split at h
        · obtain ⟨_, _, _, rfl⟩ := h; exact .inl hf
        · exact h.elim
      · exact h.elim
    · exact h.elim
  | ld d o c =>
    intro Γ x e _ _ hF h
    obtain ⟨a, ea, h⟩ := need_iff h
    have hf := hF.ev (o := o) (fun t ht => ht) ea
    simp only [I.dst, Same_put] at h
    split at h
    · obtain ⟨y, _, _, rfl⟩ := h; exact .inl rfl
    · obtain ⟨q, eq, h⟩ := need_iff h
      split at h
      · rename_i ls
        have hb := hF.bx _ ls (by simpa [AV.refs] using hf) eq
        split at h
        · obtain ⟨_, rfl⟩ := h
          simp only [AV.refs]; exact .inl (refsL_take _ (refsL_drop _ hb))
        · obtain ⟨y, hy, _, rfl⟩ := h; exact .inl (refsL_get hb hy)
      · exact h.elim
    · obtain ⟨q, eq, h⟩ := need_iff h
      split at h
      · obtain ⟨_, _, _, _, _, rfl⟩ := h; exact .inl rfl
      · exact h.elim
    · exact h.elim
  | ln d st o =>
    intro Γ x e _ _ hF h
    cases st with
    | false =>
      obtain ⟨a, ea, h⟩ := need_iff h
      simp only [I.dst, Same_put] at h
      split at h
      · rename_i xs
        by_cases hl : ((List.length xs : Nat) : Int) ≤ 9223372036854775807
        · have := h hl; subst this; exact .inl rfl
        · exact .inr (need_mk ea fun hh => absurd hh hl)
      · rename_i l
        obtain ⟨q, eq, h⟩ := need_iff h
        split at h
        · rename_i xs
          by_cases hl : ((List.length xs : Nat) : Int) ≤ 9223372036854775807
          · have := h hl; subst this; exact .inl rfl
          · exact .inr (need_mk ea (need_mk eq fun hh => absurd hh hl))
        · exact h.elim
      · subst h; exact .inl rfl
      · exact h.elim
    | true =>
      obtain ⟨a, ea, h⟩ := need_iff h
      simp only [I.dst, Same_put] at h
      split at h
      · rename_i s
        by_cases hl : ((List.length s : Nat) : Int) ≤ 9223372036854775807
        · have := h hl; subst this; exact .inl rfl
        · exact .inr (need_mk ea fun hh => absurd hh hl)
      · exact h.elim
  | cv d f xs =>
    intro Γ x e _ hd' hF h
    cases hd'
    obtain ⟨as, ea, r, hs, h⟩ := need_iff h
    split at h
    · obtain ⟨_, h⟩ := h
      simp only [I.dst] at h
      have := Same_put.1 h
      subst this; exact .inl rfl
    · exact h.elim
  | mf d f xs =>
    intro Γ x e _ _ hF h
    obtain ⟨as, ea, _, h⟩ := need_iff h
    simp only [I.dst, Same_put] at h; subst h
    simp only [AV.refs]; exact .inl (hF.evs (fun t ht => ht) ea)
  | ge d ne y z =>
    intro Γ x e _ _ hF h
    obtain ⟨a, e1, h⟩ := need_iff h
    obtain ⟨a', e2, h⟩ := need_iff h
    obtain ⟨m, e3, h⟩ := need_iff h
    obtain ⟨n, e4, h⟩ := need_iff h
    simp only [I.dst, Same_put] at h; subst h; exact .inl rfl
  | ci d k y =>
    intro Γ x e _ _ hF h
    obtain ⟨a, e1, h⟩ := need_iff h
    split at h
    · simp only [I.dst, Same_put] at h; subst h; exact .inl rfl
    · exact h.elim
  | cs d y =>
    intro Γ x e _ _ hF h
    obtain ⟨a, e1, h⟩ := need_iff h
    obtain ⟨xs, e2, h⟩ := need_iff h
    simp only [I.dst, Same_put] at h; subst h; exact .inl rfl
  | ix d y i =>
    intro Γ x e _ _ hF h
    obtain ⟨a, e1, h⟩ := need_iff h
    split at h
    · obtain ⟨b, e2, h⟩ := need_iff h
      split at h
      · obtain ⟨_, _, h⟩ := h
        simp only [I.dst, Same_put] at h; subst h; exact .inl rfl
      · exact h.elim
    · exact h.elim
  | sx d y lo hi =>
    intro Γ x e _ _ hF h
    obtain ⟨a, e1, h⟩ := need_iff h
    split at h
    · obtain ⟨b, e2, h⟩ := need_iff h
      obtain ⟨c, e3, h⟩ := need_iff h
      obtain ⟨_, _, _, h⟩ := h
      simp only [I.dst, Same_put] at h; subst h; exact .inl rfl
    · exact h.elim
  | bd d n xs =>
    intro Γ x e _ _ hF h
    obtain ⟨as, ea, h⟩ := need_iff h
    simp only [I.dst, Same_put] at h; subst h
    simp only [AV.refs]; exact .inl (fillA_refs (zA_refs _) (hF.evp (fun t ht => ht) ea))
  | bs d dp c xs =>
    cases xs with
    | cons x xs => intro _ _ _ h; cases h
    | nil =>
      intro Γ x e _ _ hF h
      simp only [vi, I.dst, Same_put] at h; subst h; exact .inl rfl
  | g t b i ih =>
    intro Γ x e hr hd' hF h
    obtain ⟨a, ea, h⟩ := need_iff h
    split at h
    · rename_i y
      by_cases hb : y = b
      · subst hb
        have h1 : vi S i ⟨(t, .v .bool y) :: Γ.tm, Γ.ob⟩ (fun Γ' => Same Γ' ((⟨(t, .v .bool y) :: Γ.tm, Γ.ob⟩ : Env).puto x i.dst)) := vi_imp (fun Γ' (hh : Same Γ' (Γ.puto x i.dst)) => hh.trans ((Same_again ea).symm.puto x i.dst)) hr (h.1 rfl)
        have hF' : Fre p ⟨(t, .v .bool y) :: Γ.tm, Γ.ob⟩ i.looks := by
          refine ⟨fun t' ht x' hx' => ?_, hF.bx⟩
          simp only [lk] at hx'
          split at hx'
          · cases hx'; rfl
          · exact hF.fr t' (by simp [I.looks, ht]) x' hx'
        rcases ih hr hd' hF' h1 with h2 | h2
        · exact .inl h2
        · exact .inr (need_mk ea ⟨fun _ => h2, fun hb => by cases y <;> cases hb⟩)
      · have hy : y = !b := by cases y <;> cases b <;> simp_all
        subst hy
        have h2 := h.2 rfl
        rw [skip_puto] at h2
        have hd2 : i.dst = some e := hd'
        have h3 := h2.1 e
        simp only [I.dst, hd2, Env.puto, lk_put, if_true, Option.some.injEq] at h3
        subst h3; exact .inl rfl
    · exact h.elim
  | _ => intro _ _ _ h; cases h
theorem intro_refs {d : Nat} (hp : ∀ l, hd d l = true → p l = false) (r : RA) : (r.intro [d]).1.refs p = false ∧ ∀ l ls, lo (r.intro [d]).2 l = some (.box ls) → refsL p ls = false := by
  have pre : ∀ (x : AV), (x.pre d).refs p = false ∧ True := fun x => ⟨preR x, trivial⟩
  refine ⟨by rw [(intro_pre d [] r).1]; exact preR _, fun l ls h => ?_⟩
  rw [(intro_pre d [] r).2] at h
  obtain ⟨l', o', rfl, e, _⟩ := lo_preO _ _ _ h
  cases o' with
  | row _ _ _ _ => simp [Ob.pre] at e
  | box ls' => simp only [Ob.pre, Ob.box.injEq] at e; subst e; exact preRL ls'
where
  preR : ∀ (x : AV), (x.pre d).refs p = false
    | .sl l => hp (d :: l) (by simp [hd])
    | .pt l o => hp (d :: l) (by simp [hd])
    | .ep l c i o => hp (d :: l) (by simp [hd])
    | .ag n ls => preRL ls
    | .fn f cs => preRL cs
    | .tu vs => preRL vs
    | .v c x => rfl
    | .nl c => rfl
    | .no => rfl
  preRL : ∀ (xs : List AV), refsL p (preL d xs) = false
    | [] => rfl
    | x :: xs => by simp only [preL, refsL, preR x, preRL xs, Bool.or_false]
theorem prd_fr {i : I} {x : AV} {obs : List (Lab × Ob)} {d : Nat} (hd' : i.dst = some d) (hp : ∀ l, hd d l = true → p l = false) (hF : Fre p Γ i.looks) (h : Prd S i Γ x obs) :
    x.refs p = false ∧ ∀ l ls, lo obs l = some (.box ls) → refsL p ls = false := by
  have h1 : p [d] = false := hp [d] (by simp [hd])
  cases i with
  | al e c =>
    cases hd'; obtain ⟨rfl, rfl⟩ := h
    refine ⟨h1, fun l ls hl => ?_⟩
    simp only [lo] at hl
    split at hl
    · cases hl; exact zA_refs c
    · cases hl
  | bx e o c =>
    cases hd'; obtain ⟨a, e, _, rfl, rfl⟩ := h
    refine ⟨h1, fun l ls hl => ?_⟩
    simp only [lo] at hl
    split at hl
    · cases hl
      refine cellsOf_refs ?_
      cases o with
      | t n =>
        simp only [ev, Env.kill, lk_killT, Option.map_eq_some_iff] at e
        obtain ⟨y, hy, rfl⟩ := e
        have := hF.fr n (by simp [I.looks, O.tm]) y hy
        unfold AV.kill
        split
        · rfl
        · exact this
      | _ => simp only [ev, Option.some.injEq] at e; subst e; rfl
    · cases hl
  | mk e dp c n =>
    cases hd'; obtain ⟨k, m, _, _, _, _, rfl, rfl⟩ := h
    exact ⟨h1, fun l ls hl => by simp only [lo] at hl; split at hl <;> cases hl⟩
  | ca e f xs =>
    cases hd'; obtain ⟨as, r, _, _, _, rfl, rfl⟩ := h
    exact intro_refs hp r
  | cf e y xs =>
    cases hd'; obtain ⟨f, as, r, _, _, _, _, rfl, rfl⟩ := h
    exact intro_refs hp r
  | bs e dp c xs =>
    cases hd'
    cases xs with
    | nil => exact h.elim
    | cons y ys =>
      obtain ⟨as, zs, _, _, _, rfl, rfl⟩ := h
      exact ⟨h1, fun l ls hl => by simp only [lo] at hl; split at hl <;> cases hl⟩
  | an e dp c o y =>
    cases hd'; obtain ⟨c', b, zs, _, _, _, _, _, rfl, rfl⟩ := h
    exact ⟨h1, fun l ls hl => by simp only [lo] at hl; split at hl <;> cases hl⟩
  | _ => exact h.elim
end
end Go.Q

set_option linter.unusedVariables false
set_option linter.unusedSimpArgs false
namespace Go.Q
def I.cdst (i : I) : Option Nat := if i.cr then i.dst else none
def dsts (is : List I) : List Nat := is.filterMap I.dst
def cdsts (is : List I) : List Nat := is.filterMap I.cdst
/-- Nothing is overwritten. -/
def stat : List I → Bool
  | [] => true
  | i :: is => (i.rd || i.cr) && (match i.dst with | some d => !(dsts is).contains d | none => true) && i.looks.all (fun t => !(dsts (i :: is)).contains t) && stat is
def edg (o : Oper) : List Nat := (o.after.toList.filter (Region.binds .any)).map Edge.on
def chkE (ops : List Oper) : Bool := (List.range ops.length).all fun i => match ops[i]? with | some o => (edg o).all fun j => Nat.blt j i | none => true
def chkP (ps : List I) (ops : List Oper) : Bool := (List.range ps.length).all fun i => match ps[i]?, ops[i]? with
  | some p, some o => p.looks.all fun t => (List.range ps.length).all fun j => (ps[j]?.bind I.dst) != some t || (edg o).contains j
  | _, _ => true
/-- What stands ahead of each, through others too. -/
def cloA : List Oper → List (List Nat) → List (List Nat)
  | [], acc => acc
  | o :: os, acc => cloA os (acc ++ [(List.range acc.length).filter fun k => (edg o).any fun j => Nat.blt j acc.length && (j == k || (acc.getD j []).contains k)])
def chkT (n : Nat) (ops : List Oper) : Bool :=
  let cl := cloA ops []
  (List.range ops.length).all fun i => Nat.blt i n || (List.range i).all fun j => (cl.getD i []).contains j
def drM (P : Program) (N : Nat) (ds : List Nat) (ps ts : List I) (ops : List Oper) : Bool :=
  P.follows .mixedOrders && gms P N ops (ps ++ ts) ops && stat ps && chkE ops && chkP ps ops && chkT ps.length ops && ds == cdsts ps
section
variable {S : FuncId → List SA → RA → Prop} {P : Program} {N : Nat} {G : Nat → Prop} {σ : Lab → Value} {ow : Own} {w : World} {a : Act} {Γ : Env} {K : Env → Prop} {Q : Exit → Act → World → Prop} {o : Oper}
theorem wp_some {next : Act → World → Prop} (h : o.wp P a w next fun _ _ _ => False) : ∃ a' w', next a' w' := by
  unfold Oper.wp at h
  generalize (execOp a.eval o).run P w = r at h
  cases r with
  | ok n w' =>
    cases n with
    | value v => exact ⟨_, _, h⟩
    | skip => exact ⟨_, _, h⟩
    | defer d => exact ⟨_, _, h⟩
    | enter f args =>
      obtain ⟨e, w'', fr, hR, _⟩ := h []
      cases e with
      | returned v => exact ⟨_, _, hR⟩
      | panicked c => exact hR.elim
      | outgrown => obtain ⟨_, _, h⟩ := hR; exact h.elim
    | row row args =>
      obtain ⟨v, w', h, _⟩ := h default []
      exact ⟨_, _, h⟩
    | _ => exact h.elim
  | halt x w' =>
    cases x <;> exact h.elim

theorem hds_iff {ds : List Nat} {l : Lab} : hds ds l = true ↔ ∃ d ∈ ds, hd d l = true := by
  cases l with
  | nil => simp [hds, hd]
  | cons n l =>
    simp only [hds, List.contains_iff_mem, hd, beq_iff_eq]
    constructor
    · intro h; exact ⟨n, h, rfl⟩
    · rintro ⟨d, h, rfl⟩; exact h
theorem hds_dst {is : List I} {l : Lab} {d : Nat} (h : hds (cdsts is) l = true) (hl : hd d l = true) : d ∈ dsts is := by
  obtain ⟨d', h1, h2⟩ := hds_iff.1 h
  have e : d' = d := by
    cases l with
    | nil => simp [hd] at h2
    | cons n l => simp only [hd, beq_iff_eq] at h2 hl; omega
  rw [e] at h1
  simp only [cdsts, List.mem_filterMap] at h1
  obtain ⟨j, hj, hjd⟩ := h1
  unfold I.cdst at hjd
  split at hjd
  · exact List.mem_filterMap.2 ⟨j, hj, hjd⟩
  · cases hjd
mutual
theorem refs_or {p q : Lab → Bool} : ∀ (x : AV), x.refs (fun l => p l || q l) = (x.refs p || x.refs q)
  | .v _ _ => rfl
  | .sl _ => rfl
  | .pt _ _ => rfl
  | .ep _ _ _ _ => rfl
  | .ag _ ls => refsL_or ls
  | .fn _ ls => refsL_or ls
  | .tu ls => refsL_or ls
  | .nl _ => rfl
  | .no => rfl
theorem refsL_or {p q : Lab → Bool} : ∀ (xs : List AV), refsL (fun l => p l || q l) xs = (refsL p xs || refsL q xs)
  | [] => rfl
  | x :: xs => by simp only [refsL, refs_or x, refsL_or xs]; cases x.refs p <;> cases x.refs q <;> cases refsL p xs <;> cases refsL q xs <;> rfl
end
theorem refs_mono {p q : Lab → Bool} (h : ∀ l, q l = true → p l = true) {x : AV} (hx : x.refs p = false) : x.refs q = false := by
  have e : p = fun l => p l || q l := by
    funext l
    cases hq : q l with
    | false => simp
    | true => simp [h l hq]
  rw [e, refs_or, Bool.or_eq_false_iff] at hx
  exact hx.2
theorem refsL_mono {p q : Lab → Bool} (h : ∀ l, q l = true → p l = true) {x : List AV} (hx : refsL p x = false) : refsL q x = false := by
  have e : p = fun l => p l || q l := by
    funext l
    cases hq : q l with
    | false => simp
    | true => simp [h l hq]
  rw [e, refsL_or, Bool.or_eq_false_iff] at hx
  exact hx.2
theorem Free.mono {p q : Lab → Bool} (h : ∀ l, q l = true → p l = true) (hF : Free p Γ) : Free q Γ :=
  ⟨fun t x hx => refs_mono h (hF.tm t x hx), fun l o ho => by
    obtain ⟨h1, h2⟩ := hF.ob l o ho
    refine ⟨?_, fun ls e => refsL_mono h (h2 ls e)⟩
    cases hq : q l with
    | false => rfl
    | true => rw [h l hq] at h1; cases h1⟩
theorem Free.same' {p : Lab → Bool} {Γ' : Env} (hF : Free p Γ) (h : Same Γ' Γ) : Free p Γ' :=
  ⟨fun t x hx => hF.tm t x ((h.1 t).symm.trans hx), fun l o ho => hF.ob l o ((h.2 l).symm.trans ho)⟩
theorem Free.fre {p : Lab → Bool} (hF : Free p Γ) (ts : List Nat) : Fre p Γ ts := ⟨fun t _ x hx => hF.tm t x hx, fun l ls _ ho => (hF.ob l _ ho).2 ls rfl⟩
theorem Free.adds {p : Lab → Bool} (hF : Free p Γ) {x : AV} {obs : List (Lab × Ob)} (hx : x.refs p = false) (ho : ∀ l o, lo obs l = some o → p l = false ∧ ∀ ls, o = .box ls → refsL p ls = false) : ∀ d, Free p (Γ.adds x obs d)
  | none => hF
  | some d => by
    refine ⟨fun t y hy => ?_, fun l o h => ?_⟩
    · simp only [Env.adds, lk] at hy
      split at hy
      · cases hy; exact hx
      · exact hF.tm t y hy
    · simp only [Env.adds, lo_append] at h
      split at h
      · rename_i q hq
        cases h
        exact ho l _ hq
      · exact hF.ob l o h
/-- What is known of an instruction, once all have run one after the other. -/
structure Fact (S : FuncId → List SA → RA → Prop) (E : Env) (q : Lab → Bool) (i : I) (x : AV) (obs : List (Lab × Ob)) (Γi : Env) : Prop where
  lks : ∀ t ∈ i.looks, lk E.tm t = lk Γi.tm t
  lobs : ∀ l, q l = false → lo E.ob l = lo Γi.ob l
  free : Free q Γi
  at' : ∀ d, i.dst = some d → lk E.tm d = some x
  rd : i.rd = true → obs = [] ∧ vi S i Γi (fun Γ' => Same Γ' (Γi.puto x i.dst))
  cr : i.rd = false → ∃ d, i.cr = true ∧ i.dst = some d ∧ Prd S i Γi x obs ∧ (∀ l o, lo obs l = some o → hd d l = true) ∧ ∀ l, hd d l = true → lo E.ob l = lo obs l
theorem rd_cr {i : I} (h : i.rd = true) : i.cr = false := by
  cases i <;> first | rfl | cases h | skip
  case bs d dp c xs => cases xs <;> first | rfl | cases h
theorem chain (hS : ∀ f as r, S f as r → Sp P f as r) {ops : List Oper} : ∀ {is : List I} {l : List Oper} {σ : Lab → Value} {ow : Own} {w : World} {a : Act} {Γ : Env}, stat is = true → gms P N ops is l = true → Rep N G σ ow w a Γ → Free (hds (cdsts is)) Γ → vs S is Γ K →
    ∃ E, K E ∧ (∀ t, t ∉ dsts is → lk E.tm t = lk Γ.tm t) ∧ (∀ l, hds (cdsts is) l = false → lo E.ob l = lo Γ.ob l) ∧ ∀ k i, is[k]? = some i → ∃ x obs Γi, Fact S E (hds (cdsts (is.drop k))) i x obs Γi
  | [], l, σ, ow, w, a, Γ, _, _, _, _, h => ⟨Γ, h, fun _ _ => rfl, fun _ _ => rfl, fun k i h => by simp at h⟩
  | i :: is, [], _, _, _, _, _, _, hm, _, _, _ => by simp [gms] at hm
  | i :: is, o :: l, σ, ow, w, a, Γ, hs, hm, hr, hF, h => by
    simp only [gms, Bool.and_eq_true] at hm
    simp only [stat, Bool.and_eq_true, Bool.or_eq_true] at hs
    obtain ⟨⟨⟨hrd, hd'⟩, hl⟩, hst⟩ := hs
    have hsub : ∀ l, hds (cdsts is) l = true → hds (cdsts (i :: is)) l = true := fun l hl => by
      obtain ⟨d, h1, h2⟩ := hds_iff.1 hl
      refine hds_iff.2 ⟨d, ?_, h2⟩
      simp only [cdsts, List.filterMap_cons] at h1 ⊢
      split
      · exact h1
      · exact List.mem_cons_of_mem _ h1
    -- what the step gives
    have step : ∃ x obs a' w' Γ' σ' ow', Same Γ' (Γ.adds x obs i.dst) ∧ vs S is Γ' K ∧ Rep N G σ' ow' w' a' Γ' ∧ x.refs (hds (cdsts is)) = false ∧ (∀ l ls, lo obs l = some (.box ls) → refsL (hds (cdsts is)) ls = false) ∧
        (i.rd = true → obs = [] ∧ vi S i Γ (fun Γ' => Same Γ' (Γ.puto x i.dst))) ∧ (i.rd = false → ∃ d, i.cr = true ∧ i.dst = some d ∧ Prd S i Γ x obs ∧ ∀ l o, lo obs l = some o → hd d l = true) := by
      by_cases hrd' : i.rd = true
      · obtain ⟨x, hx⟩ := vi_det hrd' h
        have hx2 : vi S i Γ (fun Γ' => Same Γ' (Γ.puto x i.dst)) := vi_imp (fun Γ' h => h.1) hrd' hx
        have h1 := snd_g (Q := fun _ _ _ => False) hS hr hm.1 hx
        obtain ⟨a', w', Γ', σ', ow', ⟨hsame, hk⟩, hr', _⟩ : ∃ a' w', Post N G ow w (fun Γ' => Same Γ' (Γ.puto x i.dst) ∧ vs S is Γ' K) a' w' := by
          split at h1
          · exact wp_some h1
          · exact ⟨_, _, h1⟩
        have hxr : x.refs (hds (cdsts is)) = false ∨ i.dst = none := by
          cases hdd : i.dst with
          | none => exact .inr rfl
          | some d =>
            rcases rd_fr (p := hds (cdsts is)) hrd' hdd ((hF.mono hsub).fre _) hx2 with h2 | h2
            · exact .inl h2
            · exfalso
              have h3 := snd_g (Q := fun _ _ _ => False) hS hr hm.1 h2
              have h4 : ∃ a' w', Post N G ow w (fun _ => False) a' w' := by
                split at h3
                · exact wp_some h3
                · exact ⟨_, _, h3⟩
              obtain ⟨_, _, _, _, _, hf, _⟩ := h4
              exact hf
        rcases hxr with hxr | hxr
        · exact ⟨x, [], a', w', Γ', σ', ow', by rw [adds_nil]; exact hsame, hk, hr', hxr, fun l ls h => (by simp [lo] at h), fun _ => ⟨rfl, hx2⟩, fun h => (by rw [hrd'] at h; cases h)⟩
        · refine ⟨.no, [], a', w', Γ', σ', ow', ?_, hk, hr', rfl, fun l ls h => (by simp [lo] at h), fun _ => ⟨rfl, ?_⟩, fun h => (by rw [hrd'] at h; cases h)⟩
          · rw [hxr] at hsame ⊢; exact hsame
          · rw [hxr] at hx2 ⊢; exact hx2
      · have hcr : i.cr = true := hrd.resolve_left hrd'
        have hrdf : i.rd = false := by simpa using hrd'
        obtain ⟨d, x, obs, hdd, hp, hh, hk⟩ := vi_prd hcr h
        have hsub2 : ∀ l, hd d l = true → hds (cdsts (i :: is)) l = true := fun l hl => hds_iff.2 ⟨d, by simp [cdsts, List.filterMap_cons, I.cdst, hcr, hdd], hl⟩
        have hx2 : vi S i Γ (fun Γ' => Γ' = Γ.made d x obs) := prd_vi hdd hp rfl
        have h1 := snd_g (Q := fun _ _ _ => False) hS hr hm.1 hx2
        obtain ⟨a', w', Γ', σ', ow', hsame, hr', _⟩ : ∃ a' w', Post N G ow w (fun Γ' => Γ' = Γ.made d x obs) a' w' := by
          split at h1
          · exact wp_some h1
          · exact ⟨_, _, h1⟩
        subst hsame
        have hfd : Free (hd d) Γ := hF.mono hsub2
        have hnd : ∀ l, hd d l = true → hds (cdsts is) l = false := fun l hl => by
          cases hq : hds (cdsts is) l with
          | false => rfl
          | true =>
            exfalso
            rw [hdd] at hd'
            have h3 : d ∉ dsts is := by simpa using hd'
            exact h3 (hds_dst hq hl)
        obtain ⟨k1, k2⟩ := prd_fr hdd hnd ((hF.mono hsub).fre _) hp
        refine ⟨x, obs, a', w', _, σ', ow', by rw [hdd]; exact made_same hfd x obs, hk, hr', k1, k2, fun h => (by rw [hrdf] at h; cases h), fun _ => ⟨d, hcr, hdd, hp, hh⟩⟩
    obtain ⟨x, obs, a', w', Γ', σ', ow', hsame, hk, hr', hxr, hor, hrdc, hcrc⟩ := step
    have hoh : ∀ l o, lo obs l = some o → hds (cdsts is) l = false := fun l o hlo => by
      by_cases hrd' : i.rd = true
      · rw [(hrdc hrd').1] at hlo; simp [lo] at hlo
      · obtain ⟨d, hcr, hdd, hp, hh⟩ := hcrc (by simpa using hrd')
        have hl' := hh l o hlo
        cases hq : hds (cdsts is) l with
        | false => rfl
        | true =>
          exfalso
          rw [hdd] at hd'
          have h3 : d ∉ dsts is := by simpa using hd'
          exact h3 (hds_dst hq hl')
    have hF' : Free (hds (cdsts is)) Γ' := ((hF.mono hsub).adds hxr (fun l o hlo => ⟨hoh l o hlo, fun ls e => hor l ls (e ▸ hlo)⟩) i.dst).same' hsame
    obtain ⟨E, hE, hlk, hlo, hf⟩ := chain hS hst hm.2 hr' hF' hk
    have hlk' : ∀ t, t ∉ dsts (i :: is) → lk E.tm t = lk Γ.tm t := fun t ht => by
      have h2 : t ∉ dsts is := fun h => ht (by simp only [dsts, List.filterMap_cons]; split <;> simp_all [dsts])
      rw [hlk t h2, hsame.1 t]
      cases hi : i.dst with
      | none => rfl
      | some d =>
        simp only [Env.adds, lk]
        rw [if_neg]
        rintro rfl
        exact ht (by simp [dsts, hi])
    have hlo' : ∀ l, hds (cdsts (i :: is)) l = false → lo E.ob l = lo Γ.ob l := fun l hl' => by
      have h2 : hds (cdsts is) l = false := by
        cases hq : hds (cdsts is) l with
        | false => rfl
        | true => rw [hsub l hq] at hl'; cases hl'
      rw [hlo l h2, hsame.2 l]
      by_cases hrd' : i.rd = true
      · rw [(hrdc hrd').1, adds_nil]
        cases i.dst <;> rfl
      · obtain ⟨d, hcr, hdd, hp, hh⟩ := hcrc (by simpa using hrd')
        rw [hdd]
        simp only [Env.adds, lo_append]
        split
        · rename_i q hq
          have h3 : hds (cdsts (i :: is)) l = true := hds_iff.2 ⟨d, by simp [cdsts, List.filterMap_cons, I.cdst, hcr, hdd], hh l q hq⟩
          rw [h3] at hl'; cases hl'
        · rfl
    refine ⟨E, hE, hlk', hlo', fun k j hj => ?_⟩
    cases k with
    | succ k => simpa using hf k j (by simpa using hj)
    | zero =>
      simp only [List.getElem?_cons_zero, Option.some.injEq] at hj
      subst hj
      refine ⟨x, obs, Γ, fun t ht => hlk' t ?_, hlo', hF, fun d hdd => ?_, hrdc, fun hrdf => ?_⟩
      · have := List.all_eq_true.1 hl t ht
        simpa using this
      · rw [hdd] at hd'
        have : d ∉ dsts is := by simpa using hd'
        rw [hlk d this, hsame.1 d, hdd]
        simp [Env.adds, lk]
      · obtain ⟨d, hcr, hdd, hp, hh⟩ := hcrc hrdf
        refine ⟨d, hcr, hdd, hp, hh, fun l hl' => ?_⟩
        have hdn : d ∉ dsts is := by rw [hdd] at hd'; simpa using hd'
        have h2 : hds (cdsts is) l = false := by
          cases hq : hds (cdsts is) l with
          | false => rfl
          | true =>
            exfalso
            exact hdn (hds_dst hq hl')
        rw [hlo l h2, hsame.2 l, hdd]
        simp only [Env.adds, lo_append]
        split
        · rename_i q hq; exact hq.symm
        · rename_i hq
          rw [hq]
          cases hlg : lo Γ.ob l with
          | none => rfl
          | some q =>
            have h4 := (hF.ob l q hlg).1
            have h3 : hds (cdsts (i :: is)) l = true := hds_iff.2 ⟨d, by simp [cdsts, List.filterMap_cons, I.cdst, hcr, hdd], hl'⟩
            rw [h3] at h4
            cases h4
theorem Rep.of_same {Γ' : Env} (hr : Rep N G σ ow w a Γ) (h : Same Γ' Γ) : Rep N G σ ow w a Γ' :=
  ⟨hr.size, hr.defers, fun t x hx => hr.tm t x ((h.1 t).symm.trans hx), fun l q hq => hr.ob l q ((h.2 l).symm.trans hq), hr.own, hr.top⟩
theorem gms_at {ops : List Oper} : ∀ {is : List I} {l : List Oper}, gms P N ops is l = true → is.length = l.length ∧ ∀ (k : Nat) (i : I) (o : Oper), is[k]? = some i → l[k]? = some o → i.gm P N ops o = true
  | [], [], _ => ⟨rfl, fun k i o h => by simp at h⟩
  | [], _ :: _, hm => by simp [gms] at hm
  | _ :: _, [], hm => by simp [gms] at hm
  | i :: is, o :: l, hm => by
    simp only [gms, Bool.and_eq_true] at hm
    obtain ⟨h1, h2⟩ := gms_at hm.2
    refine ⟨by simp [h1], fun k i' o' hi ho => ?_⟩
    cases k with
    | zero => simp at hi ho; subst hi ho; exact hm.1
    | succ k => exact h2 k i' o' (by simpa using hi) (by simpa using ho)
theorem mem_edg {o : Oper} {j : Nat} : j ∈ edg o ↔ ∃ e ∈ o.after, Region.binds .any e = true ∧ e.on = j := by
  simp [edg, and_assoc]
/-- The operations that have run. -/
structure Lst (n : Nat) (U : List Nat) (listed : Array Bool) : Prop where
  iff : ∀ i, listed.getD i true = false ↔ i ∈ U
  lt : ∀ i ∈ U, i < n
  no : ∀ i, i < n → i ∉ U → listed.getD i false = true
  nodup : U.Nodup
theorem Lst.start (n : Nat) : Lst n (List.range n) (Array.replicate n false) :=
  ⟨fun i => by by_cases h : i < n <;> simp [Array.getD, h], fun i h => by simpa using h, fun i h h' => by simp at h'; omega, List.nodup_range⟩
theorem Lst.step {n : Nat} {U : List Nat} {listed : Array Bool} (h : Lst n U listed) {i : Nat} (hi : i ∈ U) : Lst n (U.erase i) (listed.setIfInBounds i true) := by
  have hself : ∀ d, (listed.setIfInBounds i true).getD i d = true := fun d => by
    have h1 := (h.iff i).2 hi
    have hlt : i < listed.size := by
      rcases Nat.lt_or_ge i listed.size with h' | h'
      · exact h'
      · simp [Array.getD, Nat.not_lt.2 h'] at h1
    simp [Array.getD, hlt]
  refine ⟨fun j => ?_, fun j hj => h.lt j (List.mem_of_mem_erase hj), fun j hlt hj => ?_, h.nodup.erase i⟩
  · by_cases e : i = j
    · subst e
      rw [hself]
      have := h.nodup.not_mem_erase (a := i)
      simp [this]
    · rw [getD_set_ne _ e, h.iff j, List.mem_erase_of_ne (Ne.symm e)]
  · by_cases e : i = j
    · subst e; exact hself false
    · rw [getD_set_ne _ e]
      exact h.no j hlt fun hj' => hj ((List.mem_erase_of_ne (Ne.symm e)).2 hj')
theorem Lst.ready {n : Nat} {U : List Nat} {listed : Array Bool} {ops : List Oper} (h : Lst n U listed) {i : Nat} (hi : i ∈ Region.ready .any ops.toArray listed) :
    i ∈ U ∧ ∃ o, ops[i]? = some o ∧ ∀ j ∈ edg o, j ∉ U := by
  rw [mem_ready] at hi
  obtain ⟨h1, o, ho, h2⟩ := hi
  refine ⟨(h.iff i).1 h1, o, by simpa using ho, fun j hj hU => ?_⟩
  obtain ⟨e, he, hb, rfl⟩ := mem_edg.1 hj
  have h3 := h2 e he hb
  have h4 := (h.iff e.on).2 hU
  rcases Nat.lt_or_ge e.on listed.size with h' | h'
  · simp [Array.getD, h'] at h3 h4; rw [h3] at h4; cases h4
  · simp [Array.getD, Nat.not_lt.2 h'] at h4
theorem Lst.some' {n : Nat} {U : List Nat} {listed : Array Bool} {ops : List Oper} (h : Lst n U listed) (hn : ops.length = n) (hE : chkE ops = true) (hne : U ≠ []) : Region.ready .any ops.toArray listed ≠ [] := by
  intro he
  have key : ∀ k i, i < k → i ∉ U := by
    intro k
    induction k with
    | zero => intro i hi; omega
    | succ k ih =>
      intro i hi hU
      have hlt := h.lt i hU
      have hr : i ∈ Region.ready .any ops.toArray listed := by
        rw [mem_ready]
        refine ⟨(h.iff i).2 hU, ops[i]'(by omega), by simp [hn, hlt], fun e hee hb => ?_⟩
        have h1 := List.all_eq_true.1 hE i (by simp [hn, hlt])
        have ho : ops[i]? = some (ops[i]'(by omega)) := List.getElem?_eq_getElem (by omega)
        rw [ho] at h1
        have h2 := List.all_eq_true.1 h1 e.on (mem_edg.2 ⟨e, hee, hb, rfl⟩)
        have h3 : e.on < i := by simpa [Nat.blt_eq] using h2
        exact h.no _ (by omega) (ih _ (by omega))
      rw [he] at hr
      cases hr
  obtain ⟨i, hi⟩ := List.exists_mem_of_ne_nil U hne
  exact key (i + 1) i (by omega) hi
end
end Go.Q

set_option linter.unusedVariables false
set_option linter.unusedSimpArgs false
namespace Go.Q
section
variable {S : FuncId → List SA → RA → Prop} {P : Program} {N : Nat} {G : Nat → Prop} {K : Env → Prop} {Q : Exit → Act → World → Prop}
/-- What the closure is made of. -/
def CloOk (ops : List Oper) (acc : List (List Nat)) : Prop :=
  ∀ i o, i < acc.length → ops[i]? = some o → ∀ k ∈ acc.getD i [], ∃ j ∈ edg o, j < i ∧ (j = k ∨ k ∈ acc.getD j [])
theorem cloA_ok {ops : List Oper} : ∀ {os : List Oper} {acc : List (List Nat)}, ops.drop acc.length = os → CloOk ops acc → CloOk ops (cloA os acc)
  | [], acc, _, h => h
  | o :: os, acc, hd, h => by
    simp only [cloA]
    refine cloA_ok ?_ ?_
    · rw [List.length_append, List.length_singleton, ← List.drop_drop, hd]; rfl
    · intro i o' hi ho k hk
      have hget : ∀ j, j < acc.length → ∀ x : List Nat, (acc ++ [x]).getD j [] = acc.getD j [] := fun j hj x => by
        simp [List.getD_eq_getElem?_getD, List.getElem?_append_left hj]
      rw [List.length_append, List.length_singleton] at hi
      by_cases hlt : i < acc.length
      · rw [hget i hlt] at hk
        obtain ⟨j, h1, h2, h3⟩ := h i o' hlt ho k hk
        refine ⟨j, h1, h2, ?_⟩
        rw [hget j (by omega)]; exact h3
      · have e : i = acc.length := by omega
        subst e
        have ho2 : ops[acc.length]? = some o := by
          have := congrArg (fun l => l[0]?) hd
          simpa [List.getElem?_drop] using this
        rw [ho2] at ho
        cases ho
        simp only [List.getD_eq_getElem?_getD, List.getElem?_append_right (Nat.le_refl _), Nat.sub_self, List.getElem?_cons_zero, Option.getD_some, List.mem_filter, List.any_eq_true, Bool.and_eq_true, Bool.or_eq_true, beq_iff_eq] at hk
        obtain ⟨_, j, h1, h2, h3⟩ := hk
        have h2' : j < acc.length := by simpa [Nat.blt_eq] using h2
        refine ⟨j, h1, h2', ?_⟩
        rw [hget j h2']
        rcases h3 with h3 | h3
        · exact .inl h3
        · exact .inr (by simpa [List.getD_eq_getElem?_getD] using h3)
/-- Whoever has run, so has what stands ahead of it. -/
def Down (ops : List Oper) (U : List Nat) : Prop := ∀ i o, ops[i]? = some o → i ∉ U → ∀ j ∈ edg o, j ∉ U
theorem clo_run {ops : List Oper} {acc : List (List Nat)} (h : CloOk ops acc) {U : List Nat} (hD : Down ops U) : ∀ {i : Nat} {o : Oper}, i < acc.length → ops[i]? = some o → (∀ j ∈ edg o, j ∉ U) → ∀ k ∈ acc.getD i [], k ∉ U := by
  intro i
  induction i using Nat.strongRecOn with
  | ind i ih =>
    intro o hi ho he k hk
    obtain ⟨j, h1, h2, h3⟩ := h i o hi ho k hk
    rcases h3 with rfl | h3
    · exact he _ h1
    · have hlt : j < ops.length := by
        have : i < ops.length := (List.getElem?_eq_some_iff.1 ho).1
        omega
      exact ih j h2 (by omega) (List.getElem?_eq_getElem hlt) (hD j _ (List.getElem?_eq_getElem hlt) (he j h1)) k h3
theorem cloA_len : ∀ {os : List Oper} {acc : List (List Nat)}, (cloA os acc).length = acc.length + os.length
  | [], acc => rfl
  | o :: os, acc => by simp only [cloA, cloA_len, List.length_append, List.length_cons, List.length_nil]; omega
/-- An operation of the tail waits for all ahead of it. -/
theorem tail_waits {ops : List Oper} {n : Nat} (hT : chkT n ops = true) {U : List Nat} (hD : Down ops U) {i : Nat} {o : Oper} (hi : n ≤ i) (ho : ops[i]? = some o) (he : ∀ j ∈ edg o, j ∉ U) : ∀ j, j < i → j ∉ U := by
  intro j hj
  have hlt : i < ops.length := (List.getElem?_eq_some_iff.1 ho).1
  have h1 := List.all_eq_true.1 hT i (by simp [hlt])
  simp only [Bool.or_eq_true] at h1
  rcases h1 with h1 | h1
  · have : i < n := by simpa [Nat.blt_eq] using h1
    omega
  · have h2 := List.all_eq_true.1 h1 j (by simp [hj])
    have hok : CloOk ops (cloA ops []) := cloA_ok (acc := []) rfl (fun i o h => by simp at h)
    exact clo_run hok hD (by rw [cloA_len]; simpa using hlt) ho he j (by simpa using h2)
theorem wpOp_of {ops : List Oper} {i : Nat} {o : Oper} {a : Act} {w : World} {K1 K2 : Act → World → Prop} (ho : ops[i]? = some o) (h : if Region.wanted o (yielded ops.toArray a.tmps) then o.wp P a w K1 Q else K1 (a.put o.dst undef) w)
    (hk : ∀ a w, K1 a w → K2 a w) : wpOp P ops.toArray Q i K2 a w := by
  unfold wpOp
  simp only [List.getElem?_toArray, ho]
  split
  · rename_i hw; rw [if_pos hw] at h; exact .inl (Oper.wp_mono hk h)
  · rename_i hw; rw [if_neg hw] at h; exact hk _ _ h
theorem down_step {ops : List Oper} {U : List Nat} {i : Nat} {o : Oper} (hD : Down ops U) (ho : ops[i]? = some o) (he : ∀ j ∈ edg o, j ∉ U) : Down ops (U.erase i) := by
  intro k o' ho' hk j hj hjU
  have hjU' : j ∈ U := List.mem_of_mem_erase hjU
  by_cases e : k = i
  · subst e
    rw [ho] at ho'
    cases ho'
    exact he j hj hjU'
  · exact hD k o' ho' (fun h => hk ((List.mem_erase_of_ne e).2 h)) j hj hjU'
theorem any_tail (hS : ∀ f as r, S f as r → Sp P f as r) {ops : List Oper} {ps ts : List I} (hm : gms P N ops (ps ++ ts) ops = true) (hE : chkE ops = true) (hT : chkT ps.length ops = true) :
    ∀ {fuel : Nat} {U : List Nat} {listed : Array Bool} {k : Nat} {σ : Lab → Value} {ow : Own} {w : World} {a : Act} {Γ : Env}, U.length = fuel → Lst ops.length U listed → Down ops U → (∀ i, i ∈ U ↔ k ≤ i ∧ i < ops.length) → ps.length ≤ k →
    Rep N G σ ow w a Γ → vs S (ts.drop (k - ps.length)) Γ K → (∀ a' w', Post N G ow w K a' w' → Q .normal a' w') → wpAny P .any ops.toArray Q fuel listed a w := by
  obtain ⟨hlen, hat⟩ := gms_at hm
  rw [List.length_append] at hlen
  intro fuel
  induction fuel with
  | zero =>
    intro U listed k σ ow w a Γ hU hL hD hk hpk hr hv hQ
    have hU0 : U = [] := List.length_eq_zero_iff.1 hU
    subst hU0
    have hkn : ops.length ≤ k := Nat.le_of_not_lt fun h => by
      have := (hk k).2 ⟨Nat.le_refl k, h⟩
      cases this
    have hd : ts.drop (k - ps.length) = [] := List.drop_eq_nil_iff.2 (by omega)
    rw [hd] at hv
    refine ⟨?_, hQ _ _ ⟨Γ, σ, ow, hv, hr, Ext.refl ow w⟩⟩
    cases he : Region.ready .any ops.toArray listed with
    | nil => rfl
    | cons x xs =>
      have := (hL.ready (i := x) (by rw [he]; simp)).1
      cases this
  | succ fuel ih =>
    intro U listed k σ ow w a Γ hU hL hD hk hpk hr hv hQ
    have hne : U ≠ [] := fun h => by simp [h] at hU
    refine ⟨fun h => absurd h (hL.some' rfl hE hne), fun i hi => ?_⟩
    obtain ⟨hiU, o, ho, hedge⟩ := hL.ready hi
    obtain ⟨hki, hin⟩ := (hk i).1 hiU
    have hik : i = k := by
      rcases Nat.lt_or_ge k i with h | h
      · exfalso
        exact tail_waits hT hD (by omega) ho hedge k h ((hk k).2 ⟨Nat.le_refl k, by omega⟩)
      · omega
    subst hik
    obtain ⟨j, hj⟩ : ∃ j, ts[i - ps.length]? = some j := ⟨ts[i - ps.length]'(by omega), List.getElem?_eq_getElem (by omega)⟩
    have hd : ts.drop (i - ps.length) = j :: ts.drop (i + 1 - ps.length) := by
      have h1 : i - ps.length < ts.length := by omega
      rw [List.drop_eq_getElem_cons h1]
      have h2 : ts[i - ps.length] = j := by
        rw [List.getElem?_eq_getElem h1] at hj
        simpa using hj
      rw [h2, show i + 1 - ps.length = i - ps.length + 1 by omega]
    rw [hd] at hv
    have hgm := hat i j o (by rw [List.getElem?_append_right hpk]; exact hj) ho
    refine wpOp_of ho (snd_g hS hr hgm hv) fun a' w' hp => ?_
    obtain ⟨Γ', σ', ow', hv', hr', he⟩ := hp
    refine ih (k := i + 1) (by rw [List.length_erase_of_mem hiU]; omega) (hL.step hiU) (down_step hD ho hedge) (fun x => ?_) (by omega) hr' hv' fun a2 w2 h2 => hQ _ _ (Post.trans (a' := a2) (K' := K) he h2)
    by_cases e : x = i
    · subst e
      have := hL.nodup.not_mem_erase (a := x)
      simp only [this, false_iff]
      omega
    · rw [List.mem_erase_of_ne e, hk]
      omega
/-- The labels of what has still to be made. -/
def pend (ps : List I) (U : List Nat) : Lab → Bool := hds (U.filterMap fun j => (ps[j]?).bind I.cdst)
theorem pend_iff {ps : List I} {U : List Nat} {l : Lab} : pend ps U l = true ↔ ∃ j ∈ U, ∃ i d, ps[j]? = some i ∧ i.cr = true ∧ i.dst = some d ∧ hd d l = true := by
  unfold pend
  rw [hds_iff]
  constructor
  · rintro ⟨d, h1, h2⟩
    obtain ⟨j, hj, hjd⟩ := List.mem_filterMap.1 h1
    simp only [Option.bind_eq_some_iff] at hjd
    obtain ⟨i, hi, hid⟩ := hjd
    unfold I.cdst at hid
    split at hid
    · exact ⟨j, hj, i, d, hi, by assumption, hid, h2⟩
    · cases hid
  · rintro ⟨j, hj, i, d, hi, hc, hdd, h2⟩
    exact ⟨d, List.mem_filterMap.2 ⟨j, hj, by simp [hi, I.cdst, hc, hdd]⟩, h2⟩
theorem stat_at : ∀ {ps : List I} {k : Nat} {i : I}, stat ps = true → ps[k]? = some i → (i.rd || i.cr) = true ∧ (∀ d, i.dst = some d → d ∉ dsts (ps.drop (k + 1)))
  | [], k, i, _, h => by simp at h
  | p :: ps, k, i, hs, h => by
    simp only [stat, Bool.and_eq_true] at hs
    obtain ⟨⟨⟨h1, h2⟩, _⟩, h4⟩ := hs
    cases k with
    | zero =>
      simp only [List.getElem?_cons_zero, Option.some.injEq] at h
      subst h
      refine ⟨h1, fun d hd' => ?_⟩
      rw [hd'] at h2
      simpa using h2
    | succ k => simpa using stat_at h4 (by simpa using h)
theorem stat_inj {ps : List I} (hs : stat ps = true) {j k : Nat} {i i' : I} {d : Nat} (hj : ps[j]? = some i) (hk : ps[k]? = some i') (hd : i.dst = some d) (hd' : i'.dst = some d) : j = k := by
  rcases Nat.lt_trichotomy j k with h | h | h
  · exfalso
    apply (stat_at hs hj).2 d hd
    refine List.mem_filterMap.2 ⟨i', List.mem_of_getElem? (i := k - (j + 1)) ?_, hd'⟩
    rw [List.getElem?_drop, show j + 1 + (k - (j + 1)) = k by omega]; exact hk
  · exact h
  · exfalso
    apply (stat_at hs hk).2 d hd'
    refine List.mem_filterMap.2 ⟨i, List.mem_of_getElem? (i := j - (k + 1)) ?_, hd⟩
    rw [List.getElem?_drop, show k + 1 + (j - (k + 1)) = j by omega]; exact hj
theorem any_pre (hS : ∀ f as r, S f as r → Sp P f as r) {ops : List Oper} {ps ts : List I} (hm : gms P N ops (ps ++ ts) ops = true) (hst : stat ps = true) (hE : chkE ops = true) (hPc : chkP ps ops = true) (hT : chkT ps.length ops = true)
    {E : Env} (hF : ∀ k i, ps[k]? = some i → ∃ x obs Γi, Fact S E (hds (cdsts (ps.drop k))) i x obs Γi) (hv : vs S ts E K) :
    ∀ {fuel : Nat} {U : List Nat} {listed : Array Bool} {σ : Lab → Value} {ow : Own} {w : World} {a : Act} {Γ : Env}, U.length = fuel → Lst ops.length U listed → Down ops U → (∀ i, ps.length ≤ i → i < ops.length → i ∈ U) →
    (∀ l, pend ps U l = false → lo Γ.ob l = lo E.ob l) → (∀ t, (∀ j ∈ U, ∀ p, ps[j]? = some p → p.dst ≠ some t) → lk Γ.tm t = lk E.tm t) → Free (pend ps U) Γ →
    Rep N G σ ow w a Γ → (∀ a' w', Post N G ow w K a' w' → Q .normal a' w') → wpAny P .any ops.toArray Q fuel listed a w := by
  obtain ⟨hlen, hat⟩ := gms_at hm
  rw [List.length_append] at hlen
  intro fuel
  induction fuel with
  | zero =>
    intro U listed σ ow w a Γ hU hL hD hrest hob hlk hfr hr hQ
    have hU0 : U = [] := List.length_eq_zero_iff.1 hU
    subst hU0
    have hr' : Rep N G σ ow w a E := hr.of_same ⟨fun t => (hlk t fun j hj => by cases hj).symm, fun l => (hob l (by
      cases h : pend ps [] l with
      | false => rfl
      | true => obtain ⟨j, hj, _⟩ := pend_iff.1 h; cases hj)).symm⟩
    refine any_tail (k := ops.length) hS hm hE hT hU hL hD (fun i => ?_) (by omega) hr' ?_ hQ
    · constructor
      · intro h; cases h
      · intro h; omega
    · have : ps.length = ops.length := by
        rcases Nat.lt_or_ge ps.length ops.length with h | h
        · have := hrest ps.length (Nat.le_refl _) h
          cases this
        · omega
      rw [this, Nat.sub_self]
      exact hv
  | succ fuel ih =>
    intro U listed σ ow w a Γ hU hL hD hrest hob hlk hfr hr hQ
    by_cases hall : ∀ i ∈ U, ps.length ≤ i
    · have hpn : ∀ l, pend ps U l = false := fun l => by
        cases h : pend ps U l with
        | false => rfl
        | true =>
          obtain ⟨j, hj, i, d, hi, _⟩ := pend_iff.1 h
          have := hall j hj
          rw [List.getElem?_eq_none this] at hi
          cases hi
      have hr' : Rep N G σ ow w a E := hr.of_same ⟨fun t => (hlk t fun j hj p hp => by
        have := hall j hj
        rw [List.getElem?_eq_none this] at hp
        cases hp).symm, fun l => (hob l (hpn l)).symm⟩
      refine any_tail (k := ps.length) hS hm hE hT hU hL hD (fun i => ⟨fun h => ⟨hall i h, hL.lt i h⟩, fun h => hrest i h.1 h.2⟩) (Nat.le_refl _) hr' ?_ hQ
      rw [Nat.sub_self]
      exact hv
    · have hne : U ≠ [] := fun h => by simp [h] at hU
      refine ⟨fun h => absurd h (hL.some' rfl hE hne), fun i hi => ?_⟩
      obtain ⟨hiU, o, ho, hedge⟩ := hL.ready hi
      have hin := hL.lt i hiU
      have him : i < ps.length := by
        rcases Nat.lt_or_ge i ps.length with h | h
        · exact h
        · exfalso
          apply hall
          intro j hj
          rcases Nat.lt_or_ge j ps.length with h' | h'
          · exact absurd hj (tail_waits hT hD h ho hedge j (by omega))
          · exact h'
      obtain ⟨p, hp⟩ : ∃ p, ps[i]? = some p := ⟨ps[i], List.getElem?_eq_getElem him⟩
      obtain ⟨x, obs, Γi, hf⟩ := hF i p hp
      have hgm := hat i p o (by rw [List.getElem?_append_left him]; exact hp) ho
      have hlook : ∀ t ∈ p.looks, lk Γ.tm t = lk E.tm t := fun t ht => hlk t fun j hj q hq hd => by
        have h1 := List.all_eq_true.1 hPc i (by simp [him])
        rw [hp, ho] at h1
        have h2 := List.all_eq_true.1 h1 t ht
        have hjm : j < ps.length := (List.getElem?_eq_some_iff.1 hq).1
        have h3 := List.all_eq_true.1 h2 j (by simp [hjm])
        simp only [hq, Option.bind_some, hd, bne_self_eq_false, Bool.false_or] at h3
        exact hedge j (by simpa using h3) hj
      -- the state at which its facts were found agrees with this one
      have hA : Agr (fun l => pend ps U l || hds (cdsts (ps.drop i)) l) Γi Γ p.looks := by
        refine ⟨fun t ht => (hlook t ht).trans (hf.lks t ht), fun l hl => ?_, fun t ht y hy => ?_, fun l ls hl hy => ?_⟩
        · simp only [Bool.or_eq_false_iff] at hl
          exact (hob l hl.1).trans (hf.lobs l hl.2)
        · rw [refs_or, hf.free.tm t y hy, hfr.tm t y (((hlook t ht).trans (hf.lks t ht)).trans hy)]; rfl
        · simp only [Bool.or_eq_false_iff] at hl
          have h1 := ((hob l hl.1).trans (hf.lobs l hl.2)).trans hy
          rw [refsL_or, (hf.free.ob l _ hy).2 ls rfl, (hfr.ob l _ h1).2 ls rfl]; rfl
      have hpsub : ∀ l, pend ps (U.erase i) l = true → pend ps U l = true := fun l hl => by
        obtain ⟨j, hj, r⟩ := pend_iff.1 hl
        exact pend_iff.2 ⟨j, List.mem_of_mem_erase hj, r⟩
      have hlk' : ∀ {Γ' : Env}, Same Γ' (Γ.adds x obs p.dst) → ∀ t, (∀ j ∈ U.erase i, ∀ q, ps[j]? = some q → q.dst ≠ some t) → lk Γ'.tm t = lk E.tm t := by
        intro Γ' hsame t ht
        rw [hsame.1 t]
        cases hd : p.dst with
        | none =>
          refine hlk t fun j hj q hq hqd => ?_
          by_cases e : j = i
          · subst e
            rw [hp] at hq
            cases hq
            rw [hd] at hqd; cases hqd
          · exact ht j ((List.mem_erase_of_ne e).2 hj) q hq hqd
        | some d =>
          simp only [Env.adds, lk]
          split
          · rename_i e
            subst e
            exact (hf.at' d hd).symm
          · rename_i hne'
            refine hlk t fun j hj q hq hqd => ?_
            by_cases e : j = i
            · subst e
              rw [hp] at hq
              cases hq
              rw [hd] at hqd
              cases hqd
              exact hne' rfl
            · exact ht j ((List.mem_erase_of_ne e).2 hj) q hq hqd
      have hfre : Fre (pend ps (U.erase i)) Γ p.looks := (hfr.mono hpsub).fre _
      by_cases hrd : p.rd = true
      · obtain ⟨rfl, hx⟩ := hf.rd hrd
        have hncr := rd_cr hrd
        have hpeq : ∀ l, pend ps U l = false → True := fun _ _ => trivial
        have hpe : ∀ l, pend ps (U.erase i) l = false → pend ps U l = false := fun l hl => by
          cases h : pend ps U l with
          | false => rfl
          | true =>
            obtain ⟨j, hj, i', d, hi', hc, r⟩ := pend_iff.1 h
            have e : j ≠ i := by
              rintro rfl
              rw [hp] at hi'; cases hi'
              rw [hncr] at hc; cases hc
            rw [pend_iff.2 ⟨j, (List.mem_erase_of_ne e).2 hj, i', d, hi', hc, r⟩] at hl
            cases hl
        have hvi := vi_frame (Γ2 := Γ) hrd hA hx
        have hxr : vi S p Γ (fun _ => False) ∨ p.dst = none ∨ x.refs (pend ps (U.erase i)) = false := by
          cases hdd : p.dst with
          | none => exact .inr (.inl rfl)
          | some d =>
            rcases rd_fr hrd hdd hfre hvi with h | h
            · exact .inr (.inr h)
            · exact .inl h
        rcases hxr with hff | hxr
        · exact wpOp_of ho (snd_g hS hr hgm hff) fun a' w' hpost => by
            obtain ⟨_, _, _, hf, _⟩ := hpost
            exact hf.elim
        · refine wpOp_of ho (snd_g hS hr hgm hvi) fun a' w' hpost => ?_
          obtain ⟨Γ', σ', ow', hsame, hr', he⟩ := hpost
          have hsame' : Same Γ' (Γ.adds x [] p.dst) := by rw [adds_nil]; exact hsame
          refine ih (by rw [List.length_erase_of_mem hiU]; omega) (hL.step hiU) (down_step hD ho hedge) (fun j h1 h2 => (List.mem_erase_of_ne (by omega)).2 (hrest j h1 h2)) (fun l hl => ?_) (hlk' hsame') ?_ hr' fun a2 w2 h2 => hQ _ _ (Post.trans (a' := a2) (K' := K) he h2)
          · rw [hsame'.2 l]
            have : lo (Γ.adds x [] p.dst).ob l = lo Γ.ob l := by cases p.dst <;> rfl
            rw [this]
            exact hob l (hpe l hl)
          · rcases hxr with hxr | hxr
            · rw [hxr] at hsame'
              exact (hfr.mono hpsub).same' hsame'
            · exact ((hfr.mono hpsub).adds hxr (fun l o h => by simp [lo] at h) p.dst).same' hsame'
      · obtain ⟨d, hcr, hdd, hpr, hh, hEo⟩ := hf.cr (by simpa using hrd)
        have hprd := prd_frame hA hpr
        have hdU : ∀ l, hd d l = true → pend ps U l = true := fun l hl => pend_iff.2 ⟨i, hiU, p, d, hp, hcr, hdd, hl⟩
        have hvi : vi S p Γ (fun Γ' => Γ' = Γ.made d x obs) := prd_vi hdd hprd rfl
        have hdn : ∀ l, hd d l = true → pend ps (U.erase i) l = false := fun l hl => by
          cases h : pend ps (U.erase i) l with
          | false => rfl
          | true =>
            exfalso
            obtain ⟨j, hj, i', d', hi', hc, hd2, hl2⟩ := pend_iff.1 h
            have e : d' = d := by
              cases l with
              | nil => simp [hd] at hl
              | cons n l => simp only [hd, beq_iff_eq] at hl2 hl; omega
            subst e
            have := stat_inj hst hi' hp hd2 hdd
            subst this
            exact hL.nodup.not_mem_erase hj
        have hsplit : ∀ l, pend ps (U.erase i) l = false → hd d l = false → pend ps U l = false := fun l h1 h2 => by
          cases h : pend ps U l with
          | false => rfl
          | true =>
            obtain ⟨j, hj, i', d', hi', hc, hd2, hl2⟩ := pend_iff.1 h
            by_cases e : j = i
            · subst e
              rw [hp] at hi'; cases hi'
              rw [hdd] at hd2; cases hd2
              rw [h2] at hl2; cases hl2
            · rw [pend_iff.2 ⟨j, (List.mem_erase_of_ne e).2 hj, i', d', hi', hc, hd2, hl2⟩] at h1
              cases h1
        obtain ⟨k1, k2⟩ := prd_fr hdd hdn hfre hprd
        refine wpOp_of ho (snd_g hS hr hgm hvi) fun a' w' hpost => ?_
        obtain ⟨Γ', σ', ow', hsame, hr', he⟩ := hpost
        have hfd : Free (hd d) Γ := hfr.mono hdU
        have hsame' : Same Γ' (Γ.adds x obs p.dst) := by rw [hsame, hdd]; exact made_same hfd x obs
        refine ih (by rw [List.length_erase_of_mem hiU]; omega) (hL.step hiU) (down_step hD ho hedge) (fun j h1 h2 => (List.mem_erase_of_ne (by omega)).2 (hrest j h1 h2)) (fun l hl => ?_) (hlk' hsame') ?_ hr' fun a2 w2 h2 => hQ _ _ (Post.trans (a' := a2) (K' := K) he h2)
        · rw [hsame'.2 l, hdd]
          simp only [Env.adds, lo_append]
          by_cases hl2 : hd d l = true
          · rw [hEo l hl2]
            split
            · rename_i q hq; exact hq.symm
            · rename_i hq
              rw [hq]
              cases hlg : lo Γ.ob l with
              | none => rfl
              | some q =>
                have h3 := (hfr.ob l q hlg).1
                rw [hdU l hl2] at h3; cases h3
          · have hl3 : hd d l = false := by simpa using hl2
            split
            · rename_i q hq
              rw [hh l q hq] at hl3; cases hl3
            · exact hob l (hsplit l hl hl3)
        · exact ((hfr.mono hpsub).adds k1 (fun l o h => ⟨hdn l (hh l o h), fun ls e => k2 l ls (e ▸ h)⟩) p.dst).same' hsame'
theorem vs_append : ∀ {is js : List I} {Γ : Env}, vs S (is ++ js) Γ K ↔ vs S is Γ fun Γ' => vs S js Γ' K
  | [], _, _ => Iff.rfl
  | i :: is, js, Γ => by
    simp only [List.cons_append, vs]
    have : (fun Γ' => vs S (is ++ js) Γ' K) = fun Γ' => vs S is Γ' fun Γ'' => vs S js Γ'' K := funext fun Γ' => propext vs_append
    rw [this]
/-- The front part of a chain. -/
theorem gms_take {ops : List Oper} : ∀ {is js : List I} {l : List Oper}, gms P N ops (is ++ js) l = true → gms P N ops is (l.take is.length) = true
  | [], _, _, _ => rfl
  | i :: is, js, [], h => by simp [gms] at h
  | i :: is, js, o :: l, h => by
    simp only [List.cons_append, gms, Bool.and_eq_true] at h
    simp only [List.length_cons, List.take_succ_cons, gms, Bool.and_eq_true]
    exact ⟨h.1, gms_take h.2⟩
theorem Rep.drawn {σ : Lab → Value} {ow : Own} {w : World} {a : Act} {Γ : Env} (hr : Rep N G σ ow w a Γ) : Rep N G σ ow { w with drawn := w.drawn + 1 } a Γ := by
  have hu : Upd (fun _ => false) ow w ow { w with drawn := w.drawn + 1 } := ⟨rfl, rfl, rfl, Nat.le_refl _, fun b _ _ => ⟨rfl, rfl⟩⟩
  exact hr.upd hu (fun _ _ => rfl) ⟨fun t x _ => refs_false x, fun l q _ => ⟨rfl, fun ls _ => refsL_false ls⟩⟩
theorem Rep.pre {σ : Lab → Value} {ow : Own} {w : World} {a : Act} {Γ : Env} (hr : Rep N G σ ow w a Γ) : ∀ ds, Rep N G σ ow w a (Γ.pre ds)
  | [] => hr
  | _ :: _ => hr.kill _
theorem Free.pre (Γ : Env) : ∀ ds, Free (hds ds) (Γ.pre ds)
  | [] => ⟨fun t x _ => (by
      have : hds [] = fun _ => false := by funext l; cases l <;> rfl
      rw [this]; exact refs_false x), fun l o _ => ⟨by cases l <;> rfl, fun ls _ => (by
      have : hds [] = fun _ => false := by funext l; cases l <;> rfl
      rw [this]; exact refsL_false ls)⟩⟩
  | _ :: _ => Free.kill _ _
theorem snd_dr (hS : ∀ f as r, S f as r → Sp P f as r) {id : Nat} {ops : Array Oper} {ds : List Nat} {ps ts : List I} (hm : drM P N ds ps ts ops.toList = true) {σ : Lab → Value} {ow : Own} {w : World} {a : Act} {Γ : Env}
    (hr : Rep N G σ ow w a Γ) (hv : vs S ps (Γ.pre ds) fun Γ' => vs S ts Γ' K) (hQ : ∀ a' w', Post N G ow w K a' w' → Q .normal a' w') : (Code.region id ops true).wp P Q a w := by
  simp only [drM, Bool.and_eq_true, beq_iff_eq] at hm
  obtain ⟨⟨⟨⟨⟨⟨hmix, hgm⟩, hst⟩, hE⟩, hP⟩, hT⟩, rfl⟩ := hm
  have hr' := (hr.pre (cdsts ps)).drawn
  have hfree := Free.pre Γ (cdsts ps)
  obtain ⟨E, hE2, hlk, hlo, hF⟩ := chain hS hst (gms_take hgm) hr' hfree hv
  refine wp_region_any hmix ?_
  have he : ops = ops.toList.toArray := by simp
  rw [he]
  have hsz : ops.toList.toArray.size = ops.toList.length := by simp
  rw [hsz]
  have hL := Lst.start ops.toList.length
  have hlen := (gms_at hgm).1
  rw [List.length_append] at hlen
  have hpend : ∀ l, pend ps (List.range ops.toList.length) l = hds (cdsts ps) l := fun l => by
    rw [Bool.eq_iff_iff, pend_iff, hds_iff]
    constructor
    · rintro ⟨j, _, i, d, hi, hc, hdd, hl⟩
      exact ⟨d, List.mem_filterMap.2 ⟨i, List.mem_of_getElem? hi, by simp [I.cdst, hc, hdd]⟩, hl⟩
    · rintro ⟨d, h1, hl⟩
      obtain ⟨i, hi, hid⟩ := List.mem_filterMap.1 h1
      obtain ⟨j, hj⟩ := List.getElem?_of_mem hi
      unfold I.cdst at hid
      split at hid
      · have h2 : j < ps.length := (List.getElem?_eq_some_iff.1 hj).1
        exact ⟨j, by simp only [List.mem_range]; omega, i, d, hj, by assumption, hid, hl⟩
      · cases hid
  have hpf : pend ps (List.range ops.toList.length) = hds (cdsts ps) := funext hpend
  refine any_pre hS hgm hst hE hP hT hF hE2 (by simp) hL (fun i o ho hn => ?_) (fun i _ h => by simp at h ⊢; exact h) (fun l hl => (hlo l (by rw [← hpf]; exact hl)).symm) (fun t ht => (hlk t fun hd => ?_).symm) (by rw [hpf]; exact hfree) hr' fun a' w' h => hQ _ _ ?_
  · exact absurd (by simpa using (List.getElem?_eq_some_iff.1 ho).1) hn
  · simp only [dsts, List.mem_filterMap] at hd
    obtain ⟨p, hp, hpd⟩ := hd
    obtain ⟨j, hj⟩ := List.getElem?_of_mem hp
    refine ht j ?_ p hj hpd
    have h2 : j < ps.length := (List.getElem?_eq_some_iff.1 hj).1
    simp only [List.mem_range]
    omega
  · exact Post.trans (a' := a') (K' := K) (ow := ow) (w := w) (ow' := ow) (w' := { w with drawn := w.drawn + 1 }) ⟨rfl, rfl, rfl, Nat.le_refl _, fun _ _ h => ⟨h, rfl⟩⟩ h
end
end Go.Q

set_option linter.unusedVariables false
namespace Go.Q
def C.m (P : Program) (N : Nat) : C → Code → Bool
  | .skip, .skip => true
  | .rg is, .region _ ops false => gms P N ops.toList is ops.toList
  | .dr ds ps ts, .region _ ops true => drM P N ds ps ts ops.toList
  | .sq a b, .seq x y => a.m P N x && b.m P N y
  | .cd o a b, .cond c x y => o.m c && a.m P N x && b.m P N y
  | .bk id c, .block id' x => id == id' && c.m P N x
  | .lp c, .loop x => c.m P N x
  | .ex id, .exit id' => id == id'
  | .rt, .ret => true
  | .gt t _ _ c, x => c.m P N x
  | .gb _ _ _ _ c, x => c.m P N x
  | _, _ => false
/-- What holds behind some code. -/
def PostC (N : Nat) (G : Nat → Prop) (ow : Own) (w : World) (K : Xt → Env → Prop) : Exit → Act → World → Prop
  | .normal, a', w' => Post N G ow w (K .nrm) a' w'
  | .exit id, a', w' => Post N G ow w (K (.ex id)) a' w'
  | .ret, a', w' => Post N G ow w (K .rt) a' w'
  | _, _, _ => False
/-- A loop. -/
def Lq (P : Program) (N : Nat) (c : C) (Γ : Env) (K : Xt → Env → Prop) : Prop :=
  ∀ G x, c.m P N x = true → ∀ σ ow w a, Rep N G σ ow w a Γ → (Code.loop x).wp P (PostC N G ow w K) a w
section
variable {S : FuncId → List SA → RA → Prop} {P : Program} {N : Nat} {G : Nat → Prop} {σ : Lab → Value} {ow : Own} {w : World} {a : Act} {Γ : Env} {Q : Exit → Act → World → Prop}
theorem PostC.trans {K : Xt → Env → Prop} {ow' : Own} {w' : World} (he : Ext ow w ow' w') {e : Exit} {b : Act} {v : World} (h : PostC N G ow' w' K e b v) : PostC N G ow w K e b v := by
  cases e <;> first | exact h.elim | exact Post.trans (a' := b) (K' := K .nrm) he h
theorem Rep.view (hr : Rep N G σ ow w a Γ) {t : Nat} {x : AV} (hx : RepV σ (fz G ow w) w x (a.tmps.getD t undef)) : Rep N G σ ow w a (Γ.put t x) :=
  ⟨hr.size, hr.defers, fun t' y hy => by
    simp only [Env.put, lk] at hy
    split at hy
    · rename_i e
      cases hy
      subst e; exact hx
    · exact hr.tm t' y hy, hr.ob, hr.own, hr.top⟩
theorem upd_none (p : Lab → Bool) : Upd p ow w ow w := ⟨rfl, rfl, rfl, Nat.le_refl _, fun _ _ _ => ⟨rfl, rfl⟩⟩
/-- An empty slice, as a row of the call's own. -/
theorem Rep.ghost_t (hr : Rep N G σ ow w a Γ) {t : Nat} {c : Ki} {dp : Bool} {k : Ki} (hy : lk Γ.tm t = some (.nl c)) :
    Rep N G (σat σ [t] (a.tmps.getD t undef)) ow w a (((Γ.kill (fun m => m == [t])).new [t] (.row dp false k [])).put t (.sl [t])) := by
  obtain ⟨A, hA⟩ := RepV_nl.1 (hr.tm t _ hy)
  have h1 := (hr.kill (fun m => m == [t])).upd (σ' := σat σ [t] (a.tmps.getD t undef)) (upd_none _) (σat_keep (by simp)) (Free.kill _ Γ)
  have hσ : σat σ [t] (a.tmps.getD t undef) [t] = a.tmps.getD t undef := if_pos rfl
  refine (h1.new (l := [t]) (o := .row dp false k []) ⟨[], ?_, by simp, by simp⟩).view (RepV_sl.2 ⟨A, 0, 0, by rw [hσ]; exact hA, hA⟩)
  rw [hσ, hA]
  unfold RowO
  split <;> exact .inl ⟨⟨A, rfl⟩, rfl, rfl⟩
theorem Rep.ghost_b (hr : Rep N G σ ow w a Γ) {l : Lab} {j : Nat} {c : Ki} {dp : Bool} {k : Ki} {ls : List AV} (hq : lo (Γ.kill (fun m => m == l ++ [j])).ob l = some (.box ls)) (hz : ls[j]? = some (.nl c)) :
    ∃ σ', Rep N G σ' ow w a ⟨(Γ.kill (fun m => m == l ++ [j])).tm, (l ++ [j], .row dp false k []) :: (l, .box (setAt ls j [.sl (l ++ [j])])) :: (Γ.kill (fun m => m == l ++ [j])).ob⟩ := by
  obtain ⟨b, e, cs, h1, h2, h3, h4⟩ := (hr.kill (fun m => m == l ++ [j])).ob l _ hq
  obtain ⟨u, hu, hru⟩ := h4.get hz
  simp only [RepC, List.cons.injEq, and_true] at hru
  obtain ⟨A, rfl⟩ := hru
  refine ⟨σat σ (l ++ [j]) (.slice A 0 0), ?_⟩
  have k1 := (hr.kill (fun m => m == l ++ [j])).upd (σ' := σat σ (l ++ [j]) (.slice A 0 0)) (upd_none _) (σat_keep (by simp)) (Free.kill _ Γ)
  obtain ⟨b', e', cs', g1, g2, g3, g4⟩ := k1.ob l _ hq
  have hne : l ≠ l ++ [j] := fun h => by have := congrArg List.length h; simp at this
  have hcs : cs' = cs ∧ b' = b := by
    have : σat σ (l ++ [j]) (.slice A 0 0) l = σ l := if_neg hne
    rw [this, h1] at g1
    simp only [Value.pointer.injEq, Option.some.injEq, Addr.mk.injEq, and_true] at g1
    subst g1
    rw [h2] at g2
    cases g2
    exact ⟨rfl, rfl⟩
  obtain ⟨rfl, rfl⟩ := hcs
  have hσ : σat σ (l ++ [j]) (.slice A 0 0) (l ++ [j]) = .slice A 0 0 := if_pos rfl
  have hlt : j < cs'.toList.length := (List.getElem?_eq_some_iff.1 hu).1
  have hbox : ObR G (σat σ (l ++ [j]) (.slice A 0 0)) ow w l (.box (setAt ls j [.sl (l ++ [j])])) := by
    refine ⟨b', e', cs', g1, g2, g3, ?_⟩
    have hs := RepCs.setAt (ls := ls) (xs := [.sl (l ++ [j])]) (cs := cs'.toList) (us := [.slice A 0 0]) j g4 ⟨_, [], rfl, by simp only [RepC]; exact ⟨A, 0, 0, hσ, rfl⟩, rfl⟩ (by simp only [List.length_singleton]; omega)
    have ecs : cs'.toList.take j ++ [Value.slice A 0 0] ++ cs'.toList.drop (j + [Value.slice A 0 0].length) = cs'.toList := by
      obtain ⟨h5, h6⟩ := List.getElem?_eq_some_iff.1 hu
      have h7 : cs'.toList.drop (j + [Value.slice A 0 0].length) = cs'.toList.drop (j + 1) := rfl
      rw [h7, List.append_assoc, List.singleton_append, ← h6, List.getElem_cons_drop, List.take_append_drop]
    rw [ecs] at hs
    exact hs
  have k2 := k1.new hbox
  have k3 := k2.new (l := l ++ [j]) (o := .row dp false k []) ⟨[], by
    rw [hσ]
    unfold RowO
    split <;> exact .inl ⟨⟨A, rfl⟩, rfl, rfl⟩, by simp, by simp⟩
  exact k3
theorem snd_c (hS : ∀ f as r, S f as r → Sp P f as r) : ∀ {c : C} {x : Code} {K : Xt → Env → Prop} {σ : Lab → Value} {ow : Own} {w : World} {a : Act} {Γ : Env}, c.m P N x = true → Rep N G σ ow w a Γ → vc S (Lq P N) c Γ K → x.wp P (PostC N G ow w K) a w := by
  intro c
  induction c with
  | skip =>
    intro x K σ ow w a Γ hm hr hv
    cases x <;> simp only [C.m, Bool.false_eq_true] at hm
    exact wp_skip ⟨Γ, σ, ow, hv, hr, Ext.refl ow w⟩
  | rg is =>
    intro x K σ ow w a Γ hm hr hv
    cases x with
    | region id ops draw =>
      cases draw with
      | true => simp [C.m] at hm
      | false => exact wp_region_list (snd_is hS (K := K .nrm) (ops := ops.toList) hm hr hv fun a' w' h => h)
    | _ => simp [C.m] at hm
  | dr ds ps ts =>
    intro x K σ ow w a Γ hm hr hv
    cases x with
    | region id ops draw =>
      cases draw with
      | true => exact snd_dr hS (K := K .nrm) hm hr hv fun a' w' h => h
      | false => simp [C.m] at hm
    | _ => simp [C.m] at hm
  | sq c d ihc ihd =>
    intro x K σ ow w a Γ hm hr hv
    cases x with
    | seq x y =>
      simp only [C.m, Bool.and_eq_true] at hm
      refine wp_seq (wp_mono (ihc hm.1 hr hv) fun e b v h => ?_)
      cases e with
      | normal =>
        obtain ⟨Γ', σ', ow', hk, hr', he⟩ := h
        exact wp_mono (ihd hm.2 hr' hk) fun e b v h => PostC.trans he h
      | exit id => exact h
      | ret => exact h
      | _ => exact h.elim
    | _ => simp [C.m] at hm
  | cd o c d ihc ihd =>
    intro x K σ ow w a Γ hm hr hv
    cases x with
    | cond o' x y =>
      simp only [C.m, Bool.and_eq_true] at hm
      obtain ⟨av, he, hv⟩ := need_iff hv
      have hx := ev_rep hr hm.1.1 he
      split at hv
      · rename_i t
        have hx' : a.eval o' = .bool t := by simpa [RepV, RepU, AV.isS, RepC, Kx_bool] using hx
        exact wp_cond_split hx' (fun ht => ihc hm.1.2 hr (hv.1 ht)) (fun ht => ihd hm.2 hr (hv.2 ht))
      · exact hv.elim
    | _ => simp [C.m] at hm
  | bk id c ih =>
    intro x K σ ow w a Γ hm hr hv
    cases x with
    | block id' x =>
      simp only [C.m, Bool.and_eq_true, beq_iff_eq] at hm
      obtain ⟨rfl, hm⟩ := hm
      refine wp_block (wp_mono (ih hm hr hv) fun e b v h => ?_)
      cases e with
      | normal => exact h
      | exit j =>
        obtain ⟨Γ', σ', ow', hk, hr', he⟩ := h
        simp only [Exit.inBlock]
        dsimp only at hk
        split
        · rename_i e; rw [if_pos e] at hk; exact ⟨Γ', σ', ow', hk, hr', he⟩
        · rename_i e; rw [if_neg e] at hk; exact ⟨Γ', σ', ow', hk, hr', he⟩
      | ret => exact h
      | _ => exact h.elim
    | _ => simp [C.m] at hm
  | lp c ih =>
    intro x K σ ow w a Γ hm hr hv
    cases x with
    | loop x => exact hv G x hm σ ow w a hr
    | _ => simp [C.m] at hm
  | gt t dp k c ih =>
    intro x K σ ow w a Γ hm hr hv
    obtain ⟨y, hy, hv⟩ := need_iff hv
    split at hv
    · exact ih (by simpa [C.m] using hm) (hr.ghost_t hy) hv
    · exact hv.elim
  | gb t j dp k c ih =>
    intro x K σ ow w a Γ hm hr hv
    obtain ⟨y, hy, hv⟩ := need_iff hv
    split at hv
    · obtain ⟨q, hq, hv⟩ := need_iff hv
      split at hv
      · obtain ⟨z, hz, hv⟩ := need_iff hv
        split at hv
        · obtain ⟨σ', hr'⟩ := hr.ghost_b (dp := dp) (k := k) hq hz
          exact ih (by simpa [C.m] using hm) hr' hv
        · exact hv.elim
      · exact hv.elim
    · exact hv.elim
  | ex id =>
    intro x K σ ow w a Γ hm hr hv
    cases x with
    | exit id' =>
      simp only [C.m, beq_iff_eq] at hm
      subst hm
      exact wp_exit ⟨Γ, σ, ow, hv, hr, Ext.refl ow w⟩
    | _ => simp [C.m] at hm
  | rt =>
    intro x K σ ow w a Γ hm hr hv
    cases x <;> simp only [C.m, Bool.false_eq_true] at hm
    exact wp_ret ⟨Γ, σ, ow, hv, hr, Ext.refl ow w⟩
theorem lk_keepT {tm : List (Nat × AV)} {t : Nat} {x : AV} : ∀ {ts : List Nat}, lk (keepT tm ts) t = some x → lk tm t = some x
  | [], h => by simp [keepT, lk] at h
  | k :: ts, h => by
    simp only [keepT] at h
    split at h
    · rename_i a ha
      simp only [lk] at h
      split at h
      · rename_i e; subst e; rw [← h]; exact ha
      · exact lk_keepT h
    · exact lk_keepT h
theorem lo_keepO {ob : List (Lab × Ob)} {l : Lab} {x : Ob} : ∀ {ls : List Lab}, lo (keepO ob ls) l = some x → lo ob l = some x
  | [], h => by simp [keepO, lo] at h
  | k :: ls, h => by
    simp only [keepO] at h
    split at h
    · rename_i a ha
      simp only [lo] at h
      split at h
      · rename_i e; subst e; rw [← h]; exact ha
      · exact lo_keepO h
    · exact lo_keepO h
theorem Rep.keep (hr : Rep N G σ ow w a Γ) (ts : List Nat) (ls : List Lab) : Rep N G σ ow w a (Γ.keep ts ls) :=
  ⟨hr.size, hr.defers, fun t x h => hr.tm t x (lk_keepT h), fun l q h => hr.ob l q (lo_keepO h), hr.own, hr.top⟩
/-- What a round may leave. -/
def Again {T : Type} (ts : List Nat) (ls : List Lab) (I : T → Env) (V : T → Prop) (μ : T → Nat) (n : Nat) (Γ : Env) : Prop := ∃ t, V t ∧ μ t < n ∧ Γ.keep ts ls = I t
def Round {T : Type} (ts : List Nat) (ls : List Lab) (I : T → Env) (V : T → Prop) (μ : T → Nat) (n : Nat) (K : Xt → Env → Prop) : Xt → Env → Prop
  | .nrm, Γ => Again ts ls I V μ n Γ
  | e, Γ => K e Γ
theorem Lq.intro (hS : ∀ f as r, S f as r → Sp P f as r) {T : Type} (ts : List Nat) (ls : List Lab) (I : T → Env) (V : T → Prop) (μ : T → Nat) {c : C} {K : Xt → Env → Prop}
    (h0 : ∃ t, V t ∧ Γ.keep ts ls = I t) (hs : ∀ t, V t → vc S (Lq P N) c (I t) (Round ts ls I V μ (μ t) K)) : Lq P N c Γ K := by
  intro G x hm σ ow w a hr
  obtain ⟨t, hV, hI⟩ := h0
  have hr0 := hr.keep ts ls
  rw [hI] at hr0
  intro b k cs
  have key : ∀ n t σ' ow' w' a', μ t = n → V t → Rep N G σ' ow' w' a' (I t) → Ext ow w ow' w' →
      ∃ e a2 w2, PostC N G ow w K e a2 w2 ∧ Arrives P (lone (b.at a' (.code x :: .inLoop x :: k)) cs w') b k cs e a2 w2 := by
    intro n
    induction n using Nat.strongRecOn with
    | _ n ih =>
      intro t σ' ow' w' a' hn hV hr he
      obtain ⟨e, a₁, w₁, hq, harr⟩ := snd_c hS hm hr (hs t hV) b (.inLoop x :: k) cs
      cases e with
      | normal =>
        obtain ⟨Γ', σ2, ow2, ⟨t', hV', hlt, hI'⟩, hr2, he2⟩ := hq
        have hr3 := hr2.keep ts ls
        rw [hI'] at hr3
        obtain ⟨e₂, a₂, w₂, hq₂, harr₂⟩ := ih (μ t') (hn ▸ hlt) t' σ2 ow2 w₁ a₁ rfl hV' hr3 (he.trans he2)
        exact ⟨e₂, a₂, w₂, hq₂, .of_steps (Steps.trans harr (.one step_inLoop)) harr₂⟩
      | exit id => exact ⟨_, a₁, w₁, PostC.trans (K := K) (e := .exit id) he hq, .pass (x := .inLoop x) rfl (fun _ _ => .inl (by simp)) harr⟩
      | ret => exact ⟨_, a₁, w₁, PostC.trans (K := K) (e := .ret) he hq, .pass (x := .inLoop x) rfl (fun _ _ => .inl (by simp)) harr⟩
      | _ => exact hq.elim
  obtain ⟨e, a', w', hq, harr⟩ := key _ t σ ow w a rfl hV hr0 (Ext.refl ow w)
  exact ⟨e, a', w', hq, .of_steps (.one step_loop) harr⟩
end
end Go.Q

set_option linter.unusedVariables false
namespace Go.Q
/-- Leaves that are the call's own to the bottom. -/
def LsD (w : World) : List AV → List Value → List (List Nat) → Prop
  | [], us, ps => us = [] ∧ ps = []
  | a :: as, us, ps => ∃ c x u us' p ps', a = .v c x ∧ c.isS = false ∧ us = u :: us' ∧ ps = p :: ps' ∧ Dx w c x [u] p ∧ LsD w as us' ps'
def mkOw : Nat → List (List Nat) → Own
  | _, [], _ => none
  | j, p :: ps, b => if b ∈ p then some [j] else mkOw (j + 1) ps b
theorem mkOw_none : ∀ {j : Nat} {ps : List (List Nat)} {b : Nat}, b ∉ ps.flatten → mkOw j ps b = none
  | _, [], _, _ => rfl
  | j, p :: ps, b, h => by
    simp only [List.flatten_cons, List.mem_append, not_or] at h
    simp only [mkOw, h.1, if_false]
    exact mkOw_none h.2
theorem mkOw_at : ∀ {j : Nat} {ps : List (List Nat)} {i : Nat} {p : List Nat} {b : Nat}, ps.flatten.Nodup → ps[i]? = some p → b ∈ p → mkOw j ps b = some [j + i]
  | _, [], _, _, _, _, h, _ => by simp at h
  | j, q :: ps, 0, p, b, hn, h, hb => by
    simp only [List.getElem?_cons_zero, Option.some.injEq] at h
    subst h
    simp [mkOw, hb]
  | j, q :: ps, i + 1, p, b, hn, h, hb => by
    simp only [List.getElem?_cons_succ] at h
    simp only [List.flatten_cons, List.nodup_append] at hn
    have hm : b ∈ ps.flatten := List.mem_flatten.2 ⟨p, List.mem_of_getElem? h, hb⟩
    have : b ∉ q := fun hq => hn.2.2 b hq b hm rfl
    simp only [mkOw, this, if_false]
    rw [mkOw_at hn.2.1 h hb]
    simp; omega
theorem nodup_part : ∀ {ps : List (List Nat)} {p : List Nat}, ps.flatten.Nodup → p ∈ ps → p.Nodup
  | [], _, _, h => by cases h
  | q :: ps, p, hn, h => by
    simp only [List.flatten_cons, List.nodup_append] at hn
    rcases List.mem_cons.1 h with rfl | h
    · exact hn.1
    · exact nodup_part hn.2.1 h
theorem LsD.append {w : World} : ∀ {as bs : List AV} {us vs : List Value} {ps qs : List (List Nat)}, LsD w as us ps → LsD w bs vs qs → LsD w (as ++ bs) (us ++ vs) (ps ++ qs)
  | [], _, _, _, _, _, ⟨h1, h2⟩, h => by subst h1 h2; exact h
  | a :: as, _, _, _, _, _, ⟨c, x, u, us', p, ps', e, hs, e1, e2, hd, hr⟩, h => by
    subst e1 e2
    exact ⟨c, x, u, _, p, _, e, hs, rfl, rfl, hd, hr.append h⟩
theorem lv_D {w : World} : ∀ {f : Nat} {cs : List Ki} {h : HL cs} {va : List Value} {bs : List Nat}, fok f cs = true → HAllD (Dx w) cs h va bs → ∃ ps, LsD w (lv f cs h) va ps ∧ bs = ps.flatten := by
  intro f
  induction f with
  | zero => intro cs h va bs hf; simp [fok] at hf
  | succ f ih =>
    intro cs h va bs hf hD
    cases cs with
    | nil =>
      obtain ⟨h1, h2⟩ := hD
      exact ⟨[], ⟨h1, rfl⟩, h2⟩
    | cons c cs =>
      obtain ⟨a, b, p, q, rfl, hl, rfl, hd, hr⟩ := hD
      by_cases hS : ∃ n, c = .struct n
      · obtain ⟨n, rfl⟩ := hS
        simp only [fok, Bool.and_eq_true] at hf
        obtain ⟨ps, h1, rfl⟩ := ih hf.1 (Dx_struct.1 hd)
        obtain ⟨qs, h2, rfl⟩ := ih hf.2 hr
        exact ⟨ps ++ qs, h1.append h2, by simp⟩
      · have hcs : c.isS = false := by
          cases c <;> first | rfl | exact absurd ⟨_, rfl⟩ hS
        have hf' : fok f cs = true := by cases c <;> first | exact hf | exact absurd ⟨_, rfl⟩ hS
        have hlv : lv (f + 1) (c :: cs) h = .v c h.1 :: lv f cs h.2 := by
          cases c <;> first | rfl | exact absurd ⟨_, rfl⟩ hS
        obtain ⟨qs, h2, rfl⟩ := ih hf' hr
        have h1 := isS_sz hcs
        obtain ⟨e, rfl⟩ : ∃ e, a = [e] := List.length_eq_one_iff.1 (hl.trans h1)
        rw [hlv]
        exact ⟨p :: qs, ⟨c, h.1, e, b, p, qs, rfl, hcs, rfl, rfl, hd, h2⟩, by simp⟩
section
variable {P : Program} {N : Nat} {G : Nat → Prop} {σ : Lab → Value} {ow : Own} {w : World} {a : Act} {Γ : Env}
theorem flat_bs {c : Ki} {x : c.T} {u : List Value} {p : List Nat} (hc : c.isS = false) (hs : ∀ e, c ≠ .slice e) (h : Dx w c x u p) : p = [] := by
  cases c with
  | int k => exact (Dx_int.1 h).2.2
  | bool => exact (Dx_bool.1 h).2
  | str => exact (Dx_str.1 h).2.2
  | slice e => exact absurd rfl (hs e)
  | struct n => simp [Ki.isS] at hc
  | ptr c => obtain ⟨d, h⟩ := h; cases d <;> exact h.elim
theorem ownL_rep {F : Nat → Prop} : ∀ {ls : List AV} {us : List Value} {ps : List (List Nat)} {j : Nat}, LsD w ls us ps → (∀ i u, us[i]? = some u → σ [j + i] = u) → (∀ i p, ps[i]? = some p → p.Nodup ∧ ∀ b ∈ p, ow b = some [j + i]) →
    RepCs σ F w (ownL [] j ls).1 us ∧ ∀ k q, lo (ownL [] j ls).2 k = some q → ObR G σ ow w k q
  | [], us, ps, j, ⟨h1, h2⟩, _, _ => ⟨h1, fun k q h => by simp [ownL, lo] at h⟩
  | a :: as, us, ps, j, ⟨c, x, u, us', p, ps', e, hs, e1, e2, hd, hr⟩, hσ, how => by
    subst e e1 e2
    obtain ⟨h1, h2⟩ := ownL_rep (j := j + 1) hr (fun i v hv => by have := hσ (i + 1) v hv; rwa [show j + (i + 1) = j + 1 + i by omega] at this)
      (fun i p hp => by have := how (i + 1) p hp; rwa [show j + (i + 1) = j + 1 + i by omega] at this)
    have hu : σ [j] = u := hσ 0 u rfl
    by_cases hsl : ∃ e, c = .slice e
    · obtain ⟨e, rfl⟩ := hsl
      obtain ⟨u', e1, hrow⟩ := Dx_slice.1 hd
      cases e1
      have hrow' : RowO w (fz G ow w) true e x u p := by simp only [RowO, if_true]; exact hrow
      obtain ⟨A, cap, eu, _, _⟩ := row_form hrow'
      obtain ⟨hnd, hob⟩ := how 0 p rfl
      refine ⟨?_, fun k q hq => ?_⟩
      · simp only [ownL, List.nil_append, RepCs]
        exact ⟨u, us', rfl, ⟨A, _, cap, hu.trans eu, by rw [eu]⟩, h1⟩
      · simp only [ownL, List.nil_append, lo] at hq
        split at hq
        · rename_i ek
          subst ek
          cases hq
          exact ⟨p, hu ▸ hrow', hnd, fun b hb => by simpa using hob b hb⟩
        · exact h2 k q hq
    · have hne : ∀ e, c ≠ .slice e := fun e h => hsl ⟨e, h⟩
      have hp := flat_bs hs hne hd
      subst hp
      have hK : Kx F w c x [u] := hd.read fun b hb => by cases hb
      have e1 : (ownL [] j (.v c x :: as)).1 = .v c x :: (ownL [] (j + 1) as).1 ∧ (ownL [] j (.v c x :: as)).2 = (ownL [] (j + 1) as).2 := by
        cases c <;> first | exact ⟨rfl, rfl⟩ | exact absurd rfl (hne _)
      rw [e1.1, e1.2]
      exact ⟨⟨u, us', rfl, hK, h1⟩, h2⟩
/-- What is the call's own can be handed over. -/
theorem ResR_o {c : Ki} {y : c.T} {u : Value} {bs : List Nat} (hd : Dx w c y u.cells.toList bs) (hnd : bs.Nodup) (hu : u = valOf c u.cells.toList) :
    ∃ ow', (∀ b, b ∉ bs → ow' b = none) ∧ ResR G ow' w (.o c y) u := by
  by_cases hS : c.isS = true
  · cases c <;> simp [Ki.isS] at hS
    rename_i n
    obtain ⟨ps, hL, rfl⟩ := lv_D (fok99 n) (Dx_struct.1 hd)
    obtain ⟨h1, h2⟩ := ownL_rep (G := G) (F := fz G (mkOw 0 ps) w) (σ := fun l => match l with | [i] => u.cells.toList.getD i undef | _ => undef) (ow := mkOw 0 ps) (j := 0) hL
      (fun i v hv => by simp [List.getD_eq_getElem?_getD]; simpa using congrArg (Option.getD · undef) hv)
      (fun i p hp => ⟨nodup_part hnd (List.mem_of_getElem? hp), fun b hb => mkOw_at hnd hp hb⟩)
    refine ⟨mkOw 0 ps, fun b hb => mkOw_none hb, _, ?_, h2⟩
    simp only [RA.intro, RepV, RepU, AV.isS, if_true]
    have hlen := hd.len
    refine ⟨u.cells.toList, by rw [hu]; simp [valOf, Ki.isS, Value.cells], ?_⟩
    simp only [RepC]
    exact ⟨h1.length.symm.trans hlen, h1⟩
  · have hS' : c.isS = false := by simpa using hS
    have h1 := isS_sz hS'
    obtain ⟨e, he⟩ : ∃ e, u.cells.toList = [e] := List.length_eq_one_iff.1 (hd.len.trans h1)
    rw [he] at hd hu
    have hue : u = e := by rw [hu]; simp [valOf, hS']
    subst hue
    by_cases hsl : ∃ e, c = .slice e
    · obtain ⟨e, rfl⟩ := hsl
      obtain ⟨u', e1, hrow⟩ := Dx_slice.1 hd
      cases e1
      let ow' : Own := fun b => if b ∈ bs then some [] else none
      have hrow' : RowO w (fz G ow' w) true e y u bs := by simp only [RowO, if_true]; exact hrow
      obtain ⟨A, cap, eu, _, _⟩ := row_form hrow'
      refine ⟨ow', fun b hb => if_neg hb, fun _ => u, ?_, fun k q hq => ?_⟩
      · simp only [RA.intro]
        exact RepV_sl.2 ⟨A, _, cap, eu, eu⟩
      · simp only [RA.intro, lo] at hq
        split at hq
        · rename_i ek
          subst ek
          cases hq
          exact ⟨bs, hrow', hnd, fun b hb => if_pos hb⟩
        · cases hq
    · have hne : ∀ e, c ≠ .slice e := fun e h => hsl ⟨e, h⟩
      have hp := flat_bs hS' hne hd
      subst hp
      refine ⟨fun _ => none, fun _ _ => rfl, fun _ => undef, ?_, ?_⟩
      · have e1 : (RA.o c y).intro [] = (.v c y, []) := by
          cases c <;> first | rfl | exact absurd rfl (hne _) | simp [Ki.isS] at hS'
        rw [e1]
        exact RepV_cells (hd.read fun b hb => by cases hb) hu
      · have e1 : ((RA.o c y).intro []).2 = [] := by
          cases c <;> first | rfl | exact absurd rfl (hne _) | simp [Ki.isS] at hS'
        rw [e1]
        intro l q h
        simp [lo] at h
theorem pkO_val {ob : List (Lab × Ob)} {c : Ki} {x : AV} {r : c.T × List Lab} (h : pkO ob c x = some r) {F : Nat → Prop} {u : Value} (hx : RepV σ F w x u) (hd : ∃ bs y, Dx w c y u.cells.toList bs) : u = valOf c u.cells.toList := by
  unfold pkO at h
  split at h
  · rename_i n m ls
    simp only [RepV, RepU, AV.isS, if_true, RepC] at hx
    obtain ⟨cs, rfl, _, _⟩ := hx
    simp [valOf, Ki.isS, Value.cells]
  · rename_i hne
    obtain ⟨hS, htu⟩ := pkOL_leaf h
    have hc : c.isS = false := by
      unfold pkOL at h
      split at h <;> first | rfl | cases h
    have hC : RepC σ F w x [u] := by
      cases x with
      | tu vs => exact absurd rfl (htu vs)
      | _ => simp only [RepV, RepU, hS, Bool.false_eq_true, if_false] at hx; exact hx
    obtain ⟨bs, y, hd⟩ := hd
    cases u with
    | agg cs =>
      exfalso
      unfold pkOL at h
      split at h
      · simp only [RepC] at hC; obtain ⟨A, n, cp, _, e⟩ := hC; simp at e
      · simp [RepC] at hC
      all_goals first
        | (simp only [Option.map_eq_some_iff] at h; obtain ⟨y', hy, _⟩ := h; rw [as_eq hy] at hC; simp [RepC, Kx_int, Kx_bool, Kx_str] at hC)
        | cases h
    | _ => simp [valOf, hc, Value.cells]
end
end Go.Q

set_option linter.unusedVariables false
namespace Go.Q
/-- A result variable, and how it is handed over. -/
inductive RV where
  | t (n : Nat) (m : RM)
  | c (n : Nat) (m : RM)
def RM.k : RM → Ki
  | .v c => c
  | .o c => c
  | .s c => .slice c
def RV.m : RV → RM
  | .t _ m => m
  | .c _ m => m
def boxA (k : Ki) (ls : List AV) : Option AV :=
  match k with
  | .struct n => if ls.length = ssz n then some (.ag n ls) else none
  | _ => (match ls with
    | [a] => if a.leaf then some a else none
    | _ => none)
def rav (Γ : Env) : RV → Option AV
  | .t n _ => lk Γ.tm n
  | .c n m => (match lk Γ.tm n with
    | some (.pt l 0) => (match lo Γ.ob l with
      | some (.box ls) => boxA m.k ls
      | _ => none)
    | _ => none)
def nodL : List Lab → Bool
  | [] => true
  | l :: ls => !ls.contains l && nodL ls
theorem nodL_nodup : ∀ {ls : List Lab}, nodL ls = true → ls.Nodup
  | [], _ => List.nodup_nil
  | l :: ls, h => by
    simp only [nodL, Bool.and_eq_true] at h
    exact List.nodup_cons.2 ⟨by simpa using h.1, nodL_nodup h.2⟩
def rx1 (Γ : Env) (a : AV) : RM → Option RA
  | .v c => (pk Γ.ob c a).map (RA.v c)
  | .o c => (pkO Γ.ob c a).bind fun r => if nodL r.2 then some (.o c r.1) else none
  | .s c => (match a with
    | .sl l => (match lo Γ.ob l with
      | some (.row false p c' xs) => (Ob.as c (.row false p c' xs)).map (RA.s c)
      | _ => none)
    | _ => none)
def rx (Γ : Env) : List RV → Option RA
  | [] => some (.t [])
  | [v] => (rav Γ v).bind fun a => rx1 Γ a v.m
  | _ => none
def Fin (vs : List RV) (r : RA) : Xt → Env → Prop
  | .ex _, _ => False
  | _, Γ => rx Γ vs = some r
def entry : Nat → List SA → List (Nat × AV)
  | _, [] => []
  | i, .v c x :: r => (i, .v c x) :: entry (i + 1) r
  | i, .fn f cs :: r => (i, .fn f (capV cs)) :: entry (i + 1) r
  | i, .io _ _ :: r => entry (i + 1) r
def rvM (P : Program) (N : Nat) : RV → ResultVar → Bool
  | .t n _, .tmp t => n == t
  | .c n m, .cell a t => n == a && tk P t m.k
  | _, _ => false
def rvsM (P : Program) (N : Nat) : List RV → List ResultVar → Bool
  | [], [] => true
  | [v], [x] => rvM P N v x
  | _, _ => false
def fnM (P : Program) (fn : Func) (N : Nat) (c : C) (vs : List RV) : Bool :=
  fn.name != "runtime.NumGoroutine" && fn.ntmps == N && (match fn.body with | some x => c.m P N x | none => false) && rvsM P N vs fn.results.toList
section
variable {P : Program} {N : Nat} {G : Nat → Prop} {σ : Lab → Value} {ow : Own} {w w0 : World} {a : Act} {Γ : Env}
theorem own_new (he : Ext (fun _ => none) w0 ow w) {b : Nat} {l : Lab} (h : ow b = some l) : w0.heap.size ≤ b := by
  rcases Nat.lt_or_ge b w0.heap.size with h' | h'
  · rw [(he.block b h' rfl).1] at h; cases h
  · exact h'
theorem ext_own (he : Ext (fun _ => none) w0 ow w) {ow' : Own} (h : ∀ b, b < w0.heap.size → ow' b = none) : Ext (fun _ => none) w0 ow' w :=
  ⟨he.os, he.tape, he.output, he.size, fun b hb hn => ⟨h b hb, (he.block b hb hn).2⟩⟩
theorem rx1_rep (hr : Rep N G σ ow w a Γ) (he : Ext (fun _ => none) w0 ow w) {m : RM} {x : AV} {r : RA} (h : rx1 Γ x m = some r) {u : Value} (hx : RepV σ (fz G ow w) w x u) :
    ∃ ow', ResR G ow' w r u ∧ Ext (fun _ => none) w0 ow' w := by
  cases m with
  | v c =>
    simp only [rx1, Option.map_eq_some_iff] at h
    obtain ⟨y, hp, rfl⟩ := h
    refine ⟨fun _ => none, ⟨fun _ => undef, ?_, fun l q h => by simp [RA.intro, lo] at h⟩, ext_own he fun _ _ => rfl⟩
    exact pk_rep (F' := fz G (fun _ => none) w) hr.ob (fun b hb => ⟨rfl, hb.2⟩) hp hx fun _ b l hb hlt => ⟨rfl, hlt, hr.own b l hb⟩
  | o c =>
    simp only [rx1, Option.bind_eq_some_iff] at h
    obtain ⟨⟨y, labs⟩, hp, h⟩ := h
    split at h
    · rename_i hn
      cases h
      obtain ⟨bs, hd, hnd, hob⟩ := pkO_rep hr.ob hp hx (nodL_nodup hn)
      obtain ⟨ow', h1, h2⟩ := ResR_o (G := G) hd hnd (pkO_val hp hx ⟨bs, y, hd⟩)
      refine ⟨ow', h2, ext_own he fun b hb => h1 b fun hb' => ?_⟩
      obtain ⟨l, _, hl⟩ := hob b hb'
      have := own_new he hl
      omega
    · cases h
  | s c =>
    simp only [rx1] at h
    split at h
    · rename_i l
      split at h
      · rename_i p c' xs hl
        simp only [Option.map_eq_some_iff] at h
        obtain ⟨y, hy, rfl⟩ := h
        have e := oas_eq hy
        simp only [Ob.row.injEq, true_and] at e
        obtain ⟨rfl, e⟩ := e
        obtain rfl := eq_of_heq e
        obtain ⟨bs, hrow, hnd, how⟩ := hr.ob _ _ hl
        obtain ⟨A, n, cp, hs, e⟩ := RepV_sl.1 hx
        let ow' : Own := fun b => if b ∈ bs then some [] else none
        have hfz : ∀ b, fz G ow w b → fz G ow' w b := fun b hb => ⟨if_neg (fun hb' => by have h1 := hb.1; rw [how b hb'] at h1; cases h1), hb.2⟩
        refine ⟨ow', ⟨fun _ => u, ?_, fun k q hq => ?_⟩, ext_own he fun b hb => if_neg fun hb' => ?_⟩
        · simp only [RA.intro]
          exact RepV_sl.2 ⟨A, n, cp, e, e⟩
        · simp only [RA.intro, lo] at hq
          split at hq
          · rename_i ek
            subst ek
            cases hq
            refine ⟨bs, ?_, hnd, fun b hb => if_pos hb⟩
            rw [hs, ← e] at hrow
            exact hrow.keep (fun b hb => ⟨hfz b hb, rfl⟩) (fun _ _ => rfl)
          · cases hq
        · have := own_new he (how b hb')
          omega
      · cases h
    · cases h
theorem res_val (hr : Rep N G σ ow w a Γ) {v : RV} {x : ResultVar} {y : AV} (hm : rvM P N v x = true) (h : rav Γ v = some y) :
    ∃ u, ((match x with | .tmp t => pure (a.tmps.getD t undef) | .cell b t => do loadVar t (← asAddr (a.tmps.getD b undef)) : Sem Value)).run P w = .ok u w ∧ RepV σ (fz G ow w) w y u := by
  cases v with
  | t n m =>
    cases x with
    | tmp t =>
      simp only [rvM, beq_iff_eq] at hm
      subst hm
      exact ⟨_, rfl, hr.tm _ _ h⟩
    | cell b t => simp [rvM] at hm
  | c n m =>
    cases x with
    | tmp t => simp [rvM] at hm
    | cell b t =>
      simp only [rvM, Bool.and_eq_true, beq_iff_eq] at hm
      obtain ⟨rfl, ht⟩ := hm
      simp only [rav] at h
      split at h
      · rename_i l hl
        split at h
        · rename_i ls hlo
          obtain ⟨b, e, cs, hs, hg, hown, hreps⟩ := hr.ob _ _ hlo
          obtain ⟨b', hs', eu⟩ := RepV_pt.1 (hr.tm _ _ hl)
          rw [hs] at hs'
          cases hs'
          have hcs : cs.toList.length = ls.length := hreps.length
          have key : ∀ es, es.length = m.k.sz → cs.toList = es → (do loadVar t (← asAddr (a.tmps.getD n undef)) : Sem Value).run P w = .ok (valOf m.k es) w := fun es hl hc => by
            have := run_load_cells ht w ⟨b, 0, none⟩ es hl (Cells_box hg 0 es fun j u hj => by rw [← hc] at hj; simpa using hj)
            simp only [Instr.loadAt, Instr.sureAddr, Sem.run_bind, Sem.run_pure, Result.andThen_ok] at this
            rw [eu]
            simp only [asAddr, Sem.run_bind, Sem.run_pure, Result.andThen_ok, this]
          unfold boxA at h
          split at h
          · rename_i n' hk
            split at h
            · rename_i hlen
              cases h
              refine ⟨_, key cs.toList (by rw [hk]; simp only [Ki.sz, ← hlen, hcs]) rfl, ?_⟩
              simp only [RepV, RepU, AV.isS, if_true, valOf, hk, Ki.isS, RepC]
              exact ⟨_, rfl, hlen, hreps⟩
            · cases h
          · rename_i hns
            split at h
            · rename_i a0
              split at h
              · rename_i hleaf
                cases h
                simp only [RepCs] at hreps
                obtain ⟨u, us, e1, h1, h2⟩ := hreps
                subst h2
                have hcS : m.k.isS = false := by cases hk : m.k <;> simp_all [Ki.isS]
                refine ⟨_, key [u] (by simp [isS_sz hcS]) e1, ?_⟩
                simp only [valOf, hcS, Bool.false_eq_true, if_false, List.headD_cons]
                refine RepV_leaf h1 ?_
                cases y <;> simp_all [AV.leaf, AV.isS]
                rename_i c' x'
                cases c' <;> simp_all
              · cases h
            · cases h
        · cases h
      · cases h
theorem res_rep (hr : Rep N G σ ow w a Γ) (he : Ext (fun _ => none) w0 ow w) {fn : Func} {vs : List RV} {r : RA} (hm : rvsM P N vs fn.results.toList = true) (h : rx Γ vs = some r) :
    ∃ u, (results fn a.tmps).run P w = .ok u w ∧ ∃ ow', ResR G ow' w r u ∧ Ext (fun _ => none) w0 ow' w := by
  unfold rx at h
  split at h
  · cases h
    have h0 : fn.results = #[] := by
      cases hq : fn.results.toList with
      | nil => simpa using hq
      | cons x xs => rw [hq] at hm; simp [rvsM] at hm
    refine ⟨_, results_none h0 _ _ _, fun _ => none, ⟨fun _ => undef, ?_, fun l q h => by simp [RA.intro, introL, lo] at h⟩, ext_own he fun _ _ => rfl⟩
    simp [RA.intro, introL, RepV, RepUs]
  · rename_i v
    simp only [Option.bind_eq_some_iff] at h
    obtain ⟨y, hv, hx⟩ := h
    obtain ⟨x, h0⟩ : ∃ x, fn.results.toList = [x] := by
      cases hq : fn.results.toList with
      | nil => rw [hq] at hm; simp [rvsM] at hm
      | cons x xs => cases xs with
        | nil => exact ⟨x, rfl⟩
        | cons x' xs => rw [hq] at hm; simp [rvsM] at hm
    rw [h0] at hm
    obtain ⟨u, hu, hrep⟩ := res_val (w := w) hr hm hv
    refine ⟨u, ?_, rx1_rep hr he hx hrep⟩
    have h1 : fn.results = #[x] := by
      apply Array.toList_inj.1
      simpa using h0
    cases x with
    | tmp t =>
      have : u = a.tmps.getD t undef := by simpa using hu.symm
      subst this
      exact results_tmp h1 _ _ _
    | cell b t =>
      dsimp only at hu
      simp [results, h1]
      simp at hu
      rw [hu]
  · cases h
end
end Go.Q

set_option linter.unusedVariables false
namespace Go.Q
section
variable {P : Program} {N : Nat} {F : Nat → Prop} {w : World}
theorem entry_rep {σ : Lab → Value} {F' : Nat → Prop} (hF : ∀ b, F b → F' b) : ∀ {as : List SA} {us : List Value} {i t : Nat} {x : AV}, ArgsR F w as us → lk (entry i as) t = some x → ∃ j, t = i + j ∧ ∃ u, us[j]? = some u ∧ RepV σ F' w x u
  | [], us, i, t, x, _, h => by simp [entry, lk] at h
  | s :: ss, us, i, t, x, ⟨u, r, e, hs, hr⟩, h => by
    subst e
    have tail : lk (entry (i + 1) ss) t = some x → ∃ j, t = i + j ∧ ∃ v, (u :: r)[j]? = some v ∧ RepV σ F' w x v := fun h => by
      obtain ⟨j, e, v, hv, hx⟩ := entry_rep hF hr h
      exact ⟨j + 1, by omega, v, by simpa using hv, hx⟩
    cases s with
    | v c y =>
      simp only [entry, lk] at h
      split at h
      · rename_i e
        cases h
        refine ⟨0, e.symm, u, rfl, ?_⟩
        exact RepV.keep (σ := fun _ => undef) (p := fun _ => true) (fun _ h => by cases h) (fun b hb => ⟨hF b hb, rfl⟩) rfl hs
      · exact tail h
    | fn f =>
      simp only [entry, lk] at h
      split at h
      · rename_i e
        cases h
        exact ⟨0, e.symm, u, rfl, RepV.keep (σ := fun _ => undef) (p := fun _ => true) (fun _ h => by cases h) (fun b hb => ⟨hF b hb, rfl⟩) (capV_refs _) hs⟩
      · exact tail h
    | io c y => exact hs.elim
theorem ArgsR.length : ∀ {as : List SA} {us : List Value}, ArgsR F w as us → us.length = as.length
  | [], _, h => by cases h; rfl
  | s :: ss, us, ⟨u, r, e, _, hr⟩ => by subst e; simp [hr.length]
theorem Sp.intro {S : FuncId → List SA → RA → Prop} (hS : ∀ f as r, S f as r → Sp P f as r) {f : FuncId} {fn : Func} {c : C} {vs : List RV} {as : List SA} {r : RA} (hfn : P.funcs[f]? = some fn) (hm : fnM P fn N c vs = true) (hn : Nat.ble as.length N = true)
    (h : vc S (Lq P N) c ⟨entry 0 as, []⟩ (Fin vs r)) : Sp P f as r := by
  simp only [fnM, Bool.and_eq_true, beq_iff_eq] at hm
  obtain ⟨⟨⟨hname, hN⟩, hb⟩, hv⟩ := hm
  refine ⟨?_, fun F w us hF hA => ?_⟩
  · unfold callOk
    rw [hfn]
    simp only [hname, Bool.true_and]
    cases hbody : fn.body with
    | none => rw [hbody] at hb; cases hb
    | some x => rfl
  cases hbody : fn.body with
  | none => rw [hbody] at hb; cases hb
  | some x =>
    rw [hbody] at hb
    have hlen := hA.length
    have hn' : as.length ≤ N := Nat.le_of_ble_eq_true hn
    refine calls_of_wp hfn hbody (wp_mono (snd_c hS (σ := fun _ => undef) (ow := fun _ => none) (G := fun b => F b ∨ w.heap.size ≤ b) hb ?_ h) fun e a' w' hq => ?_)
    · refine ⟨?_, rfl, fun t y hy => ?_, fun l q hq => (by simp [lo] at hq), fun b l hb => (by cases hb), fun b hb => .inr hb⟩
      · simp only [Array.size_append, List.size_toArray, Array.size_replicate, hN]
        omega
      · obtain ⟨j, e, u, hu, hx⟩ := entry_rep (F' := fz (fun b => F b ∨ w.heap.size ≤ b) (fun _ => none) w) (σ := fun _ => undef) (fun b hb => ⟨rfl, hF b hb, .inl hb⟩) hA hy
        have : t = j := by omega
        subst this
        have hlt : t < us.length := (List.getElem?_eq_some_iff.1 hu).1
        have e1 : (us.toArray ++ Array.replicate (fn.ntmps - us.toArray.size) undef).getD t undef = u := by
          rw [Array.getD_eq_getD_getElem?, Array.getElem?_append_left (by simpa using hlt)]
          simp [hu]
        rw [e1]
        exact hx
    · cases e with
      | normal =>
        obtain ⟨Γ', σ', ow', hk, hr, he⟩ := hq
        obtain ⟨u, hu, o2, h1, h2⟩ := res_rep hr he hv hk
        exact ⟨hr.defers, u, hu, u, o2, rfl, h1, h2⟩
      | ret =>
        obtain ⟨Γ', σ', ow', hk, hr, he⟩ := hq
        obtain ⟨u, hu, o2, h1, h2⟩ := res_rep hr he hv hk
        exact ⟨hr.defers, u, hu, u, o2, rfl, h1, h2⟩
      | exit id => obtain ⟨Γ', σ', ow', hk, _⟩ := hq; exact hk.elim
      | _ => exact hq.elim
end
end Go.Q
