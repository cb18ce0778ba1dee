/- Plans: contexts of generators, base terms, and the right plans. -/
import Derived.Test.YtmkelbchboiliaaGreatV14
set_option linter.unusedVariables false
set_option linter.unusedSimpArgs false
set_option maxHeartbeats 2000000
namespace Go.Q
def AnsC(r:List Typing×Bool)(o:Option (List Typing)):Prop:=r.2=o.isSome∧∀c,o=some c->r.1=c
theorem p_implHas(nf:Nat)(hn:200000000<nf)(s:Schema)(hS:8*zSchema s+1<nf)(hSb:zSchema s<=16777216)(hR:∀x∈s.tables,nVal x.row=true)(ctx:List Typing)(hv:∀x∈ctx,nVal x.type=true)(hl:ctx.length<=4000000)(e:Tm)(k:Int)(he:8*zTm e+1<nf)(heb:zTm e<=1048576):m_ZA nf s ctx e k=some (hB s ctx e k):=by
 have hd:=nDepT_le e
 have hs:=nSzT_le e
 rw[m_ZA_eq,p_implFormT nf nf e he he (by omega),cb_some,p_implBase nf nf e false he he (by omega),cb_some]
 unfold hB
 have h5t:j5_ZA nf ctx e k s true=some false:=by rw[j5_ZA_eq,br_true]
 simp only[mark_eq]
 cases hF:nFormT e with
 |false=>rw[Bool.not_false,br_tf,h5t];rfl
 |true=>
  cases hb:bT false e with
  |false=>rw[Bool.not_true,br_ff2,Bool.not_false,h5t];rfl
  |true=>
   obtain⟨r,er,h1,h2⟩:=T_impl nf hn s hS hSb hR (nDepT e) nf ctx e (by omega) (Nat.le_refl _) ⟨by omega,fun i hi=>hv _ (gt_mem ctx hi _)⟩ hF he (by omega)
   rw[Bool.not_true,br_ff2,j5_ZA_eq,br_false,er,cb_some]
   cases ht:nT s (nDepT e) ctx e with
   |none=>rw[ht]at h1;rw[h1];rfl
   |some t=>rw[ht]at h1 h2;rw[h1,h2 t rfl];rfl
theorem p_specHas(nf:Nat)(hn:200000000<nf)(s:Schema)(hS:8*zSchema s+1<nf)(hSb:zSchema s<=16777216)(hR:∀x∈s.tables,nVal x.row=true)(ctx:List Typing)(hv:∀x∈ctx,nVal x.type=true)(hl:ctx.length<=4000000)(e:Tm)(k:Int)(hk:k=1∨k=2)(he:8*zTm e+1<nf)(heb:zTm e<=1048576):m_Zbv nf s ctx e (Ty.mk k [] [])=some (hB s ctx e k):=by
 have hd:=nDepT_le e
 have hs:=nSzT_le e
 rw[m_Zbv_eq,Tm.h_eq,p_specFormT nf nf e he he (by omega),cb_some]
 unfold hB
 have h7f:j7_Zbv nf ctx s e (Ty.mk k [] []) false=some false:=by rw[j7_Zbv_eq,br_false,mark_eq,j10_Zbv_eq];rfl
 simp only[mark_eq]
 cases hF:nFormT e with
 |false=>rw[br_ff,h7f];rfl
 |true=>
  rw[beq_self_eq_true,br_true,p_specBase nf nf e he he (by omega) hF,cb_some]
  cases hb:bT false e with
  |false=>rw[h7f];rfl
  |true=>
   obtain⟨r,er,⟨h1,h2⟩,_⟩:=T_spec nf hn s hS hSb hR (nDepT e) nf ctx e (by omega) (Nat.le_refl _) ⟨by omega,fun i hi=>hv _ (gt_mem ctx hi _)⟩ hF he (by omega)
   rw[j7_Zbv_eq,br_true,Tm.h_eq,er,cb_some,mark_eq,j10_Zbv_eq,Ty.eta,Ty.h_eq]
   cases ht:nT s (nDepT e) ctx e with
   |none=>rw[ht]at h1;rw[h1];rfl
   |some t=>
    rw[ht]at h1 h2
    have hvt:=nT_val ht
    have hz:=val_z hvt
    rw[h1,h2 t rfl,show((some t:Option Ty).isSome==true)=true from rfl,br_true,p_specEq nf nf t _ (by omega) (by omega) (by omega),cb_some,eqT_base hvt k hk];rfl
end Go.Q
