/- Plans: contexts of generators, base terms, and the right plans. -/
import Derived.Test.YtmkelbchboiliaaGreatV14
set_option linter.unusedVariables false
set_option linter.unusedSimpArgs false
set_option maxHeartbeats 2000000
namespace Go.Q
def AnsC(r:List Typing×Bool)(o:Option (List Typing)):Prop:=r.2=o.isSome∧∀c,o=some c->r.1=c
theorem p_genCtx(nf:Nat)(hn:200000000<nf)(s:Schema)(hS:8*zSchema s+1<nf)(hSb:zSchema s<=16777216)(gens:List Gen)(hg:∀g∈gens,g.var.length<=16777216)(hl:gens.length<=4000000):
  ∃r,m_ZC nf s [] gens=some r∧AnsC r (gC s [] gens)∧(gC s [] gens=none->r.1=[]):=by
 have key:∀k i m (ctx:List Typing),i+k=gens.length->k<m->ctx.length<=i->∃r,l6_ZC nf m gens s ctx (i:Int)=some r∧AnsC r (gC s ctx (gens.drop i))∧(gC s ctx (gens.drop i)=none->r.1=[]):=by
  intro k
  induction k with
  |zero=>
   intro i m ctx hi hm _
   obtain⟨m,rfl⟩:∃m',m=m'+1:=⟨m-1,by omega⟩
   have c0:¬(i:Int)<(gens.length:Int):=by omega
   rw[l6_ZC_eq,br_neg c0,List.drop_eq_nil_of_le (by omega)]
   exact⟨_,rfl,⟨rfl,fun _ h=>by cases h;rfl⟩,fun h=>by cases h⟩
  |succ k ih=>
   intro i m ctx hi hm hc
   obtain⟨m,rfl⟩:∃m',m=m'+1:=⟨m-1,by omega⟩
   have hil:i<gens.length:=by omega
   have c0:(i:Int)<(gens.length:Int):=by omega
   have c1:0<=(i:Int)∧(i:Int)<(gens.length:Int):=by omega
   have hv:=hg _ (gt_mem gens hil Gen.zero)
   rw[l6_ZC_eq,br_pos c0,gg_pos c1,p_implRowType nf s _ hS hSb,cb_some,show m_ZE nf ctx (gt gens (i:Int) Gen.zero).var=some (lookN (gt gens (i:Int) Gen.zero).var ctx ctx.length)from rfl,cb_some,p_implName nf _ (by omega) (by omega),cb_some,drop_gt gens hil Gen.zero]
   have h24t:∀r,j24_ZC nf m ctx gens (i:Int) s r true=some ([],false):=fun r=>by rw[j24_ZC_eq,br_true]
   simp only[gC,mark_eq,h24t]
   cases hr:rowO (gt gens (i:Int) Gen.zero).table s.tables with
   |none=>exact⟨_,rfl,⟨rfl,fun _ h=>by cases h⟩,fun _=>rfl⟩
   |some row=>
    simp only[Option.bind_some,ansO,Bool.not_true,br_ff2]
    change∃r,br (inC (gt gens (i:Int) Gen.zero).var ctx==false) _ _=some r∧_
    cases hb:inC (gt gens (i:Int) Gen.zero).var ctx with
    |true=>exact⟨_,rfl,⟨rfl,fun _ h=>by cases h⟩,fun _=>rfl⟩
    |false=>
     cases hn2:nNm (gt gens (i:Int) Gen.zero).var with
     |false=>rw[Bool.not_false,br_ff2,h24t];exact⟨_,rfl,⟨rfl,fun _ h=>by cases h⟩,fun _=>rfl⟩
     |true=>
      rw[Bool.not_true,br_ff2,j24_ZC_eq,br_false,Ty.h_eq,p_with nf ctx _ _ (by omega),cb_some,mark_eq,w64_nat (n:=i) (by omega)]
      exact ih (i+1) m (ctx++[⟨(gt gens (i:Int) Gen.zero).var,row⟩]) (by omega) (by omega) (by simp;omega)
 rw[m_ZC_eq,mark_eq]
 exact key gens.length 0 nf [] (by omega) (by omega) (by simp)
theorem p_implHas(nf:Nat)(hn:200000000<nf)(s:Schema)(hS:8*zSchema s+1<nf)(hSb:zSchema s<=16777216)(hR:∀x∈s.tables,nVal x.row=true)(ctx:List Typing)(hv:∀x∈ctx,nVal x.type=true)(hl:ctx.length<=4000000)(e:Tm)(k:Int)(he:8*zTm e+1<nf)(heb:zTm e<=1048576):m_ZD nf s ctx e k=some (hB s ctx e k):=by
 have hd:=nDepT_le e
 have hs:=nSzT_le e
 rw[m_ZD_eq,p_implFormT nf nf e he he (by omega),cb_some,p_implBase nf nf e false he he (by omega),cb_some]
 unfold hB
 have h5t:j5_ZD nf ctx e k s true=some false:=by rw[j5_ZD_eq,br_true]
 simp only[mark_eq]
 cases hF:nFormT e with
 |false=>rw[Bool.not_false,br_tf,h5t];rfl
 |true=>
  cases hb:bT false e with
  |false=>rw[Bool.not_true,br_ff2,Bool.not_false,h5t];rfl
  |true=>
   obtain⟨r,er,h1,h2⟩:=T_impl nf hn s hS hSb hR (nDepT e) nf ctx e (by omega) (Nat.le_refl _) ⟨by omega,fun i hi=>hv _ (gt_mem ctx hi _)⟩ hF he (by omega)
   rw[Bool.not_true,br_ff2,j5_ZD_eq,br_false,er,cb_some]
   cases ht:nT s (nDepT e) ctx e with
   |none=>rw[ht]at h1;rw[h1];rfl
   |some t=>rw[ht]at h1 h2;rw[h1,h2 t rfl];rfl
theorem p_specHas(nf:Nat)(hn:200000000<nf)(s:Schema)(hS:8*zSchema s+1<nf)(hSb:zSchema s<=16777216)(hR:∀x∈s.tables,nVal x.row=true)(ctx:List Typing)(hv:∀x∈ctx,nVal x.type=true)(hl:ctx.length<=4000000)(e:Tm)(k:Int)(hk:k=1∨k=2)(he:8*zTm e+1<nf)(heb:zTm e<=1048576):m_Zbv nf s ctx e (Ty.mk k [] [])=some (hB s ctx e k):=by
 have hd:=nDepT_le e
 have hs:=nSzT_le e
 rw[m_Zbv_eq,Tm.h_eq,p_specFormT nf nf e he he (by omega),cb_some]
 unfold hB
 have h7f:j7_Zbv nf ctx s e (Ty.mk k [] []) false=some false:=by rw[j7_Zbv_eq,br_false,mark_eq,j10_Zbv_eq];rfl
 simp only[mark_eq]
 cases hF:nFormT e with
 |false=>rw[br_ff,h7f];rfl
 |true=>
  rw[beq_self_eq_true,br_true,p_specBase nf nf e he he (by omega) hF,cb_some]
  cases hb:bT false e with
  |false=>rw[h7f];rfl
  |true=>
   obtain⟨r,er,⟨h1,h2⟩,_⟩:=T_spec nf hn s hS hSb hR (nDepT e) nf ctx e (by omega) (Nat.le_refl _) ⟨by omega,fun i hi=>hv _ (gt_mem ctx hi _)⟩ hF he (by omega)
   rw[j7_Zbv_eq,br_true,Tm.h_eq,er,cb_some,mark_eq,j10_Zbv_eq,Ty.eta,Ty.h_eq]
   cases ht:nT s (nDepT e) ctx e with
   |none=>rw[ht]at h1;rw[h1];rfl
   |some t=>
    rw[ht]at h1 h2
    have hvt:=nT_val ht
    have hz:=val_z hvt
    rw[h1,h2 t rfl,show((some t:Option Ty).isSome==true)=true from rfl,br_true,p_specEq nf nf t _ (by omega) (by omega) (by omega),cb_some,eqT_base hvt k hk];rfl
end Go.Q
