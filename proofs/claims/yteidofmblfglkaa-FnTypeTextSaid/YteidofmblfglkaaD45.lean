/- Both sides read a type alike. -/
import Derived.Test.YteidofmblfglkaaD43
import Derived.Test.YteidofmblfglkaaD44
set_option linter.unusedVariables false
set_option linter.unusedSimpArgs false
set_option maxHeartbeats 1000000
namespace Go.Q
open Go.Proofs Go.RowKit
theorem lab_z{xs:List Str}(h:nLab xs=true):szL List.length xs<=20:=by
 simp only[nLab,Bool.and_eq_true,decide_eq_true_eq]at h
 have h1:=h.1
 have h2:=h.2.1
 have key:∀ys:List Str,ys.all nNm=true->szL List.length ys<=5*ys.length:=by
  intro ys
  induction ys with
  |nil=>intro _;simp[szL]
  |cons y ys ih=>
   intro h
   simp only[List.all_cons,Bool.and_eq_true]at h
   have h4:=ih h.2
   have h5:y.length<=4:=by
    have:=h.1
    simp only[nNm,Bool.and_eq_true,decide_eq_true_eq]at this
    omega
   simp only[szL,List.length_cons,List.map_cons,List.sum_cons]at*
   omega
 have:=key xs h1
 omega
theorem form_labz{t:Ty}(h:nForm t=true):szL List.length t.labels<=20:=by
 rw[nForm_eq]at h
 simp only[Bool.and_eq_true]at h
 have h:=h.2
 by_cases h3:t.kind=3
 ·rw[if_pos h3]at h
  simp only[Bool.and_eq_true]at h
  exact lab_z h.2.1
 ·rw[if_neg h3]at h
  simp only[Bool.and_eq_true,decide_eq_true_eq]at h
  have:t.labels=[]:=List.eq_nil_of_length_eq_zero h.2.1
  rw[this]
  simp[szL]
theorem form_argz{t:Ty}(h:nForm t=true):nFormL t.args=true:=by
 rw[nForm_eq]at h
 simp only[Bool.and_eq_true]at h
 exact h.1
mutual
theorem form_z:∀t:Ty,nForm t=true->zTy t+1<=22*nSz t
 | .mk k l c,h=>by
  have h1:=form_zL c (form_argz h)
  have h2:=form_labz h
  rw[zTy_f,nSz_eq]
  simp only[Ty.labels_mk,Ty.args_mk]at*
  omega
theorem form_zL:∀ts:List Ty,nFormL ts=true->szL zTy ts<=22*nSzL ts
 | [],_=>by simp[szL]
 |t::ts,h=>by
  simp only[nFormL,Bool.and_eq_true]at h
  have h1:=form_z t h.1
  have h2:=form_zL ts h.2
  have h3:1<=nSz t:=by rw[nSz_eq];omega
  simp only[szL,nSzL,List.length_cons,List.map_cons,List.sum_cons]at*
  omega
end
theorem val_z{t:Ty}(h:nVal t=true):zTy t<=527:=by
 simp only[nVal,Bool.and_eq_true,decide_eq_true_eq]at h
 have:=form_z t h.2.2
 omega
def okP(s:Str)(t:Ty)(i:Nat)(b:Bool):Bool:= !b&&(decide (i=s.length)&&(fmtT t==s))
def resP(t:Ty)(ok:Bool):Ty×Bool:=if ok=true then(t,true)else(Ty.mk 0 [] [],false)
theorem p_specP(nf:Nat)(hn:1000001<nf)(s:Str)(t:Ty)(i:Nat)(b:Bool)(e:m_Zan nf nf (1:Int) s (0:Int) false=some (t,(s,((i:Nat):Int),b,())))(hz:8*zTy t+1<nf)(hb:zTy t<=16777216):m_ZN nf s=some (resP t (okP s t i b)):=by
 rw[m_ZN_eq,e,cb_some]
 dsimp only
 cases b with
 |true=>
  rw[show(true==false)=false from rfl,br_false,mark_eq,j9_ZN_eq,br_true]
  rfl
 |false=>
  rw[show(false==false)=true from rfl,br_true]
  by_cases hi:i=s.length
  ·have e0:((!((i:Int)==(s.length:Int)))==false)=true:=by rw[hi,beq_self_eq_true];rfl
   rw[e0,br_true,Ty.h_eq,p_specFormat nf hn t hz hb,cb_some,mark_eq,j9_ZN_eq]
   dsimp only
   rw[Ty.h_eq]
   unfold okP
   rw[decide_eq_true hi]
   cases fmtT t==s<;>rfl
  ·have hne:((i:Int)==(s.length:Int))=false:=beq_eq_false_iff_ne.2 fun h=>hi (by omega)
   have e0:((!((i:Int)==(s.length:Int)))==false)=false:=by rw[hne];rfl
   rw[e0,br_false,mark_eq,j9_ZN_eq,br_true]
   unfold okP
   rw[decide_eq_false hi]
   rfl
theorem p_implP(nf:Nat)(hn:1000001<nf)(s:Str)(t:Ty)(i:Nat)(b:Bool)(e:m_Zw nf nf (1:Int) s (0:Int) false=some (t,(s,((i:Nat):Int),b,())))(hz:8*zTy t+1<nf)(hb:zTy t<=16777216):m_Zh nf s=some (resP t (okP s t i b)):=by
 rw[m_Zh_eq,e,cb_some]
 dsimp only
 rw[m_Zx_eq]
 cases b with
 |true=>
  rw[show((!true)==true)=false from rfl,br_false,cb_some,show((!false)==false)=false from rfl,br_false,mark_eq,j9_Zh_eq,br_true]
  rfl
 |false=>
  rw[show((!false)==true)=true from rfl,br_true,cb_some]
  dsimp only
  by_cases hi:i=s.length
  ·have e0:((!((i:Int)==(s.length:Int)))==false)=true:=by rw[hi,beq_self_eq_true];rfl
   rw[e0,br_true,Ty.h_eq,p_implFormat nf hn t hz hb,cb_some,mark_eq,j9_Zh_eq]
   dsimp only
   rw[Ty.h_eq]
   unfold okP
   rw[decide_eq_true hi]
   cases fmtT t==s<;>rfl
  ·have hne:((i:Int)==(s.length:Int))=false:=beq_eq_false_iff_ne.2 fun h=>hi (by omega)
   have e0:((!((i:Int)==(s.length:Int)))==false)=false:=by rw[hne];rfl
   rw[e0,br_false,mark_eq,j9_Zh_eq,br_true]
   unfold okP
   rw[decide_eq_false hi]
   rfl
theorem okP_val{s:Str}{t:Ty}{i:Nat}{b:Bool}(h:okP s t i b=true)(hq:b=false->0<i):nVal t=true∧nText t=s∧b=false∧i=s.length:=by
 unfold okP at h
 simp only[Bool.and_eq_true,Bool.not_eq_true',decide_eq_true_eq,beq_iff_eq]at h
 obtain⟨h1,h2,h3⟩:=h
 have h4:=hq h1
 unfold fmtT at h3
 by_cases hv:nVal t=true
 ·rw[if_pos hv]at h3
  exact⟨hv,h3,h1,h2⟩
 ·rw[if_neg hv]at h3
  rw[<-h3]at h2
  simp only[List.length_nil]at h2
  omega
theorem okP_of{s:Str}{t:Ty}(hv:nVal t=true)(ht:nText t=s):okP s t s.length false=true:=by
 unfold okP fmtT
 rw[if_pos hv,ht,beq_self_eq_true,decide_eq_true rfl]
 rfl
theorem p_parse(nf:Nat)(hn:134217728<nf)(s:Str)(hs:s.length<=1048576):∃W:Ty×Bool,m_ZN nf s=some W∧m_Zh nf s=some W∧zTy W.1<=527∧(W.2=true->nVal W.1=true∧nText W.1=s)∧∀t,nVal t=true->nText t=s->W=(t,true):=by
 obtain⟨t1,i1,b1,e1,p1,p2,p3,p4,p5⟩:=(t_spec nf (by omega) s hs nf).1 1 0 false (by omega) (by omega) (by omega)
 obtain⟨t2,i2,b2,e2,q1,q2,q3,q4,q5⟩:=t_impl nf (by omega) s hs nf 1 0 false (by omega) (by omega) (by omega)
 have full1:∀t,nVal t=true->nText t=s->m_Zan nf nf (1:Int) s (0:Int) false=some (t,(s,((s.length:Nat):Int),false,())):=fun t hv ht=>by
  have hd:=val_dep hv
  have hsz:=val_sz hv
  have:=c_spec nf (by omega) s hs (nSz t) t nf 1 0 [] (Nat.le_refl _) (val_frm hv) (by omega) (by omega) (by rw[ht];simp)
  rw[ht,Nat.zero_add]at this
  exact this
 have full2:∀t,nVal t=true->nText t=s->m_Zw nf nf (1:Int) s (0:Int) false=some (t,(s,((s.length:Nat):Int),false,())):=fun t hv ht=>by
  have hd:=val_dep hv
  have hsz:=val_sz hv
  have:=c_impl nf (by omega) s hs (nSz t) t nf 1 0 [] (Nat.le_refl _) (val_frm hv) (by omega) (by omega) (by rw[ht];simp)
  rw[ht,Nat.zero_add]at this
  exact this
 have all:∀t,nVal t=true->nText t=s->m_ZN nf s=some (t,true)∧m_Zh nf s=some (t,true):=fun t hv ht=>by
  have hz:=val_z hv
  have h1:=p_specP nf (by omega) s t s.length false (full1 t hv ht) (by omega) (by omega)
  have h2:=p_implP nf (by omega) s t s.length false (full2 t hv ht) (by omega) (by omega)
  rw[okP_of hv ht]at h1 h2
  exact⟨h1,h2⟩
 have r1:=p_specP nf (by omega) s t1 i1 b1 e1 (by omega) (by omega)
 have r2:=p_implP nf (by omega) s t2 i2 b2 e2 (by omega) (by omega)
 by_cases hex:∃t,nVal t=true∧nText t=s
 ·obtain⟨t,hv,ht⟩:=hex
  obtain⟨a1,a2⟩:=all t hv ht
  have hz:=val_z hv
  refine⟨(t,true),a1,a2,hz,fun _=>⟨hv,ht⟩,fun u hu hut=> ?_⟩
  have:=(all u hu hut).1
  rw[a1]at this
  exact Option.some.inj this
 ·have n1:okP s t1 i1 b1=false:=by
   cases h:okP s t1 i1 b1 with
   |false=>rfl
   |true=>exact absurd ⟨t1,(okP_val h p5).1,(okP_val h p5).2.1⟩ hex
  have n2:okP s t2 i2 b2=false:=by
   cases h:okP s t2 i2 b2 with
   |false=>rfl
   |true=>exact absurd ⟨t2,(okP_val h q5).1,(okP_val h q5).2.1⟩ hex
  rw[n1]at r1
  rw[n2]at r2
  refine⟨_,r1,r2,?_,fun h=>(by cases h),fun t hv ht=>absurd ⟨t,hv,ht⟩ hex⟩
  have:zTy (Ty.mk 0 [] [])=0:=zTy_0 0
  show zTy (Ty.mk 0 [] [])<=527
  omega
end Go.Q
