/- Plans: both sides find the same ones right. -/
import Derived.Test.YtmkelbchboiliaaGreatV9q
import Derived.Test.YtmkelbchboiliaaGreatNPm
import Derived.Test.YtmkelbchboiliaaGreatB21
set_option linter.unusedVariables false
set_option linter.unusedSimpArgs false
set_option maxHeartbeats 2000000
namespace Go.Q
theorem p_ZaW(nf:Nat):∀(kf:Nat) (p:Plan),8*zPlan p+1<kf->8*zPlan p+1<nf->zPlan p<=1048576->m_ZaW nf kf p=some (plVars p)
 |0,p,h,_,_=>absurd h (Nat.not_lt_zero _)
 |kf+1,p,h,h',hb=>by
  have hv:=plVars_f p
  have hl:=plVars_le p
  have hz:=zPlan_args p
  have key:∀o:List Gen,o++p.args.flatMap plVars=plVars p->j10_ZaW nf (kf+1) p o=some (plVars p):=by
   intro o ho
   have hlen:=congrArg List.length ho
   rw[List.length_append]at hlen
   rw[j10_ZaW_eq,mark_eq]
   have k:=for_loop (fun m i s=>l14_ZaW nf (kf+1) m p i s) p.args.length (fun i=>o++(p.args.take i).flatMap plVars) (some (plVars p)) (fun m i hi=> ?_) (fun m=> ?_) nf (by omega)
   ·simpa using k
   ·have c0:(i:Int)<(p.args.length:Int):=by omega
    have c1:0<=(i:Int)∧(i:Int)<(p.args.length:Int):=by omega
    have h1:=szL_at zPlan p.args hi Plan.zero
    have e:=p_ZaW nf kf (gt p.args (i:Int) Plan.zero) (by omega) (by omega) (by omega)
    have hs:=fm_take2 plVars p.args hi Plan.zero o
    have hs2:=congrArg List.length hs
    have hs3:=fm_take_le plVars p.args (i+1)
    simp only[List.length_append]at hs2
    have g:List.length (o++(p.args.take i).flatMap plVars)+List.length (plVars (gt p.args (i:Int) Plan.zero))<=33554432:=by rw[List.length_append];omega
    simp only[l14_ZaW_eq,br_pos c0,gg_pos c1,e,cb_some,gg_pos g,mark_eq,w64_nat (n:=i) (by omega),hs]
   ·have c0:¬(p.args.length:Int)<(p.args.length:Int):=by omega
    simp only[l14_ZaW_eq,br_neg c0,List.take_length,ho]
  rw[m_ZaW_eq]
  by_cases hk:p.kind=2
  ·rw[if_pos hk]at hv
   simp only[hk,beq_self_eq_true,br_true,mark_eq]
   rw[gg_pos (by simp)]
   exact key _ (by rw[hv];rfl)
  ·rw[if_neg hk]at hv
   have:(p.kind==(2:Int))=false:=by simp[hk]
   simp only[this,br_false,mark_eq]
   exact key _ hv.symm
theorem p_ZP(nf:Nat):∀(kf:Nat) (p:Plan) (out:List Gen),8*zPlan p+1<kf->8*zPlan p+1<nf->out.length+(plVars p).length<=33554432->zPlan p<=1048576->m_ZP nf kf p out=some (out++plVars p,())
 |0,p,out,h,_,_,_=>absurd h (Nat.not_lt_zero _)
 |kf+1,p,out,h,h',ho,hb=>by
  have hv:=plVars_f p
  have hz:=zPlan_args p
  have key:∀q o:List Gen,q++p.args.flatMap plVars=plVars p->o=out++q->j8_ZP nf (kf+1) p o=some (out++plVars p,()):=by
   intro q o hq hoq
   have hlen:=congrArg List.length hq
   rw[List.length_append]at hlen
   rw[j8_ZP_eq,mark_eq]
   have k:=for_loop (fun m i s=>l12_ZP nf (kf+1) m p i s) p.args.length (fun i=>o++(p.args.take i).flatMap plVars) (some (out++plVars p,())) (fun m i hi=> ?_) (fun m=> ?_) nf (by omega)
   ·simpa using k
   ·have c0:(i:Int)<(p.args.length:Int):=by omega
    have c1:0<=(i:Int)∧(i:Int)<(p.args.length:Int):=by omega
    have h1:=szL_at zPlan p.args hi Plan.zero
    have hs:=fm_take2 plVars p.args hi Plan.zero o
    have hs2:=congrArg List.length hs
    have hs3:=fm_take_le plVars p.args (i+1)
    simp only[List.length_append]at hs2
    have e:=p_ZP nf kf (gt p.args (i:Int) Plan.zero) (o++(p.args.take i).flatMap plVars) (by omega) (by omega) (by subst hoq;simp only[List.length_append]at hs2⊢;omega) (by omega)
    simp only[l12_ZP_eq,br_pos c0,gg_pos c1,e,cb_some,mark_eq,w64_nat (n:=i) (by omega),hs]
   ·have c0:¬(p.args.length:Int)<(p.args.length:Int):=by omega
    simp only[l12_ZP_eq,br_neg c0,List.take_length,hoq,List.append_assoc,hq]
  rw[m_ZP_eq]
  by_cases hk:p.kind=2
  ·rw[if_pos hk]at hv
   simp only[hk,beq_self_eq_true,br_true,mark_eq]
   rw[gg_pos (by have:=congrArg List.length hv;simp only[List.length_append,List.length_cons,List.length_nil]at this⊢;omega)]
   exact key _ _ hv.symm rfl
  ·rw[if_neg hk]at hv
   have:(p.kind==(2:Int))=false:=by simp[hk]
   simp only[this,br_false,mark_eq]
   exact key [] _ hv.symm (by simp)
theorem p_specZero(nf:Nat)(e:Tm)(h:8*zTm e+1<nf)(hb:zTm e<=16777216):m_Zbh nf e=some (zeroT e):=by
 obtain⟨n,rfl⟩:∃n,nf=n+1:=⟨nf-1,by omega⟩
 have hz:=zTm_f e
 have l1:e.labels.length<=szL List.length e.labels:=by unfold szL;omega
 have hl:=zTm_len e
 rw[m_Zbh_eq,Tm.h_eq]
 have key:m_ZaL (n+1) (n+1) e (Tm.mk (0:Int) ([]:Str) (0:Int) (Ty.mk (0:Int) ([]:List Str) ([]:List Ty)) ([]:List Str) ([]:List Tm))=some (zeroT e):=by
  rw[m_ZaL_eq]
  simp only[Tm.kind_mk,Tm.name_mk,Tm.n_mk,Tm.type_mk,Tm.labels_mk,Tm.args_mk,Ty.h_eq]
  rw[p_specEq (n+1) (n+1) e.type _ (by omega) (by omega) (by omega),cb_some,p_l3Texts (n+1) e.labels [] (by omega) (by omega),cb_some,eqT_no,eqSs_nil]
  have h0:((([]:List Tm).length:Nat):Int)=0:=rfl
  rw[h0]
  have h5t:∀q,j5_ZaL (n+1) (n+1) e q true=some false:=fun q=>by rw[j5_ZaL_eq,br_true]
  have h5f:∀q,((e.args.length:Int)==0)=true->j5_ZaL (n+1) (n+1) e q false=some true:=fun q hq=>by
   have hq2:(e.args.length:Int)=0:=by simpa using hq
   have c0:¬(0:Int)<(e.args.length:Int):=by omega
   rw[j5_ZaL_eq,br_false,mark_eq,l14_ZaL_eq,br_neg c0]
  simp only[mark_eq,h5t]
  unfold zeroT
  generalize (e.kind==(0:Int))=a
  generalize (e.name==([]:Str))=b
  generalize (e.n==(0:Int))=c
  generalize ((e.labels.length:Int)==0)=d
  cases hg:((e.args.length:Int)==0)with
  |false=>
   rw[Bool.not_false,h5t]
   cases a<;>cases b<;>cases c<;>cases d<;>cases tyNo e.type<;>rfl
  |true=>
   rw[Bool.not_true,h5f _ hg]
   cases a<;>cases b<;>cases c<;>cases d<;>cases tyNo e.type<;>rfl
 rw[key,cb_some]
theorem p_implZero(nf:Nat)(e:Tm)(h:8*zTm e+3<nf)(hb:zTm e<=16777216):m_ZE nf e=some (zeroT e):=by
 obtain⟨n,rfl⟩:∃n,nf=n+2:=⟨nf-2,by omega⟩
 have hz:=zTm_f e
 have l1:e.labels.length<=szL List.length e.labels:=by unfold szL;omega
 have hl:=zTm_len e
 rw[m_ZE_eq,Tm.h_eq]
 have key:m_Zh (n+2) (n+2) e (Tm.mk (0:Int) ([]:Str) (0:Int) (Ty.mk (0:Int) ([]:List Str) ([]:List Ty)) ([]:List Str) ([]:List Tm))=some (zeroT e):=by
  rw[m_Zh_eq]
  simp only[Tm.kind_mk,Tm.name_mk,Tm.n_mk,Tm.type_mk,Tm.labels_mk,Tm.args_mk,Ty.h_eq]
  rw[p_implEq (n+2) (n+2) e.type _ (by omega) (by omega) (by omega),cb_some,p_slEqual (n+2) e.labels [] (by omega) (by omega),cb_some,eqT_no,eqSs_nil]
  have hE:m_ZaF (n+2) (n+1) e.args []=some ((e.args.length:Int)==0):=by
   rw[m_ZaF_eq]
   have h0:((([]:List Tm).length:Nat):Int)=0:=rfl
   rw[h0]
   cases hg:((e.args.length:Int)==0)with
   |false=>rfl
   |true=>
    have hq2:(e.args.length:Int)=0:=by simpa using hg
    have c0:¬(0:Int)<(e.args.length:Int):=by omega
    rw[Bool.not_true,br_false,mark_eq,l14_ZaF_eq,br_neg c0]
  rw[hE,cb_some]
  unfold zeroT
  generalize (e.kind==(0:Int))=a
  generalize (e.name==([]:Str))=b
  generalize (e.n==(0:Int))=c
  generalize ((e.labels.length:Int)==0)=d
  generalize ((e.args.length:Int)==0)=g
  cases a<;>cases b<;>cases c<;>cases d<;>cases g<;>cases tyNo e.type<;>rfl
 rw[key,cb_some]
theorem hd12_eq{es:List Tm}(h:0<es.length):hd12 es=((gt es (0:Int) Tm.zero).kind==12):=by
 cases es with
 |nil=>simp at h
 |cons a es=>simp[hd12,gt]
theorem p_implBase(nf:Nat):∀(kf:Nat) (e:Tm) (f:Bool),8*zTm e+1<kf->8*zTm e+1<nf->zTm e<=16777216->m_Zu nf kf e f=some (bT f e)
 |0,e,f,h,_,_=>absurd h (Nat.not_lt_zero _)
 |kf+1,e,f,h,h',hb=>by
  have hl:=zTm_len e
  have h33:j33_Zu nf (kf+1) e=some (e.args.all (bT (e.kind==6))):=by
   rw[j33_Zu_eq,mark_eq]
   have:=for_all (fun m i=>l37_Zu nf (kf+1) m e i) e.args.length (fun i=>bT (e.kind==6) (gt e.args (i:Int) Tm.zero)) (some true) (some false) 0 (fun m i hp hi=> ?_) (fun m i hi=> ?_) nf (by omega) (by omega)
   ·have e0:((0:Nat):Int)=(0:Int):=rfl
    rw[e0]at this
    rw[this,show e.args.length-0=e.args.length by omega,allF_all (bT (e.kind==6)) Tm.zero]
    cases e.args.all (bT (e.kind==6))<;>rfl
   ·have c0:(i:Int)<(e.args.length:Int):=by omega
    have c1:0<=(i:Int)∧(i:Int)<(e.args.length:Int):=by omega
    have hs:=zTm_at e hi
    have e1:=p_implBase nf kf (gt e.args (i:Int) Tm.zero) (e.kind==6) (by omega) (by omega) (by omega)
    rw[l37_Zu_eq,br_pos c0,gg_pos c1,e1,cb_some,mark_eq,w64_nat (n:=i) (by omega)]
    cases bT (e.kind==6) (gt e.args (i:Int) Tm.zero)<;>rfl
   ·have c0:¬(i:Int)<(e.args.length:Int):=by omega
    rw[l37_Zu_eq,br_neg c0]
  have h27:∀b,j27_Zu nf (kf+1) e b=some (!b&&e.args.all (bT (e.kind==6))):=fun b=>by
   rw[j27_Zu_eq,mark_eq,h33];cases b<;>rfl
  have h18:∀b,j18_Zu nf (kf+1) e b=some (!b&&((cond (e.kind==10) (hd12 e.args) true)&&e.args.all (bT (e.kind==6)))):=fun b=>by
   rw[j18_Zu_eq]
   simp only[h27,h33,mark_eq]
   generalize (e.kind==(10:Int))=k
   by_cases h0:e.args.length=0
   ·have hn:e.args=[]:=List.eq_nil_of_length_eq_zero h0
    have c0:((e.args.length:Int)==(0:Int))=true:=by simp[h0]
    rw[c0,hn]
    cases b<;>cases k<;>rfl
   ·have c0:((e.args.length:Int)==(0:Int))=false:=by
     have:¬(e.args.length:Int)=0:=by omega
     simpa using this
    rw[c0,br_ff2,gg_pos (by omega),hd12_eq (by omega)]
    generalize ((gt e.args (0:Int) Tm.zero).kind==(12:Int))=g
    generalize e.args.all (bT (e.kind==6))=A
    cases b<;>cases k<;>cases g<;>cases A<;>rfl
  rw[m_Zu_eq,bT_eq]
  simp only[h18,mark_eq]
  generalize ((cond (e.kind==10) (hd12 e.args) true)&&e.args.all (bT (e.kind==6)))=A
  generalize (e.kind==(1:Int))=k1
  generalize (e.kind==(13:Int))=k13
  generalize (e.kind==(14:Int))=k14
  cases k1<;>cases k13<;>cases k14<;>rfl
theorem var_args{e:Tm}(h:nFormT e=true)(hk:(e.kind==(1:Int))=true):((e.args.length:Int)==(0:Int))=true:=by
 rw[nFormT_eq,Bool.and_eq_true]at h
 have hL:=node_len h.1
 have hk1:e.kind=1:=by simpa using hk
 have:(shp e).1=0:=by unfold shp;rw[hk1];rfl
 rw[this]at hL
 simp[hL]
theorem p_specBase(nf:Nat):∀(kf:Nat) (e:Tm),8*zTm e+1<kf->8*zTm e+1<nf->zTm e<=16777216->nFormT e=true->m_ZaP nf kf e=some (bT false e)
 |0,e,h,_,_,_=>absurd h (Nat.not_lt_zero _)
 |kf+1,e,h,h',hb,hF=>by
  have hl:=zTm_len e
  have hA:e.args.all nFormT=true:=by rw[nFormT_eq,Bool.and_eq_true]at hF;exact hF.2
  have hL:l22_ZaP nf (kf+1) nf e (0:Int)=some (e.args.all (bT (e.kind==6))):=by
   have:=for_all (fun m i=>l22_ZaP nf (kf+1) m e i) e.args.length (fun i=>bT (e.kind==6) (gt e.args (i:Int) Tm.zero)) (some true) (some false) 0 (fun m i hp hi=> ?_) (fun m i hi=> ?_) nf (by omega) (by omega)
   ·have e0:((0:Nat):Int)=(0:Int):=rfl
    rw[e0]at this
    rw[this,show e.args.length-0=e.args.length by omega,allF_all (bT (e.kind==6)) Tm.zero]
    cases e.args.all (bT (e.kind==6))<;>rfl
   ·have c0:(i:Int)<(e.args.length:Int):=by omega
    have c1:0<=(i:Int)∧(i:Int)<(e.args.length:Int):=by omega
    have hs:=zTm_at e hi
    have hFi:=all_at hA hi Tm.zero
    have e1:=p_specBase nf kf (gt e.args (i:Int) Tm.zero) (by omega) (by omega) (by omega) hFi
    have h34:∀b,j34_ZaP nf (kf+1) m (i:Int) e b=br b (l22_ZaP nf (kf+1) m e ((i+1:Nat):Int)) (br (!(bT false (gt e.args (i:Int) Tm.zero))) (some false) (l22_ZaP nf (kf+1) m e ((i+1:Nat):Int))):=fun b=>by
     rw[j34_ZaP_eq,gg_pos c1,e1,cb_some,mark_eq,w64_nat (n:=i) (by omega)]
    rw[l22_ZaP_eq,br_pos c0,gg_pos c1,gg_pos c1]
    simp only[h34,mark_eq]
    generalize l22_ZaP nf (kf+1) m e ((i+1:Nat):Int)=X
    have hv:=var_args hFi
    have hb1:∀f,bT f (gt e.args (i:Int) Tm.zero)=cond ((gt e.args (i:Int) Tm.zero).kind==1) f (bT false (gt e.args (i:Int) Tm.zero)):=fun f=>by
     cases hk:((gt e.args (i:Int) Tm.zero).kind==(1:Int))with
     |true=>rw[bT_eq,hk];rfl
     |false=>rw[bT_eq f,bT_eq false,hk];rfl
    rw[hb1 (e.kind==6)]
    have hbv:((gt e.args (i:Int) Tm.zero).kind==(1:Int))=true->bT false (gt e.args (i:Int) Tm.zero)=false:=fun hk=>by rw[bT_eq,hk];rfl
    generalize bT false (gt e.args (i:Int) Tm.zero)=B at hbv⊢
    generalize (((gt e.args (i:Int) Tm.zero).args.length:Int)==(0:Int))=Z at hv⊢
    generalize (e.kind==(6:Int))=k6
    cases hk:((gt e.args (i:Int) Tm.zero).kind==(1:Int))with
    |true=>rw[hv hk,hbv hk];cases k6<;>rfl
    |false=>cases k6<;>cases B<;>rfl
   ·have c0:¬(i:Int)<(e.args.length:Int):=by omega
    rw[l22_ZaP_eq,br_neg c0]
  have h13:∀b,j13_ZaP nf (kf+1) e b=some (!b&&e.args.all (bT (e.kind==6))):=fun b=>by
   rw[j13_ZaP_eq,mark_eq,hL];cases b<;>rfl
  have h5:∀b,j5_ZaP nf (kf+1) e b=some (!b&&((cond (e.kind==10) (hd12 e.args) true)&&e.args.all (bT (e.kind==6)))):=fun b=>by
   rw[j5_ZaP_eq]
   simp only[h13,mark_eq]
   generalize (e.kind==(10:Int))=k
   by_cases h0:e.args.length=0
   ·have hn:e.args=[]:=List.eq_nil_of_length_eq_zero h0
    have c0:((e.args.length:Int)==(0:Int))=true:=by simp[h0]
    rw[c0,hn]
    cases b<;>cases k<;>rfl
   ·have c0:((e.args.length:Int)==(0:Int))=false:=by
     have:¬(e.args.length:Int)=0:=by omega
     simpa using this
    rw[c0,br_ff2,gg_pos (by omega),hd12_eq (by omega)]
    generalize ((gt e.args (0:Int) Tm.zero).kind==(12:Int))=g
    generalize e.args.all (bT (e.kind==6))=A
    cases b<;>cases k<;>cases g<;>cases A<;>rfl
  rw[m_ZaP_eq,bT_eq]
  simp only[h5,mark_eq]
  generalize ((cond (e.kind==10) (hd12 e.args) true)&&e.args.all (bT (e.kind==6)))=A
  generalize (e.kind==(1:Int))=k1
  generalize (e.kind==(13:Int))=k13
  generalize (e.kind==(14:Int))=k14
  cases k1<;>cases k13<;>cases k14<;>rfl
end Go.Q
