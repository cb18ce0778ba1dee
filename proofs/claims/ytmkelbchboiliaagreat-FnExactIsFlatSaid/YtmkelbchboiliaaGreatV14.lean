/- Plans: both sides find the same ones right. -/
import Derived.Test.YtmkelbchboiliaaGreatV9q
import Derived.Test.YtmkelbchboiliaaGreatNPm
import Derived.Test.YtmkelbchboiliaaGreatB21
set_option linter.unusedVariables false
set_option linter.unusedSimpArgs false
set_option maxHeartbeats 2000000
namespace Go.Q
theorem p_specZero(nf:Nat)(e:Tm)(h:8*zTm e+1<nf)(hb:zTm e<=16777216):m_Zbw nf e=some (zeroT e):=by
 obtain⟨n,rfl⟩:∃n,nf=n+1:=⟨nf-1,by omega⟩
 have hz:=zTm_f e
 have l1:e.labels.length<=szL List.length e.labels:=by unfold szL;omega
 have hl:=zTm_len e
 rw[m_Zbw_eq,Tm.h_eq]
 have key:m_ZaY (n+1) (n+1) e (Tm.mk (0:Int) ([]:Str) (0:Int) (Ty.mk (0:Int) ([]:List Str) ([]:List Ty)) ([]:List Str) ([]:List Tm))=some (zeroT e):=by
  rw[m_ZaY_eq]
  simp only[Tm.kind_mk,Tm.name_mk,Tm.n_mk,Tm.type_mk,Tm.labels_mk,Tm.args_mk,Ty.h_eq]
  rw[p_specEq (n+1) (n+1) e.type _ (by omega) (by omega) (by omega),cb_some,p_l3Texts (n+1) e.labels [] (by omega) (by omega),cb_some,eqT_no,eqSs_nil]
  have h0:((([]:List Tm).length:Nat):Int)=0:=rfl
  rw[h0]
  have h5t:∀q,j5_ZaY (n+1) (n+1) e q true=some false:=fun q=>by rw[j5_ZaY_eq,br_true]
  have h5f:∀q,((e.args.length:Int)==0)=true->j5_ZaY (n+1) (n+1) e q false=some true:=fun q hq=>by
   have hq2:(e.args.length:Int)=0:=by simpa using hq
   have c0:¬(0:Int)<(e.args.length:Int):=by omega
   rw[j5_ZaY_eq,br_false,mark_eq,l14_ZaY_eq,br_neg c0]
  simp only[mark_eq,h5t]
  unfold zeroT
  generalize (e.kind==(0:Int))=a
  generalize (e.name==([]:Str))=b
  generalize (e.n==(0:Int))=c
  generalize ((e.labels.length:Int)==0)=d
  cases hg:((e.args.length:Int)==0)with
  |false=>
   rw[Bool.not_false,h5t]
   cases a<;>cases b<;>cases c<;>cases d<;>cases tyNo e.type<;>rfl
  |true=>
   rw[Bool.not_true,h5f _ hg]
   cases a<;>cases b<;>cases c<;>cases d<;>cases tyNo e.type<;>rfl
 rw[key,cb_some]
theorem p_implZero(nf:Nat)(e:Tm)(h:8*zTm e+3<nf)(hb:zTm e<=16777216):m_ZJ nf e=some (zeroT e):=by
 obtain⟨n,rfl⟩:∃n,nf=n+2:=⟨nf-2,by omega⟩
 have hz:=zTm_f e
 have l1:e.labels.length<=szL List.length e.labels:=by unfold szL;omega
 have hl:=zTm_len e
 rw[m_ZJ_eq,Tm.h_eq]
 have key:m_Zj (n+2) (n+2) e (Tm.mk (0:Int) ([]:Str) (0:Int) (Ty.mk (0:Int) ([]:List Str) ([]:List Ty)) ([]:List Str) ([]:List Tm))=some (zeroT e):=by
  rw[m_Zj_eq]
  simp only[Tm.kind_mk,Tm.name_mk,Tm.n_mk,Tm.type_mk,Tm.labels_mk,Tm.args_mk,Ty.h_eq]
  rw[p_implEq (n+2) (n+2) e.type _ (by omega) (by omega) (by omega),cb_some,p_slEqual (n+2) e.labels [] (by omega) (by omega),cb_some,eqT_no,eqSs_nil]
  have hE:m_ZaS (n+2) (n+1) e.args []=some ((e.args.length:Int)==0):=by
   rw[m_ZaS_eq]
   have h0:((([]:List Tm).length:Nat):Int)=0:=rfl
   rw[h0]
   cases hg:((e.args.length:Int)==0)with
   |false=>rfl
   |true=>
    have hq2:(e.args.length:Int)=0:=by simpa using hg
    have c0:¬(0:Int)<(e.args.length:Int):=by omega
    rw[Bool.not_true,br_false,mark_eq,l14_ZaS_eq,br_neg c0]
  rw[hE,cb_some]
  unfold zeroT
  generalize (e.kind==(0:Int))=a
  generalize (e.name==([]:Str))=b
  generalize (e.n==(0:Int))=c
  generalize ((e.labels.length:Int)==0)=d
  generalize ((e.args.length:Int)==0)=g
  cases a<;>cases b<;>cases c<;>cases d<;>cases g<;>cases tyNo e.type<;>rfl
 rw[key,cb_some]
theorem hd12_eq{es:List Tm}(h:0<es.length):hd12 es=((gt es (0:Int) Tm.zero).kind==12):=by
 cases es with
 |nil=>simp at h
 |cons a es=>simp[hd12,gt]
theorem p_implBase(nf:Nat):∀(kf:Nat) (e:Tm) (f:Bool),8*zTm e+1<kf->8*zTm e+1<nf->zTm e<=16777216->m_Zy nf kf e f=some (bT f e)
 |0,e,f,h,_,_=>absurd h (Nat.not_lt_zero _)
 |kf+1,e,f,h,h',hb=>by
  have hl:=zTm_len e
  have h33:j33_Zy nf (kf+1) e=some (e.args.all (bT (e.kind==6))):=by
   rw[j33_Zy_eq,mark_eq]
   have:=for_all (fun m i=>l37_Zy nf (kf+1) m e i) e.args.length (fun i=>bT (e.kind==6) (gt e.args (i:Int) Tm.zero)) (some true) (some false) 0 (fun m i hp hi=> ?_) (fun m i hi=> ?_) nf (by omega) (by omega)
   ·have e0:((0:Nat):Int)=(0:Int):=rfl
    rw[e0]at this
    rw[this,show e.args.length-0=e.args.length by omega,allF_all (bT (e.kind==6)) Tm.zero]
    cases e.args.all (bT (e.kind==6))<;>rfl
   ·have c0:(i:Int)<(e.args.length:Int):=by omega
    have c1:0<=(i:Int)∧(i:Int)<(e.args.length:Int):=by omega
    have hs:=zTm_at e hi
    have e1:=p_implBase nf kf (gt e.args (i:Int) Tm.zero) (e.kind==6) (by omega) (by omega) (by omega)
    rw[l37_Zy_eq,br_pos c0,gg_pos c1,e1,cb_some,mark_eq,w64_nat (n:=i) (by omega)]
    cases bT (e.kind==6) (gt e.args (i:Int) Tm.zero)<;>rfl
   ·have c0:¬(i:Int)<(e.args.length:Int):=by omega
    rw[l37_Zy_eq,br_neg c0]
  have h27:∀b,j27_Zy nf (kf+1) e b=some (!b&&e.args.all (bT (e.kind==6))):=fun b=>by
   rw[j27_Zy_eq,mark_eq,h33];cases b<;>rfl
  have h18:∀b,j18_Zy nf (kf+1) e b=some (!b&&((cond (e.kind==10) (hd12 e.args) true)&&e.args.all (bT (e.kind==6)))):=fun b=>by
   rw[j18_Zy_eq]
   simp only[h27,h33,mark_eq]
   generalize (e.kind==(10:Int))=k
   by_cases h0:e.args.length=0
   ·have hn:e.args=[]:=List.eq_nil_of_length_eq_zero h0
    have c0:((e.args.length:Int)==(0:Int))=true:=by simp[h0]
    rw[c0,hn]
    cases b<;>cases k<;>rfl
   ·have c0:((e.args.length:Int)==(0:Int))=false:=by
     have:¬(e.args.length:Int)=0:=by omega
     simpa using this
    rw[c0,br_ff2,gg_pos (by omega),hd12_eq (by omega)]
    generalize ((gt e.args (0:Int) Tm.zero).kind==(12:Int))=g
    generalize e.args.all (bT (e.kind==6))=A
    cases b<;>cases k<;>cases g<;>cases A<;>rfl
  rw[m_Zy_eq,bT_eq]
  simp only[h18,mark_eq]
  generalize ((cond (e.kind==10) (hd12 e.args) true)&&e.args.all (bT (e.kind==6)))=A
  generalize (e.kind==(1:Int))=k1
  generalize (e.kind==(13:Int))=k13
  generalize (e.kind==(14:Int))=k14
  cases k1<;>cases k13<;>cases k14<;>rfl
theorem var_args{e:Tm}(h:nFormT e=true)(hk:(e.kind==(1:Int))=true):((e.args.length:Int)==(0:Int))=true:=by
 rw[nFormT_eq,Bool.and_eq_true]at h
 have hL:=node_len h.1
 have hk1:e.kind=1:=by simpa using hk
 have:(shp e).1=0:=by unfold shp;rw[hk1];rfl
 rw[this]at hL
 simp[hL]
theorem p_specBase(nf:Nat):∀(kf:Nat) (e:Tm),8*zTm e+1<kf->8*zTm e+1<nf->zTm e<=16777216->nFormT e=true->m_Zbc nf kf e=some (bT false e)
 |0,e,h,_,_,_=>absurd h (Nat.not_lt_zero _)
 |kf+1,e,h,h',hb,hF=>by
  have hl:=zTm_len e
  have hA:e.args.all nFormT=true:=by rw[nFormT_eq,Bool.and_eq_true]at hF;exact hF.2
  have hL:l22_Zbc nf (kf+1) nf e (0:Int)=some (e.args.all (bT (e.kind==6))):=by
   have:=for_all (fun m i=>l22_Zbc nf (kf+1) m e i) e.args.length (fun i=>bT (e.kind==6) (gt e.args (i:Int) Tm.zero)) (some true) (some false) 0 (fun m i hp hi=> ?_) (fun m i hi=> ?_) nf (by omega) (by omega)
   ·have e0:((0:Nat):Int)=(0:Int):=rfl
    rw[e0]at this
    rw[this,show e.args.length-0=e.args.length by omega,allF_all (bT (e.kind==6)) Tm.zero]
    cases e.args.all (bT (e.kind==6))<;>rfl
   ·have c0:(i:Int)<(e.args.length:Int):=by omega
    have c1:0<=(i:Int)∧(i:Int)<(e.args.length:Int):=by omega
    have hs:=zTm_at e hi
    have hFi:=all_at hA hi Tm.zero
    have e1:=p_specBase nf kf (gt e.args (i:Int) Tm.zero) (by omega) (by omega) (by omega) hFi
    have h34:∀b,j34_Zbc nf (kf+1) m (i:Int) e b=br b (l22_Zbc nf (kf+1) m e ((i+1:Nat):Int)) (br (!(bT false (gt e.args (i:Int) Tm.zero))) (some false) (l22_Zbc nf (kf+1) m e ((i+1:Nat):Int))):=fun b=>by
     rw[j34_Zbc_eq,gg_pos c1,e1,cb_some,mark_eq,w64_nat (n:=i) (by omega)]
    rw[l22_Zbc_eq,br_pos c0,gg_pos c1,gg_pos c1]
    simp only[h34,mark_eq]
    generalize l22_Zbc nf (kf+1) m e ((i+1:Nat):Int)=X
    have hv:=var_args hFi
    have hb1:∀f,bT f (gt e.args (i:Int) Tm.zero)=cond ((gt e.args (i:Int) Tm.zero).kind==1) f (bT false (gt e.args (i:Int) Tm.zero)):=fun f=>by
     cases hk:((gt e.args (i:Int) Tm.zero).kind==(1:Int))with
     |true=>rw[bT_eq,hk];rfl
     |false=>rw[bT_eq f,bT_eq false,hk];rfl
    rw[hb1 (e.kind==6)]
    have hbv:((gt e.args (i:Int) Tm.zero).kind==(1:Int))=true->bT false (gt e.args (i:Int) Tm.zero)=false:=fun hk=>by rw[bT_eq,hk];rfl
    generalize bT false (gt e.args (i:Int) Tm.zero)=B at hbv⊢
    generalize (((gt e.args (i:Int) Tm.zero).args.length:Int)==(0:Int))=Z at hv⊢
    generalize (e.kind==(6:Int))=k6
    cases hk:((gt e.args (i:Int) Tm.zero).kind==(1:Int))with
    |true=>rw[hv hk,hbv hk];cases k6<;>rfl
    |false=>cases k6<;>cases B<;>rfl
   ·have c0:¬(i:Int)<(e.args.length:Int):=by omega
    rw[l22_Zbc_eq,br_neg c0]
  have h13:∀b,j13_Zbc nf (kf+1) e b=some (!b&&e.args.all (bT (e.kind==6))):=fun b=>by
   rw[j13_Zbc_eq,mark_eq,hL];cases b<;>rfl
  have h5:∀b,j5_Zbc nf (kf+1) e b=some (!b&&((cond (e.kind==10) (hd12 e.args) true)&&e.args.all (bT (e.kind==6)))):=fun b=>by
   rw[j5_Zbc_eq]
   simp only[h13,mark_eq]
   generalize (e.kind==(10:Int))=k
   by_cases h0:e.args.length=0
   ·have hn:e.args=[]:=List.eq_nil_of_length_eq_zero h0
    have c0:((e.args.length:Int)==(0:Int))=true:=by simp[h0]
    rw[c0,hn]
    cases b<;>cases k<;>rfl
   ·have c0:((e.args.length:Int)==(0:Int))=false:=by
     have:¬(e.args.length:Int)=0:=by omega
     simpa using this
    rw[c0,br_ff2,gg_pos (by omega),hd12_eq (by omega)]
    generalize ((gt e.args (0:Int) Tm.zero).kind==(12:Int))=g
    generalize e.args.all (bT (e.kind==6))=A
    cases b<;>cases k<;>cases g<;>cases A<;>rfl
  rw[m_Zbc_eq,bT_eq]
  simp only[h5,mark_eq]
  generalize ((cond (e.kind==10) (hd12 e.args) true)&&e.args.all (bT (e.kind==6)))=A
  generalize (e.kind==(1:Int))=k1
  generalize (e.kind==(13:Int))=k13
  generalize (e.kind==(14:Int))=k14
  cases k1<;>cases k13<;>cases k14<;>rfl
end Go.Q
