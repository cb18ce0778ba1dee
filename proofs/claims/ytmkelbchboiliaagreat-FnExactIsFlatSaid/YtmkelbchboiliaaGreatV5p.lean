/- Names in a context, rows of a schema, equal types, fields, operations. -/
import Derived.Test.YtmkelbchboiliaaGreatV4p
set_option linter.unusedVariables false
set_option linter.unusedSimpArgs false
set_option maxHeartbeats 2000000
namespace Go.Q
def Ans(r:Ty×Bool)(o:Option Ty):Prop:=r.2=o.isSome∧∀t,o=some t->r.1=t
def ansO:Option Ty->Ty×Bool
 |some u=>(u,true)
 |none=>(Ty.mk 0 [] [],false)
theorem ansO_ans(o:Option Ty):Ans (ansO o) o:=by
 cases o with
 |none=>exact⟨rfl,fun _ h=>by cases h⟩
 |some u=>exact⟨rfl,fun _ h=>by cases h;rfl⟩
theorem drop_gt{α:Type}(xs:List α){i:Nat}(h:i<xs.length)(z:α):xs.drop i=gt xs (i:Int) z::xs.drop (i+1):=by
 rw[gt_at xs i h,<-List.drop_eq_getElem_cons h]
theorem p_specRowType(nf:Nat)(s:Schema)(name:Str)(h:8*zSchema s+1<nf)(hb:zSchema s<=16777216):m_Zbl nf s name=some (ansO (rowO name s.tables)):=by
 have hz:=zSchema_f s
 have l2:s.tables.length<=szL zTDecl s.tables:=by unfold szL;omega
 have key:∀k i m,i+k=s.tables.length->k<m->l6_Zbl nf m name s (i:Int)=some (ansO (rowO name (s.tables.drop i))):=by
  intro k
  induction k with
  |zero=>
   intro i m hi hm
   obtain⟨m,rfl⟩:∃m',m=m'+1:=⟨m-1,by omega⟩
   have c0:¬(i:Int)<(s.tables.length:Int):=by omega
   rw[l6_Zbl_eq,br_neg c0,List.drop_eq_nil_of_le (by omega)];rfl
  |succ k ih=>
   intro i m hi hm
   obtain⟨m,rfl⟩:∃m',m=m'+1:=⟨m-1,by omega⟩
   have hl:i<s.tables.length:=by omega
   have c0:(i:Int)<(s.tables.length:Int):=by omega
   have c1:0<=(i:Int)∧(i:Int)<(s.tables.length:Int):=by omega
   have hs:=zTD_at s hl
   rw[l6_Zbl_eq,br_pos c0,gg_pos c1,gg_pos c1,p_l3Copy nf nf _ (by omega) (by omega) (by omega),cb_some,Ty.h_eq,mark_eq,w64_nat (n:=i) (by omega),ih (i+1) m (by omega) (by omega),drop_gt s.tables hl TDecl.zero,beqS]
   simp only[rowO]
   by_cases hn:(gt s.tables (i:Int) TDecl.zero).name=name
   ·rw[decide_eq_true hn,if_pos hn];rfl
   ·rw[decide_eq_false hn,if_neg hn];rfl
 rw[m_Zbl_eq,mark_eq]
 exact key s.tables.length 0 nf (by omega) (by omega)
theorem p_implRowType(nf:Nat)(s:Schema)(name:Str)(h:8*zSchema s+1<nf)(hb:zSchema s<=16777216):m_Zv nf s name=some (ansO (rowO name s.tables)):=by
 have hz:=zSchema_f s
 have l2:s.tables.length<=szL zTDecl s.tables:=by unfold szL;omega
 have key:∀k i m,i+k=s.tables.length->k<m->l6_Zv nf m name s (i:Int)=some (ansO (rowO name (s.tables.drop i))):=by
  intro k
  induction k with
  |zero=>
   intro i m hi hm
   obtain⟨m,rfl⟩:∃m',m=m'+1:=⟨m-1,by omega⟩
   have c0:¬(i:Int)<(s.tables.length:Int):=by omega
   rw[l6_Zv_eq,br_neg c0,List.drop_eq_nil_of_le (by omega)];rfl
  |succ k ih=>
   intro i m hi hm
   obtain⟨m,rfl⟩:∃m',m=m'+1:=⟨m-1,by omega⟩
   have hl:i<s.tables.length:=by omega
   have c0:(i:Int)<(s.tables.length:Int):=by omega
   have c1:0<=(i:Int)∧(i:Int)<(s.tables.length:Int):=by omega
   have hs:=zTD_at s hl
   rw[l6_Zv_eq,br_pos c0,gg_pos c1,Ty.h_eq,p_cloneType nf nf _ (by omega) (by omega) (by omega),cb_some,Ty.h_eq,mark_eq,w64_nat (n:=i) (by omega),ih (i+1) m (by omega) (by omega),drop_gt s.tables hl TDecl.zero,beqS]
   simp only[rowO]
   by_cases hn:(gt s.tables (i:Int) TDecl.zero).name=name
   ·rw[decide_eq_true hn,if_pos hn];rfl
   ·rw[decide_eq_false hn,if_neg hn];rfl
 rw[m_Zv_eq,mark_eq]
 exact key s.tables.length 0 nf (by omega) (by omega)
theorem lookN_some{name:Str}{ctx:List Typing}:∀ {k:Nat} {t:Ty},k<=ctx.length->okO (lookN name ctx k)=some t->∃i,i<ctx.length∧t=(gt ctx (i:Int) Typing.zero).type
 |0,t,_,h=>by simp[lookN,okO]at h
 |k+1,t,hk,h=>by
  simp only[lookN]at h
  split at h
  ·simp only[okO,if_true,Option.some.injEq]at h
   exact⟨k,by omega,h.symm⟩
  ·exact lookN_some (by omega) h
theorem p_specLook(nf:Nat)(ctx:List Typing)(name:Str)(hv:∀i,i<ctx.length->zTy (gt ctx (i:Int) Typing.zero).type<=16777216)(hl:ctx.length<=8000000)(hn:200000000<nf):m_Zbq nf ctx name=some (lookN name ctx ctx.length):=by
 have key:∀k m,k<=ctx.length->k<m->l6_Zbq nf m ctx name ((k:Int)-1)=some (lookN name ctx k):=by
  intro k
  induction k with
  |zero=>
   intro m _ hm
   obtain⟨m,rfl⟩:∃m',m=m'+1:=⟨m-1,by omega⟩
   have c0:¬(0:Int)<=((0:Nat):Int)-1:=by omega
   rw[l6_Zbq_eq,br_neg c0];rfl
  |succ k ih=>
   intro m hk hm
   obtain⟨m,rfl⟩:∃m',m=m'+1:=⟨m-1,by omega⟩
   have e0:((k+1:Nat):Int)-1=(k:Int):=by omega
   have c0:(0:Int)<=(k:Int):=by omega
   have c1:0<=(k:Int)∧(k:Int)<(ctx.length:Int):=by omega
   have hz:=hv k (by omega)
   rw[e0,l6_Zbq_eq,br_pos c0,gg_pos c1,gg_pos c1,p_l3Copy nf nf _ (by omega) (by omega) (by omega),cb_some,Ty.h_eq,mark_eq,w64_id (n:=(k:Int)-1) (by omega) (by omega),ih m (by omega) (by omega),beqS]
   simp only[lookN]
   by_cases hn:(gt ctx (k:Int) Typing.zero).name=name
   ·rw[decide_eq_true hn,if_pos hn];rfl
   ·rw[decide_eq_false hn,if_neg hn];rfl
 rw[m_Zbq_eq,mark_eq,w64_id (n:=(ctx.length:Int)-1) (by omega) (by omega)]
 exact key ctx.length nf (Nat.le_refl _) (by omega)
theorem p_l3Texts(nf:Nat)(a b:List Str)(h:a.length+1<nf)(hb:a.length<=16777216):m_ZbO nf a b=some (eqSs a b):=by
 rw[m_ZbO_eq,mark_eq]
 unfold eqSs
 cases hl:((a.length:Int)==(b.length:Int))with
 |false=>rfl
 |true=>
  have hl2:(a.length:Int)=(b.length:Int):=by simpa using hl
  have:=for_all (fun m i=>l14_ZbO nf m a b i) a.length (fun i=>gt a (i:Int) ([]:Str)==gt b (i:Int) ([]:Str)) (some true) (some false) 0 (fun m i hp hi=> ?_) (fun m i hi=> ?_) nf (by omega) (by omega)
  ·have e0:((0:Nat):Int)=(0:Int):=rfl
   rw[e0]at this
   rw[this,show a.length-0=a.length by omega]
   generalize allF (fun i:Nat=>gt a (i:Int) ([]:Str)==gt b (i:Int) ([]:Str)) 0 a.length=A
   cases A<;>rfl
  ·have c0:(i:Int)<(a.length:Int):=by omega
   have c1:0<=(i:Int)∧(i:Int)<(a.length:Int):=by omega
   have c2:0<=(i:Int)∧(i:Int)<(b.length:Int):=by omega
   rw[l14_ZbO_eq,br_pos c0,gg_pos c1,gg_pos c2,mark_eq,w64_nat (n:=i) (by omega)]
   cases(gt a (i:Int) ([]:Str)==gt b (i:Int) ([]:Str))<;>rfl
  ·have c0:¬(i:Int)<(a.length:Int):=by omega
   rw[l14_ZbO_eq,br_neg c0]
theorem p_slEqual(nf:Nat)(a b:List Str)(h:a.length+1<nf)(hb:a.length<=16777216):m_ZaU nf a b=some (eqSs a b):=by
 rw[m_ZaU_eq,mark_eq]
 unfold eqSs
 cases hl:((a.length:Int)==(b.length:Int))with
 |false=>rfl
 |true=>
  have hl2:(a.length:Int)=(b.length:Int):=by simpa using hl
  have:=for_all (fun m i=>l14_ZaU nf m a b i) a.length (fun i=>gt a (i:Int) ([]:Str)==gt b (i:Int) ([]:Str)) (some true) (some false) 0 (fun m i hp hi=> ?_) (fun m i hi=> ?_) nf (by omega) (by omega)
  ·have e0:((0:Nat):Int)=(0:Int):=rfl
   rw[e0]at this
   rw[this,show a.length-0=a.length by omega]
   generalize allF (fun i:Nat=>gt a (i:Int) ([]:Str)==gt b (i:Int) ([]:Str)) 0 a.length=A
   cases A<;>rfl
  ·have c0:(i:Int)<(a.length:Int):=by omega
   have c1:0<=(i:Int)∧(i:Int)<(a.length:Int):=by omega
   have c2:0<=(i:Int)∧(i:Int)<(b.length:Int):=by omega
   rw[l14_ZaU_eq,br_pos c0,gg_pos c1,gg_pos c2,mark_eq,w64_nat (n:=i) (by omega)]
   cases(gt a (i:Int) ([]:Str)==gt b (i:Int) ([]:Str))<;>rfl
  ·have c0:¬(i:Int)<(a.length:Int):=by omega
   rw[l14_ZaU_eq,br_neg c0]
theorem eqTL_0(ts us:List Ty):eqTL ts us 0=allF (fun i=>eqT (gt ts (i:Int) Ty.zero) (gt us (i:Int) Ty.zero)) 0 ts.length:=eqTL_all us ts 0
theorem p_specEq(nf:Nat):∀(kf:Nat) (a b:Ty),8*zTy a+1<kf->8*zTy a+1<nf->zTy a<=16777216->m_ZaZ nf kf a b=some (eqT a b)
 |0,a,b,h,_,_=>absurd h (Nat.not_lt_zero _)
 |kf+1,a,b,h,h',hb=>by
  have hz:=zTy_f a
  have l1:a.labels.length<=szL List.length a.labels:=by unfold szL;omega
  have l2:a.args.length<=szL zTy a.args:=by unfold szL;omega
  rw[m_ZaZ_eq,p_l3Texts nf a.labels b.labels (by omega) (by omega),cb_some,eqT_eq,eqTL_0]
  have h5f:j5_ZaZ nf (kf+1) a b true=some false:=by rw[j5_ZaZ_eq,br_true]
  have h5t:((a.args.length:Int)==(b.args.length:Int))=true->j5_ZaZ nf (kf+1) a b false=some (allF (fun i=>eqT (gt a.args (i:Int) Ty.zero) (gt b.args (i:Int) Ty.zero)) 0 a.args.length):=fun hl=>by
   have hl2:(a.args.length:Int)=(b.args.length:Int):=by simpa using hl
   rw[j5_ZaZ_eq,br_false,mark_eq]
   have:=for_all (fun m i=>l14_ZaZ nf (kf+1) m a b i) a.args.length (fun i=>eqT (gt a.args (i:Int) Ty.zero) (gt b.args (i:Int) Ty.zero)) (some true) (some false) 0 (fun m i hp hi=> ?_) (fun m i hi=> ?_) nf (by omega) (by omega)
   ·have e0:((0:Nat):Int)=(0:Int):=rfl
    rw[e0]at this
    rw[this,show a.args.length-0=a.args.length by omega]
    generalize allF (fun i:Nat=>eqT (gt a.args (i:Int) Ty.zero) (gt b.args (i:Int) Ty.zero)) 0 a.args.length=A
    cases A<;>rfl
   ·have c0:(i:Int)<(a.args.length:Int):=by omega
    have c1:0<=(i:Int)∧(i:Int)<(a.args.length:Int):=by omega
    have c2:0<=(i:Int)∧(i:Int)<(b.args.length:Int):=by omega
    have hs:=szL_at zTy a.args hi Ty.zero
    have e1:=p_specEq nf kf (gt a.args (i:Int) Ty.zero) (gt b.args (i:Int) Ty.zero) (by omega) (by omega) (by omega)
    rw[l14_ZaZ_eq,br_pos c0,gg_pos c1,gg_pos c2,e1,cb_some,mark_eq,w64_nat (n:=i) (by omega)]
    cases eqT (gt a.args (i:Int) Ty.zero) (gt b.args (i:Int) Ty.zero)<;>rfl
   ·have c0:¬(i:Int)<(a.args.length:Int):=by omega
    rw[l14_ZaZ_eq,br_neg c0]
  simp only[mark_eq]
  generalize (a.kind==b.kind)=K
  generalize allF (fun i:Nat=>eqT (gt a.args (i:Int) Ty.zero) (gt b.args (i:Int) Ty.zero)) 0 a.args.length=A at h5t⊢
  cases hl:((a.args.length:Int)==(b.args.length:Int))with
  |false=>
   rw[Bool.not_false,h5f]
   cases K<;>cases eqSs a.labels b.labels<;>rfl
  |true=>
   rw[Bool.not_true,h5f,h5t hl]
   cases K<;>cases eqSs a.labels b.labels<;>rfl
theorem p_implEq(nf:Nat):∀(kf:Nat) (a b:Ty),8*zTy a+2<kf->8*zTy a+1<nf->zTy a<=16777216->m_Zk nf kf a b=some (eqT a b)
 |0,a,b,h,_,_=>absurd h (Nat.not_lt_zero _)
 |1,a,b,h,_,_=>absurd h (by omega)
 |kf+2,a,b,h,h',hb=>by
  have hz:=zTy_f a
  have l1:a.labels.length<=szL List.length a.labels:=by unfold szL;omega
  have l2:a.args.length<=szL zTy a.args:=by unfold szL;omega
  have hE:m_ZaT nf (kf+1) a.args b.args=some (((a.args.length:Int)==(b.args.length:Int))&&eqTL a.args b.args 0):=by
   rw[m_ZaT_eq,mark_eq,eqTL_0]
   cases hl:((a.args.length:Int)==(b.args.length:Int))with
   |false=>rfl
   |true=>
    have hl2:(a.args.length:Int)=(b.args.length:Int):=by simpa using hl
    have:=for_all (fun m i=>l14_ZaT nf (kf+1) m b.args a.args i) a.args.length (fun i=>eqT (gt a.args (i:Int) Ty.zero) (gt b.args (i:Int) Ty.zero)) (some true) (some false) 0 (fun m i hp hi=> ?_) (fun m i hi=> ?_) nf (by omega) (by omega)
    ·have e0:((0:Nat):Int)=(0:Int):=rfl
     rw[e0]at this
     rw[this,show a.args.length-0=a.args.length by omega]
     generalize allF (fun i:Nat=>eqT (gt a.args (i:Int) Ty.zero) (gt b.args (i:Int) Ty.zero)) 0 a.args.length=A
     cases A<;>rfl
    ·have c0:(i:Int)<(a.args.length:Int):=by omega
     have c1:0<=(i:Int)∧(i:Int)<(a.args.length:Int):=by omega
     have c2:0<=(i:Int)∧(i:Int)<(b.args.length:Int):=by omega
     have hs:=szL_at zTy a.args hi Ty.zero
     have e1:=p_implEq nf kf (gt a.args (i:Int) Ty.zero) (gt b.args (i:Int) Ty.zero) (by omega) (by omega) (by omega)
     rw[l14_ZaT_eq,br_pos c0,gg_pos c1,gg_pos c2,Ty.h_eq,Ty.h_eq,e1,cb_some,mark_eq,w64_nat (n:=i) (by omega)]
     cases eqT (gt a.args (i:Int) Ty.zero) (gt b.args (i:Int) Ty.zero)<;>rfl
    ·have c0:¬(i:Int)<(a.args.length:Int):=by omega
     rw[l14_ZaT_eq,br_neg c0]
  rw[m_Zk_eq,p_slEqual nf a.labels b.labels (by omega) (by omega),cb_some,eqT_eq,hE,cb_some]
  generalize (a.kind==b.kind)=K
  generalize (((a.args.length:Int)==(b.args.length:Int))&&eqTL a.args b.args 0)=A
  cases K<;>cases eqSs a.labels b.labels<;>rfl
theorem p_implIx(nf:Nat)(xs:List Str)(s:Str)(h:xs.length+1<nf)(hb:xs.length<=16777216):m_ZaV nf xs s=some (findI (fun i=>gt xs (i:Int) ([]:Str)==s) 0 xs.length):=by
 rw[m_ZaV_eq,mark_eq]
 have:=for_find (fun m i=>l6_ZaV nf m xs s i) xs.length (fun i=>gt xs (i:Int) ([]:Str)==s) 0 (fun m i hp hi=> ?_) (fun m i hi=> ?_) nf (by omega) (by omega)
 ·exact this
 ·have c0:(i:Int)<(xs.length:Int):=by omega
  have c1:0<=(i:Int)∧(i:Int)<(xs.length:Int):=by omega
  rw[l6_ZaV_eq,br_pos c0,gg_pos c1,mark_eq,w64_nat (n:=i) (by omega)]
  have:(s==gt xs (i:Int) ([]:Str))=(gt xs (i:Int) ([]:Str)==s):=Bool.beq_comm
  rw[this]
  cases(gt xs (i:Int) ([]:Str)==s)<;>rfl
 ·have c0:¬(i:Int)<(xs.length:Int):=by omega
  rw[l6_ZaV_eq,br_neg c0]
theorem p_specIx(nf:Nat)(xs:List Str)(s:Str)(h:xs.length+1<nf)(hb:xs.length<=16777216):m_Zbb nf xs s=some (findI (fun i=>gt xs (i:Int) ([]:Str)==s) 0 xs.length):=by
 rw[m_Zbb_eq,mark_eq]
 have:=for_find (fun m i=>l6_Zbb nf m xs s i) xs.length (fun i=>gt xs (i:Int) ([]:Str)==s) 0 (fun m i hp hi=> ?_) (fun m i hi=> ?_) nf (by omega) (by omega)
 ·exact this
 ·have c0:(i:Int)<(xs.length:Int):=by omega
  have c1:0<=(i:Int)∧(i:Int)<(xs.length:Int):=by omega
  rw[l6_Zbb_eq,br_pos c0,gg_pos c1,mark_eq,w64_nat (n:=i) (by omega)]
  cases(gt xs (i:Int) ([]:Str)==s)<;>rfl
 ·have c0:¬(i:Int)<(xs.length:Int):=by omega
  rw[l6_Zbb_eq,br_neg c0]
theorem field_z{t u:Ty}{l:Str}(h:fieldO t l=some u):nVal u=true:=by
 unfold fieldO at h
 split at h
 ·rename_i hc
  cases h
  obtain⟨hv,hk,h0⟩:=hc
  have hlt:=findI_lt (fun i=>gt t.labels (i:Int) ([]:Str)==l) t.labels.length 0
  have hl:=form_rec (val_form hv) hk
  obtain⟨n,hn⟩:∃n:Nat,findI (fun i=>gt t.labels (i:Int) ([]:Str)==l) 0 t.labels.length=(n:Int):=⟨(findI (fun i=>gt t.labels (i:Int) ([]:Str)==l) 0 t.labels.length).toNat,by omega⟩
  rw[hn]at hlt⊢
  exact val_at hv (by omega)
 ·cases h
theorem p_specField(nf:Nat)(t:Ty)(l:Str)(h:8*zTy t+1<nf)(hb:zTy t<=16777216):m_Zba nf t l=some (ansO (fieldO t l)):=by
 have hz:=zTy_f t
 have l1:t.labels.length<=szL List.length t.labels:=by unfold szL;omega
 have hlt:=findI_lt (fun i=>gt t.labels (i:Int) ([]:Str)==l) t.labels.length 0
 rw[m_Zba_eq,p_specIx nf t.labels l (by omega) (by omega),cb_some,Ty.h_eq,p_specValid nf t h hb,cb_some]
 have bk:(t.kind==(3:Int))=decide (t.kind=3):=rfl
 rw[bk]
 have hf:∀r,j7_Zba nf r t true=some (ansO none):=fun r=>by rw[j7_Zba_eq,br_true];rfl
 unfold fieldO
 generalize hx:findI (fun i=>gt t.labels (i:Int) ([]:Str)==l) 0 t.labels.length=x at hlt
 cases hv:nVal t with
 |false=>rw[Bool.not_false,br_tf,mark_eq,hf,if_neg (fun h=>by cases h.1)]
 |true=>
  rw[Bool.not_true,br_ff2]
  by_cases hk:t.kind=3
  ·rw[decide_eq_true hk,Bool.not_true,br_ff2,mark_eq]
   by_cases h0:0<=x
   ·have hl:=form_rec (val_form hv) hk
    obtain⟨n,rfl⟩:∃n:Nat,x=(n:Int):=⟨x.toNat,by omega⟩
    have hs:=szL_at zTy t.args (i:=n) (by omega) Ty.zero
    rw[if_pos ⟨rfl,hk,h0⟩,j7_Zba_eq,decide_eq_false (by omega),br_false,gg_pos (by omega),p_l3Copy nf nf _ (by omega) (by omega) (by omega),cb_some,Ty.h_eq];rfl
   ·rw[if_neg (fun h=>h0 h.2.2),decide_eq_true (by omega),hf]
  ·rw[if_neg (fun h=>hk h.2.1),decide_eq_false hk,Bool.not_false,br_tf,mark_eq,hf]
theorem p_implField(nf:Nat)(t:Ty)(l:Str)(h:8*zTy t+1<nf)(hb:zTy t<=16777216):m_Zl nf t l=some (ansO (fieldO t l)):=by
 have hz:=zTy_f t
 have l1:t.labels.length<=szL List.length t.labels:=by unfold szL;omega
 have hlt:=findI_lt (fun i=>gt t.labels (i:Int) ([]:Str)==l) t.labels.length 0
 rw[m_Zl_eq,p_implIx nf t.labels l (by omega) (by omega),cb_some,Ty.h_eq,p_implValid nf t h hb,cb_some]
 have bk:(t.kind==(3:Int))=decide (t.kind=3):=rfl
 rw[bk]
 have hf:∀r,j7_Zl nf r t true=some (ansO none):=fun r=>by rw[j7_Zl_eq,br_true];rfl
 unfold fieldO
 generalize hx:findI (fun i=>gt t.labels (i:Int) ([]:Str)==l) 0 t.labels.length=x at hlt
 cases hv:nVal t with
 |false=>rw[Bool.not_false,br_tf,mark_eq,hf,if_neg (fun h=>by cases h.1)]
 |true=>
  rw[Bool.not_true,br_ff2]
  by_cases hk:t.kind=3
  ·rw[decide_eq_true hk,Bool.not_true,br_ff2,mark_eq]
   by_cases h0:0<=x
   ·have hl:=form_rec (val_form hv) hk
    obtain⟨n,rfl⟩:∃n:Nat,x=(n:Int):=⟨x.toNat,by omega⟩
    have hs:=szL_at zTy t.args (i:=n) (by omega) Ty.zero
    rw[if_pos ⟨rfl,hk,h0⟩,j7_Zl_eq,decide_eq_false (by omega),br_false,gg_pos (by omega),p_cloneType nf nf _ (by omega) (by omega) (by omega),cb_some,Ty.h_eq];rfl
   ·rw[if_neg (fun h=>h0 h.2.2),decide_eq_true (by omega),hf]
  ·rw[if_neg (fun h=>hk h.2.1),decide_eq_false hk,Bool.not_false,br_tf,mark_eq,hf]
end Go.Q
