/- Valid terms, schemas and contexts; rows, equal types. -/
import Derived.Test.YtjogpopbgmjlbaaGreatU3p
import Derived.Test.YtjogpopbgmjlbaaGreatU7p
set_option linter.unusedVariables false
set_option linter.unusedSimpArgs false
set_option maxHeartbeats 2000000
namespace Go.Q
theorem zTm_at(e:Tm){i:Nat}(h:i<e.args.length):1+zTm (gt e.args (i:Int) Tm.zero)<=zTm e:=by
 have:=szL_at zTm e.args h Tm.zero
 have:=zTm_f e
 omega
theorem zTm_len(e:Tm):e.args.length<=zTm e:=by
 have:=zTm_f e
 have l2:e.args.length<=szL zTm e.args:=by unfold szL;omega
 omega
theorem p_specFormT(nf:Nat):∀(kf:Nat) (e:Tm),8*zTm e+1<kf->8*zTm e+1<nf->zTm e<=16777216->m_ZbF nf kf e=some (nFormT e)
 |0,e,h,_,_=>absurd h (Nat.not_lt_zero _)
 |kf+1,e,h,h',hb=>by
  have hl:=zTm_len e
  rw[m_ZbF_eq,mark_eq]
  have:=for_all (fun m i=>l6_ZbF nf (kf+1) m e i) e.args.length (fun i=>nFormT (gt e.args (i:Int) Tm.zero)) (j23_ZbF nf (kf+1) e) (some false) 0 (fun m i hp hi=> ?_) (fun m i hi=> ?_) nf (by omega) (by omega)
  ·have e0:((0:Nat):Int)=(0:Int):=rfl
   rw[e0]at this
   rw[this,show e.args.length-0=e.args.length by omega,allF_all nFormT Tm.zero,nFormT_eq,j23_ZbF_eq,Tm.h_eq,p_fields nf e h' hb,cb_some,p_arity,cb_some,<-node_same]
   generalize ((e.args.length:Int)==arB e)=A
   cases e.args.all nFormT<;>cases fldB e<;>cases A<;>rfl
  ·have c0:(i:Int)<(e.args.length:Int):=by omega
   have c1:0<=(i:Int)∧(i:Int)<(e.args.length:Int):=by omega
   have hs:=zTm_at e hi
   have e1:=p_specFormT nf kf (gt e.args (i:Int) Tm.zero) (by omega) (by omega) (by omega)
   rw[l6_ZbF_eq,br_pos c0,gg_pos c1,e1,cb_some,mark_eq,w64_nat (n:=i) (by omega)]
   cases nFormT (gt e.args (i:Int) Tm.zero)<;>rfl
  ·have c0:¬(i:Int)<(e.args.length:Int):=by omega
   rw[l6_ZbF_eq,br_neg c0,mark_eq]
theorem p_implFormT(nf:Nat):∀(kf:Nat) (e:Tm),8*zTm e+1<kf->8*zTm e+1<nf->zTm e<=16777216->m_ZP nf kf e=some (nFormT e)
 |0,e,h,_,_=>absurd h (Nat.not_lt_zero _)
 |kf+1,e,h,h',hb=>by
  have hl:=zTm_len e
  rw[m_ZP_eq,p_node nf e h' hb,cb_some,mark_eq,nFormT_eq]
  have:=for_all (fun m i=>l14_ZP nf (kf+1) m e i) e.args.length (fun i=>nFormT (gt e.args (i:Int) Tm.zero)) (some true) (some false) 0 (fun m i hp hi=> ?_) (fun m i hi=> ?_) nf (by omega) (by omega)
  ·have e0:((0:Nat):Int)=(0:Int):=rfl
   rw[e0]at this
   rw[this,show e.args.length-0=e.args.length by omega,allF_all nFormT Tm.zero]
   cases nodeOk e<;>cases e.args.all nFormT<;>rfl
  ·have c0:(i:Int)<(e.args.length:Int):=by omega
   have c1:0<=(i:Int)∧(i:Int)<(e.args.length:Int):=by omega
   have hs:=zTm_at e hi
   have e1:=p_implFormT nf kf (gt e.args (i:Int) Tm.zero) (by omega) (by omega) (by omega)
   rw[l14_ZP_eq,br_pos c0,gg_pos c1,e1,cb_some,mark_eq,w64_nat (n:=i) (by omega)]
   cases nFormT (gt e.args (i:Int) Tm.zero)<;>rfl
  ·have c0:¬(i:Int)<(e.args.length:Int):=by omega
   rw[l14_ZP_eq,br_neg c0]
theorem p_specDepthT(nf:Nat):∀(kf:Nat) (e:Tm),8*zTm e+1<kf->8*zTm e+1<nf->zTm e<=16777216->m_ZaT nf kf e=some (nDepT e:Int)
 |0,e,h,_,_=>absurd h (Nat.not_lt_zero _)
 |kf+1,e,h,h',hb=>by
  have hl:=zTm_len e
  have hdz:=nDepT_le e
  have hsz:=nSzT_le e
  rw[m_ZaT_eq,mark_eq]
  refine for_loop (fun m i (s:Int)=>l8_ZaT nf (kf+1) m e s i) e.args.length (fun i=>(nDepTL (e.args.take i):Int)) _ (fun m i hi=> ?_) (fun m=> ?_) nf (by omega)
  ·have c0:(i:Int)<(e.args.length:Int):=by omega
   have c1:0<=(i:Int)∧(i:Int)<(e.args.length:Int):=by omega
   have hs:=zTm_at e hi
   have e1:=p_specDepthT nf kf (gt e.args (i:Int) Tm.zero) (by omega) (by omega) (by omega)
   simp only[l8_ZaT_eq,br_pos c0,gg_pos c1,e1,cb_some,p_l1Max,mark_eq,w64_nat (n:=i) (by omega),nDepTL_take e.args hi]
  ·have c0:¬(e.args.length:Int)<(e.args.length:Int):=by omega
   have hd:=nDepT_eq e
   simp only[l8_ZaT_eq,br_neg c0,List.take_length,w64_nat (n:=nDepTL e.args) (by omega),<-hd]
theorem mx2_nat(a b:Nat):mx2 false (a:Int) (b:Int)=((max a b:Nat):Int):=by
 unfold mx2
 by_cases h:(b:Int)>(a:Int)
 ·rw[show max a b=b by omega];simp[h]
 ·rw[show max a b=a by omega];simp[h]
theorem p_implDepthT(nf:Nat):∀(kf:Nat) (e:Tm),8*zTm e+1<kf->8*zTm e+1<nf->zTm e<=16777216->m_Zj nf kf e=some (nDepT e:Int)
 |0,e,h,_,_=>absurd h (Nat.not_lt_zero _)
 |kf+1,e,h,h',hb=>by
  have hl:=zTm_len e
  have hdz:=nDepT_le e
  have hsz:=nSzT_le e
  rw[m_Zj_eq,mark_eq]
  refine for_loop (fun m i (s:Int)=>l8_Zj nf (kf+1) m e s i) e.args.length (fun i=>(nDepTL (e.args.take i):Int)) _ (fun m i hi=> ?_) (fun m=> ?_) nf (by omega)
  ·have c0:(i:Int)<(e.args.length:Int):=by omega
   have c1:0<=(i:Int)∧(i:Int)<(e.args.length:Int):=by omega
   have hs:=zTm_at e hi
   have e1:=p_implDepthT nf kf (gt e.args (i:Int) Tm.zero) (by omega) (by omega) (by omega)
   simp only[l8_Zj_eq,br_pos c0,gg_pos c1,e1,cb_some,mx2_nat,mark_eq,w64_nat (n:=i) (by omega),nDepTL_take e.args hi]
  ·have c0:¬(e.args.length:Int)<(e.args.length:Int):=by omega
   have hd:=nDepT_eq e
   simp only[l8_Zj_eq,br_neg c0,List.take_length,w64_nat (n:=nDepTL e.args) (by omega),<-hd]
theorem p_sizeOf(nf:Nat):∀(kf:Nat) (e:Tm),8*zTm e+1<kf->8*zTm e+1<nf->zTm e<=16777216->m_ZO nf kf e=some (nSzT e:Int)
 |0,e,h,_,_=>absurd h (Nat.not_lt_zero _)
 |kf+1,e,h,h',hb=>by
  have hl:=zTm_len e
  have hn:=nSzT_eq e
  have hsz:=nSzT_le e
  rw[m_ZO_eq,mark_eq]
  refine for_loop (fun m i (s:Int)=>l8_ZO nf (kf+1) m e s i) e.args.length (fun i=>((nSzTL (e.args.take i)+1:Nat):Int)) _ (fun m i hi=> ?_) (fun m=> ?_) nf (by omega)
  ·have c0:(i:Int)<(e.args.length:Int):=by omega
   have c1:0<=(i:Int)∧(i:Int)<(e.args.length:Int):=by omega
   have hs:=zTm_at e hi
   have e1:=p_sizeOf nf kf (gt e.args (i:Int) Tm.zero) (by omega) (by omega) (by omega)
   have hle:=nSzTL_le e.args (i+1)
   have htk:=nSzTL_take e.args hi
   have ew:w64 (((nSzTL (e.args.take i)+1:Nat):Int)+(nSzT (gt e.args (i:Int) Tm.zero):Int))=((nSzTL (e.args.take (i+1))+1:Nat):Int):=by
    rw[w64_id (by omega) (by omega)];omega
   simp only[l8_ZO_eq,br_pos c0,gg_pos c1,e1,cb_some,mark_eq,w64_nat (n:=i) (by omega),ew]
  ·have c0:¬(e.args.length:Int)<(e.args.length:Int):=by omega
   simp only[l8_ZO_eq,br_neg c0,List.take_length,<-hn]
def lftOkT(e:Tm)(a r:Int):Prop:=((nSzT e:Int)<=a∧r=a-nSzT e)∨(a<nSzT e∧r= -1)
theorem p_l7Left(nf:Nat):∀(kf:Nat) (e:Tm) (a:Int),8*zTm e+1<kf->8*zTm e+1<nf->zTm e<=16777216->0<=a->a<=1000->∃r,m_ZbG nf kf e a=some r∧lftOkT e a r
 |0,e,_,h,_,_,_,_=>absurd h (Nat.not_lt_zero _)
 |kf+1,e,a,h,h',hb,ha,ha'=>by
  have hl:=zTm_len e
  have hnz:=nSzT_eq e
  rw[m_ZbG_eq,mark_eq,w64_id (n:=a-1) (by omega) (by omega)]
  refine for_rel (fun m i (s:Int)=>l8_ZbG nf (kf+1) m e s i) e.args.length (fun i s=>(((nSzTL (e.args.take i):Int)+1<=a∧s=a-1-nSzTL (e.args.take i))∨(a<nSzTL (e.args.take i)+1∧s= -1))) (fun r=>lftOkT e a r) (fun m i s hi hI=> ?_) (fun m s hI=> ?_) nf (a-1) (by omega) ?_
  ·have c0:(i:Int)<(e.args.length:Int):=by omega
   have c1:0<=(i:Int)∧(i:Int)<(e.args.length:Int):=by omega
   have hs:=zTm_at e hi
   have htk:=nSzTL_take e.args hi
   have hle:=nSzTL_le e.args i
   have hle2:=nSzTL_le e.args (i+1)
   have c2:decide ((i:Int)<(e.args.length:Int))=true:=decide_eq_true c0
   rcases hI with⟨h1,rfl⟩|⟨h1,rfl⟩
   ·obtain⟨r,e1,hr⟩:=p_l7Left nf kf (gt e.args (i:Int) Tm.zero) (a-1-nSzTL (e.args.take i)) (by omega) (by omega) (by omega) (by omega) (by omega)
    have c3:decide ((0:Int)<=a-1-nSzTL (e.args.take i))=true:=decide_eq_true (by omega)
    refine .inr ⟨r,?_,?_⟩
    ·rcases hr with⟨g1,g2⟩|⟨g1,g2⟩
     ·exact .inl ⟨by omega,by omega⟩
     ·exact .inr ⟨by omega,g2⟩
    ·simp only[l8_ZbG_eq,j12_ZbG_eq,c2,c3,gg_pos c1,e1,cb_some,mark_eq,w64_nat (n:=i) (by omega),beq_self_eq_true,br_true]
   ·refine .inl ⟨-1,?_,.inr ⟨by omega,rfl⟩⟩
    have c3:decide ((0:Int)<=(-1:Int))=false:=rfl
    simp only[l8_ZbG_eq,j12_ZbG_eq,c2,c3,mark_eq,beq_self_eq_true,br_true,br_false]
  ·have c0:¬(e.args.length:Int)<(e.args.length:Int):=by omega
   have c2:decide ((e.args.length:Int)<(e.args.length:Int))=false:=decide_eq_false c0
   rw[List.take_length]at hI
   refine⟨s,?_,?_⟩
   ·simp only[l8_ZbG_eq,j12_ZbG_eq,c2,mark_eq,br_false]
    rfl
   ·rcases hI with⟨h1,rfl⟩|⟨h1,rfl⟩
    ·exact .inl ⟨by omega,by omega⟩
    ·exact .inr ⟨by omega,rfl⟩
  ·by_cases h0:1<=a
   ·exact .inl ⟨by simp[nSzTL];omega,by simp[nSzTL]⟩
   ·exact .inr ⟨by simp[nSzTL];omega,by omega⟩
theorem p_specValT(nf:Nat)(e:Tm)(h:8*zTm e+1<nf)(hb:zTm e<=16777216):m_Zbc nf e=some (nValT e):=by
 obtain⟨r,e1,hr⟩:=p_l7Left nf nf e 60 h h hb (by omega) (by omega)
 rw[m_Zbc_eq,Tm.h_eq,e1,cb_some,p_specDepthT nf nf e h h hb,p_specFormT nf nf e h h hb]
 simp only[cb_some,nValT]
 rcases hr with⟨h1,rfl⟩|⟨h1,rfl⟩
 ·have c1:nSzT e<=60:=by omega
  have c2:decide ((0:Int)<=60-(nSzT e:Int))=true:=decide_eq_true (by omega)
  rw[c2,decide_eq_true c1]
  have c3:decide ((nDepT e:Int)<=16)=decide (nDepT e<=16):=decide_eq_decide.2 (by omega)
  rw[c3]
  cases decide (nDepT e<=16)<;>rfl
 ·have c1:¬nSzT e<=60:=by omega
  rw[decide_eq_false c1]
  rfl
theorem p_implValT(nf:Nat)(e:Tm)(h:8*zTm e+1<nf)(hb:zTm e<=16777216):m_Zr nf e=some (nValT e):=by
 rw[m_Zr_eq,Tm.h_eq,p_sizeOf nf nf e h h hb,cb_some,p_implDepthT nf nf e h h hb,p_implFormT nf nf e h h hb]
 simp only[cb_some,nValT]
 have c2:decide ((nSzT e:Int)<=60)=decide (nSzT e<=60):=decide_eq_decide.2 (by omega)
 have c3:decide ((nDepT e:Int)<=16)=decide (nDepT e<=16):=decide_eq_decide.2 (by omega)
 rw[c2,c3]
 cases decide (nSzT e<=60)<;>cases decide (nDepT e<=16)<;>rfl
theorem p_isPlain(nf:Nat)(t:Ty):m_ZF nf t=some (isBase t):=by
 rw[m_ZF_eq];unfold isBase
 cases(t.kind==(1:Int))<;>rfl
theorem p_base(nf:Nat)(t:Ty):m_Zbs nf t=some (isBase t):=by
 rw[m_Zbs_eq];unfold isBase
 cases(t.kind==(1:Int))<;>rfl
theorem p_implRow(nf:Nat)(t:Ty)(h:8*zTy t+1<nf)(hb:zTy t<=16777216):m_Zo nf t=some (nRow t):=by
 have hz:=zTy_f t
 have l2:t.args.length<=szL zTy t.args:=by unfold szL;omega
 have hI:m_Ze nf t.args=some (findI (fun i=> !isBase (gt t.args (i:Int) Ty.zero)) 0 t.args.length):=by
  rw[m_Ze_eq,mark_eq]
  have:=for_find (fun m i=>l6_Ze nf m t.args i) t.args.length (fun i=> !isBase (gt t.args (i:Int) Ty.zero)) 0 (fun m i hp hi=> ?_) (fun m i hi=> ?_) nf (by omega) (by omega)
  ·exact this
  ·have c0:(i:Int)<(t.args.length:Int):=by omega
   have c1:0<=(i:Int)∧(i:Int)<(t.args.length:Int):=by omega
   rw[l6_Ze_eq,br_pos c0,gg_pos c1,m_Zp_eq,Ty.h_eq,p_isPlain,cb_some,cb_some,mark_eq,w64_nat (n:=i) (by omega)]
   cases isBase (gt t.args (i:Int) Ty.zero)<;>rfl
  ·have c0:¬(i:Int)<(t.args.length:Int):=by omega
   rw[l6_Ze_eq,br_neg c0]
 have hC:m_Za nf t.args=some (!t.args.all isBase):=by
  rw[m_Za_eq,hI,cb_some,findI_all]
  have e:(fun j:Nat=> !(!isBase (gt t.args (j:Int) Ty.zero)))=fun j:Nat=>isBase (gt t.args (j:Int) Ty.zero):=by funext j;simp
  rw[e,allF_all isBase Ty.zero]
 rw[m_Zo_eq,Ty.h_eq,p_implValid nf t h hb,cb_some,hC,cb_some]
 unfold nRow
 generalize (t.kind==(3:Int))=k3
 cases nVal t<;>cases k3<;>cases t.args.all isBase<;>rfl
theorem p_specRow(nf:Nat)(t:Ty)(h:8*zTy t+1<nf)(hb:zTy t<=16777216):m_Zba nf t=some (nRow t):=by
 have hz:=zTy_f t
 have l2:t.args.length<=szL zTy t.args:=by unfold szL;omega
 have hL:l14_Zba nf nf t (0:Int)=some (t.args.all isBase):=by
  have:=for_all (fun m i=>l14_Zba nf m t i) t.args.length (fun i=>isBase (gt t.args (i:Int) Ty.zero)) (some true) (some false) 0 (fun m i hp hi=> ?_) (fun m i hi=> ?_) nf (by omega) (by omega)
  ·have e0:((0:Nat):Int)=(0:Int):=rfl
   rw[e0]at this
   rw[this,show t.args.length-0=t.args.length by omega,allF_all isBase Ty.zero]
   cases t.args.all isBase<;>rfl
  ·have c0:(i:Int)<(t.args.length:Int):=by omega
   have c1:0<=(i:Int)∧(i:Int)<(t.args.length:Int):=by omega
   rw[l14_Zba_eq,br_pos c0,gg_pos c1,p_base,cb_some,mark_eq,w64_nat (n:=i) (by omega)]
   cases isBase (gt t.args (i:Int) Ty.zero)<;>rfl
  ·have c0:¬(i:Int)<(t.args.length:Int):=by omega
   rw[l14_Zba_eq,br_neg c0]
 rw[m_Zba_eq,Ty.h_eq,p_specValid nf t h hb,cb_some]
 simp only[j5_Zba_eq,mark_eq,hL]
 unfold nRow
 generalize (t.kind==(3:Int))=k3
 cases nVal t<;>cases k3<;>cases t.args.all isBase<;>rfl
theorem gt_map{α β:Type}(f:α->β)(xs:List α)(i:Nat)(z:α)(h:i<xs.length):gt (xs.map f) (i:Int) (f z)=f (gt xs (i:Int) z):=by
 rw[gt_at xs i h,gt_at (xs.map f) i (by simpa using h)]
 simp
theorem zTD_at(s:Schema){i:Nat}(h:i<s.tables.length):1+(gt s.tables (i:Int) TDecl.zero).name.length+zTy (gt s.tables (i:Int) TDecl.zero).row<=zSchema s:=by
 have h1:=szL_at zTDecl s.tables h TDecl.zero
 have h2:=zSchema_f s
 have h3:zTDecl (gt s.tables (i:Int) TDecl.zero)=(gt s.tables (i:Int) TDecl.zero).name.length+zTy (gt s.tables (i:Int) TDecl.zero).row:=rfl
 omega
theorem allF_and(f g:Nat->Bool):∀(k i:Nat),allF (fun j=>f j&&g j) i k=(allF f i k&&allF g i k)
 |0,i=>rfl
 |k+1,i=>by
  simp only[allF,allF_and f g k (i+1)]
  cases f i<;>cases g i<;>cases allF f (i+1) k<;>cases allF g (i+1) k<;>rfl
theorem asc_map(ts:List TDecl):nAsc (ts.map (·.name))=allF (fun i=>(i==0)||Op.bytesLess (gt ts ((i:Int)-1) TDecl.zero).name (gt ts (i:Int) TDecl.zero).name) 0 ts.length:=by
 unfold nAsc
 rw[List.length_map]
 cases hn:ts.length with
 |zero=>rfl
 |succ n=>
  simp only[allF,beq_self_eq_true,Bool.true_or,Bool.true_and,Nat.add_sub_cancel]
  refine allF_congr fun j h1 h2=> ?_
  have hj:((j:Int)-1)=((j-1:Nat):Int):=by omega
  have e1:=gt_map (·.name) ts j TDecl.zero (by omega)
  have e2:=gt_map (·.name) ts (j-1) TDecl.zero (by omega)
  have z:TDecl.zero.name=([]:Str):=rfl
  rw[z]at e1 e2
  have hj0:(j==0)=false:=by simp;omega
  rw[hj,e1,e2,hj0];rfl
theorem p_implSchema(nf:Nat)(s:Schema)(h:8*zSchema s+1<nf)(hb:zSchema s<=16777216):m_Zq nf s=some (nSchema s):=by
 have hz:=zSchema_f s
 have l2:s.tables.length<=szL zTDecl s.tables:=by unfold szL;omega
 rw[m_Zq_eq,mark_eq]
 have:=for_all (fun m i=>l6_Zq nf m s i) s.tables.length (fun i=>(nNm (gt s.tables (i:Int) TDecl.zero).name&&nRow (gt s.tables (i:Int) TDecl.zero).row)&&((i==0)||Op.bytesLess (gt s.tables ((i:Int)-1) TDecl.zero).name (gt s.tables (i:Int) TDecl.zero).name)) (some (decide ((s.tables.length:Int)<=4))) (some false) 0 (fun m i hp hi=> ?_) (fun m i hi=> ?_) nf (by omega) (by omega)
 ·have e0:((0:Nat):Int)=(0:Int):=rfl
  rw[e0]at this
  rw[this,show s.tables.length-0=s.tables.length by omega,allF_and,allF_all (fun t=>nNm t.name&&nRow t.row) TDecl.zero,<-asc_map]
  unfold nSchema
  have c2:decide ((s.tables.length:Int)<=4)=decide (s.tables.length<=4):=decide_eq_decide.2 (by omega)
  rw[c2]
  generalize s.tables.all (fun t=>nNm t.name&&nRow t.row)=A
  cases A<;>cases decide (s.tables.length<=4)<;>cases nAsc (s.tables.map (·.name))<;>rfl
 ·have c0:(i:Int)<(s.tables.length:Int):=by omega
  have c1:0<=(i:Int)∧(i:Int)<(s.tables.length:Int):=by omega
  have hs:=zTD_at s hi
  have e1:=p_implName nf (gt s.tables (i:Int) TDecl.zero).name (by omega) (by omega)
  have e2:=p_implRow nf (gt s.tables (i:Int) TDecl.zero).row (by omega) (by omega)
  have h19:∀b,j19_Zq nf m s (i:Int) b=br b (some false) (l6_Zq nf m s ((i+1:Nat):Int)):=fun b=>by rw[j19_Zq_eq,mark_eq,w64_nat (n:=i) (by omega)]
  have ew:w64 ((i:Int)-1)=(i:Int)-1:=w64_id (by omega) (by omega)
  rw[l6_Zq_eq,br_pos c0,gg_pos c1,e1,cb_some,Ty.h_eq,e2,cb_some,ew]
  simp only[h19,mark_eq]
  generalize l6_Zq nf m s ((i+1:Nat):Int)=X
  by_cases hi0:i=0
  ·subst hi0
   have b0:decide ((0:Int)<((0:Nat):Int))=false:=rfl
   rw[b0]
   cases nNm (gt s.tables ((0:Nat):Int) TDecl.zero).name<;>cases nRow (gt s.tables ((0:Nat):Int) TDecl.zero).row<;>rfl
  ·have b0:decide ((0:Int)<(i:Int))=true:=decide_eq_true (by omega)
   have b1:(i==0)=false:=by simp;omega
   rw[b0,b1,gg_pos (by omega)]
   generalize Op.bytesLess (gt s.tables ((i:Int)-1) TDecl.zero).name (gt s.tables (i:Int) TDecl.zero).name=L
   cases nNm (gt s.tables (i:Int) TDecl.zero).name<;>cases nRow (gt s.tables (i:Int) TDecl.zero).row<;>cases L<;>rfl
 ·have c0:¬(i:Int)<(s.tables.length:Int):=by omega
  rw[l6_Zq_eq,br_neg c0]
theorem allF_false{ok:Nat->Bool}:∀ {k i j:Nat},i<=j->j<i+k->ok j=false->allF ok i k=false
 |0,i,j,h1,h2,_=>by omega
 |k+1,i,j,h1,h2,h3=>by
  simp only[allF]
  by_cases e:j=i
  ·subst e;rw[h3];rfl
  ·rw[allF_false (k:=k) (i:=i+1) (j:=j) (by omega) (by omega) h3,Bool.and_false]
theorem p_specSchema(nf:Nat)(s:Schema)(h:8*zSchema s+1<nf)(hb:zSchema s<=16777216):m_Zbb nf s=some (nSchema s):=by
 have hz:=zSchema_f s
 have l2:s.tables.length<=szL zTDecl s.tables:=by unfold szL;omega
 rw[m_Zbb_eq,mark_eq]
 have H:=for_rel (fun m i (y:List Str)=>l8_Zbb nf m s i y) s.tables.length (fun i y=>y=(s.tables.take i).map (·.name)∧allF (fun i=>nNm (gt s.tables (i:Int) TDecl.zero).name&&nRow (gt s.tables (i:Int) TDecl.zero).row) 0 i=true) (fun r=>r=nSchema s) (fun m i y hi hI=> ?_) (fun m y hI=> ?_) nf [] (by omega) ⟨by simp,rfl⟩
 ·obtain⟨r,e,hr⟩:=H
  rw[e,hr]
 ·obtain⟨rfl,hI⟩:=hI
  have c0:(i:Int)<(s.tables.length:Int):=by omega
  have c1:0<=(i:Int)∧(i:Int)<(s.tables.length:Int):=by omega
  have hs:=zTD_at s hi
  have e1:=p_specName nf (gt s.tables (i:Int) TDecl.zero).name (by omega) (by omega)
  have e2:=p_specRow nf (gt s.tables (i:Int) TDecl.zero).row (by omega) (by omega)
  have hl:((s.tables.take i).map (·.name)).length=i:=by rw[List.length_map,List.length_take];omega
  by_cases hok:(nNm (gt s.tables (i:Int) TDecl.zero).name&&nRow (gt s.tables (i:Int) TDecl.zero).row)=true
  ·refine .inr ⟨(s.tables.take (i+1)).map (·.name),⟨rfl,?_⟩,?_⟩
   ·have key:∀(f:Nat->Bool) (k j:Nat),allF f j k=true->f (j+k)=true->allF f j (k+1)=true:=by
     intro f k
     induction k with
     |zero=>intro j _ h;simpa[allF]using h
     |succ k ih=>
      intro j h1 h2
      simp only[allF,Bool.and_eq_true]at h1
      have:=ih (j+1) h1.2 (by rw[show j+1+k=j+(k+1) by omega];exact h2)
      simp only[allF]at this⊢
      rw[h1.1,this];rfl
    exact key _ i 0 hI (by simpa using hok)
   ·simp only[Bool.and_eq_true]at hok
    rw[l8_Zbb_eq,br_pos c0,gg_pos c1,e1,cb_some,hok.1,Bool.not_true,br_ff2,gg_pos c1,e2,cb_some,hok.2,Bool.not_true,mark_eq,j20_Zbb_eq,br_false,gg_pos c1,gg_pos (by rw[hl];simp;omega),mark_eq,w64_nat (n:=i) (by omega),<-take_gt s.tables hi TDecl.zero,List.map_append]
    rfl
  ·have hof:(nNm (gt s.tables (i:Int) TDecl.zero).name&&nRow (gt s.tables (i:Int) TDecl.zero).row)=false:=by simpa using hok
   refine .inl ⟨false,?_,?_⟩
   ·rw[l8_Zbb_eq,br_pos c0,gg_pos c1,e1,cb_some,gg_pos c1,e2,cb_some]
    have h20:j20_Zbb nf m (i:Int) s ((s.tables.take i).map (·.name)) true=some false:=by rw[j20_Zbb_eq,br_true]
    rcases Bool.and_eq_false_iff.1 hof with hh|hh
    ·rw[hh,Bool.not_false,br_tf,mark_eq,h20]
    ·rw[hh,Bool.not_false,mark_eq,h20]
     cases nNm (gt s.tables (i:Int) TDecl.zero).name<;>rfl
   ·unfold nSchema
    rw[<-allF_all (fun t=>nNm t.name&&nRow t.row) TDecl.zero,allF_false (j:=i) (by omega) (by omega) hof]
    rfl
 ·obtain⟨rfl,hI⟩:=hI
  have c0:¬(s.tables.length:Int)<(s.tables.length:Int):=by omega
  refine⟨_,?_,rfl⟩
  have hlm:(s.tables.map (·.name)).length=s.tables.length:=List.length_map ..
  rw[l8_Zbb_eq,br_neg c0,mark_eq,j27_Zbb_eq,List.take_length,p_specAsc nf _ (by rw[hlm];omega) (by rw[hlm];omega),cb_some,hlm]
  unfold nSchema
  rw[<-allF_all (fun t=>nNm t.name&&nRow t.row) TDecl.zero,hI]
  have c2:decide ((s.tables.length:Int)<=4)=decide (s.tables.length<=4):=decide_eq_decide.2 (by omega)
  rw[c2]
  cases decide (s.tables.length<=4)<;>cases nAsc (s.tables.map (·.name))<;>rfl
theorem zTg_at(c:List Typing){i:Nat}(h:i<c.length):1+(gt c (i:Int) Typing.zero).name.length+zTy (gt c (i:Int) Typing.zero).type<=szL zTyping c:=by
 have h1:=szL_at zTyping c h Typing.zero
 have h3:zTyping (gt c (i:Int) Typing.zero)=(gt c (i:Int) Typing.zero).name.length+zTy (gt c (i:Int) Typing.zero).type:=rfl
 omega
theorem p_specCtx(nf:Nat)(c:List Typing)(h:8*szL zTyping c+1<nf)(hb:szL zTyping c<=16777216):m_ZaY nf c=some (nCtx c):=by
 have l2:c.length<=szL zTyping c:=by unfold szL;omega
 rw[m_ZaY_eq,mark_eq]
 have:=for_all (fun m i=>l6_ZaY nf m c i) c.length (fun i=>nNm (gt c (i:Int) Typing.zero).name&&nVal (gt c (i:Int) Typing.zero).type) (some (decide ((c.length:Int)<=16))) (some false) 0 (fun m i hp hi=> ?_) (fun m i hi=> ?_) nf (by omega) (by omega)
 ·have e0:((0:Nat):Int)=(0:Int):=rfl
  rw[e0]at this
  rw[this,show c.length-0=c.length by omega,allF_all (fun t=>nNm t.name&&nVal t.type) Typing.zero]
  unfold nCtx
  have c2:decide ((c.length:Int)<=16)=decide (c.length<=16):=decide_eq_decide.2 (by omega)
  rw[c2]
  generalize c.all (fun t=>nNm t.name&&nVal t.type)=A
  cases A<;>cases decide (c.length<=16)<;>rfl
 ·have c0:(i:Int)<(c.length:Int):=by omega
  have c1:0<=(i:Int)∧(i:Int)<(c.length:Int):=by omega
  have hs:=zTg_at c hi
  have e1:=p_specName nf (gt c (i:Int) Typing.zero).name (by omega) (by omega)
  have e2:=p_specValid nf (gt c (i:Int) Typing.zero).type (by omega) (by omega)
  have h17:∀b,j17_ZaY nf m c (i:Int) b=br b (some false) (l6_ZaY nf m c ((i+1:Nat):Int)):=fun b=>by rw[j17_ZaY_eq,mark_eq,w64_nat (n:=i) (by omega)]
  rw[l6_ZaY_eq,br_pos c0,gg_pos c1,e1,cb_some,gg_pos c1,e2,cb_some]
  simp only[h17,mark_eq]
  generalize l6_ZaY nf m c ((i+1:Nat):Int)=X
  cases nNm (gt c (i:Int) Typing.zero).name<;>cases nVal (gt c (i:Int) Typing.zero).type<;>rfl
 ·have c0:¬(i:Int)<(c.length:Int):=by omega
  rw[l6_ZaY_eq,br_neg c0]
theorem p_implCtx(nf:Nat)(c:List Typing)(h:8*szL zTyping c+1<nf)(hb:szL zTyping c<=16777216):m_Zm nf c=some (nCtx c):=by
 have l2:c.length<=szL zTyping c:=by unfold szL;omega
 have hI:m_Zf nf c=some (findI (fun i=> !(nNm (gt c (i:Int) Typing.zero).name&&nVal (gt c (i:Int) Typing.zero).type)) 0 c.length):=by
  rw[m_Zf_eq,mark_eq]
  have:=for_find (fun m i=>l6_Zf nf m c i) c.length (fun i=> !(nNm (gt c (i:Int) Typing.zero).name&&nVal (gt c (i:Int) Typing.zero).type)) 0 (fun m i hp hi=> ?_) (fun m i hi=> ?_) nf (by omega) (by omega)
  ·exact this
  ·have c0:(i:Int)<(c.length:Int):=by omega
   have c1:0<=(i:Int)∧(i:Int)<(c.length:Int):=by omega
   have hs:=zTg_at c hi
   have e1:=p_implName nf (gt c (i:Int) Typing.zero).name (by omega) (by omega)
   have e2:=p_implValid nf (gt c (i:Int) Typing.zero).type (by omega) (by omega)
   rw[l6_Zf_eq,br_pos c0,gg_pos c1,m_ZB_eq,e1,cb_some,Ty.h_eq,e2,cb_some,mark_eq,w64_nat (n:=i) (by omega)]
   cases nNm (gt c (i:Int) Typing.zero).name<;>cases nVal (gt c (i:Int) Typing.zero).type<;>rfl
  ·have c0:¬(i:Int)<(c.length:Int):=by omega
   rw[l6_Zf_eq,br_neg c0]
 have hC:m_Zb nf c=some (!c.all fun t=>nNm t.name&&nVal t.type):=by
  rw[m_Zb_eq,hI,cb_some,findI_all]
  have e:(fun j:Nat=> !(!(nNm (gt c (j:Int) Typing.zero).name&&nVal (gt c (j:Int) Typing.zero).type)))=fun j:Nat=>(fun t:Typing=>nNm t.name&&nVal t.type) (gt c (j:Int) Typing.zero):=by funext j;simp
  rw[e,allF_all (fun t:Typing=>nNm t.name&&nVal t.type) Typing.zero]
 rw[m_Zm_eq,m_ZA_eq,hC,cb_some,cb_some]
 unfold nCtx
 have c2:decide ((c.length:Int)<=16)=decide (c.length<=16):=decide_eq_decide.2 (by omega)
 rw[c2]
 generalize c.all (fun t=>nNm t.name&&nVal t.type)=A
 cases A<;>cases decide (c.length<=16)<;>rfl
end Go.Q
