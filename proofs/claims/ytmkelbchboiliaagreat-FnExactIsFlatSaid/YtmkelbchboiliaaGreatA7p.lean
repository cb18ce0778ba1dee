/- The families' plain laws: to, sz, eq. -/
import Derived.Test.YtmkelbchboiliaaGreatQe
import Derived.Test.YtmkelbchboiliaaGreatA7
set_option linter.unusedVariables false
set_option linter.unusedSimpArgs false
set_option maxHeartbeats 1000000
namespace Go.Q
theorem p_toStringS(nf:Nat)(a:List Str)(h:a.length<nf)(hb:nf<=2147483647):m_ZaH nf a=some a:=by
 rw[m_ZaH_eq,gg_pos (by omega),mark_eq,Int.toNat_natCast,cpy_zero]
 refine for_loop (fun m i s=>l8_ZaH nf m a i s) a.length (fun i=>cpy a i ([]:Str)) (some a) (fun m i hi=> ?_) (fun m=> ?_) nf h
 ·have hl:=cpy_len a i ([]:Str)
  have c0:(i:Int)<(a.length:Int):=by omega
  have c1:0<=(i:Int)∧(i:Int)<(a.length:Int):=by omega
  have c2:0<=(i:Int)∧(i:Int)<((cpy a i ([]:Str)).length:Int):=by omega
  simp only[l8_ZaH_eq,br_pos c0,gg_pos c1,gg_pos c2,mark_eq,w64_nat (n:=i) (by omega),Int.toNat_natCast,cpy_set a _ _ hi]
 ·have c0:¬(a.length:Int)<(a.length:Int):=by omega
  simp only[l8_ZaH_eq,br_neg c0,cpy_all a _ (Nat.le_refl _)]
theorem p_szStringS(nf:Nat)(a:List Str)(left:Int)(hr:Rd (kL kS) a)(h0:0<=left)(h1:left<=1048576)(hn:1048576<nf):∃r,m_Zau nf a left=some r∧ -1<=r∧r<=left∧(0<=r->r+(szL List.length a:Nat)=left):=by
 have hl:=hr.len
 have ew:w64 (left-(a.length:Int))=left-(a.length:Int):=w64_id (by omega) (by omega)
 by_cases hc:left-(a.length:Int)<0
 ·exact⟨-1,by simp only[m_Zau_eq,ew,br_pos hc],by omega,by omega,by omega⟩
 simp only[m_Zau_eq,ew,br_neg hc,mark_eq]
 refine for_rel (fun m i s=>l16_Zau nf m a s i) a.length (fun i s=>0<=s∧s+(pfx List.length a i:Nat)+(a.length:Nat)=left) _ (fun m i s hi hs=> ?_) (fun m s hs=> ?_) nf _ (by omega) ⟨by omega,by simp only[pfx_zero];omega⟩
 ·have c0:(i:Int)<(a.length:Int):=by omega
  have c1:0<=(i:Int)∧(i:Int)<(a.length:Int):=by omega
  have hs1:=(hr.at hi ([]:Str)).slen
  have hp:=pfx_succ List.length a hi ([]:Str)
  have e1:w64 (s-(List.length (gt a (i:Int) ([]:Str)):Int))=s-(List.length (gt a (i:Int) ([]:Str)):Int):=w64_id (by omega) (by omega)
  by_cases hd:s-(List.length (gt a (i:Int) ([]:Str)):Int)<0
  ·exact .inl ⟨-1,by simp only[l16_Zau_eq,br_pos c0,gg_pos c1,e1,br_pos hd],by omega,by omega,by omega⟩
  ·exact .inr ⟨s-(List.length (gt a (i:Int) ([]:Str)):Int),⟨by omega,by omega⟩,by simp only[l16_Zau_eq,br_pos c0,gg_pos c1,e1,br_neg hd,mark_eq,w64_nat (n:=i) (by omega)]⟩
 ·have c0:¬(a.length:Int)<(a.length:Int):=by omega
  have hp:=pfx_all List.length a (Nat.le_refl _)
  have hz:szL List.length a=a.length+(a.map List.length).sum:=rfl
  exact⟨s,by simp only[l16_Zau_eq,br_neg c0],by omega,by omega,by omega⟩
theorem p_eqStringS(nf:Nat)(a:List Str)(h:a.length<nf)(hb:nf<=2147483647):m_Zah nf a a=some true:=by
 simp only[m_Zah_eq,beq_self_eq_true,Bool.not_true,br_false,mark_eq]
 refine for_loop (fun m i (_:Unit)=>l14_Zah nf m a a i) a.length (fun _=>()) (some true) (fun m i hi=> ?_) (fun m=> ?_) nf h
 ·have c0:(i:Int)<(a.length:Int):=by omega
  have c1:0<=(i:Int)∧(i:Int)<(a.length:Int):=by omega
  simp only[l14_Zah_eq,br_pos c0,gg_pos c1,beq_self_eq_true,Bool.not_true,br_false,mark_eq,w64_nat (n:=i) (by omega)]
 ·have c0:¬(a.length:Int)<(a.length:Int):=by omega
  simp only[l14_Zah_eq,br_neg c0]
theorem g_to_Type(nf:Nat)(hn:nf<=2147483647):∀kf:Nat,(∀x:List Ty,8*(szL zTy x)+0<kf->8*(szL zTy x)+0<nf->m_ZaN nf kf x=some x)∧(∀x:Ty,8*(zTy x)+1<kf->8*(zTy x)+1<nf->m_ZaM nf kf x=some x)
 |0=>⟨fun x h=>absurd h (Nat.not_lt_zero _),fun x h=>absurd h (Nat.not_lt_zero _)⟩
 |kf+1=>by
  obtain⟨ih0,ih1⟩:=g_to_Type nf hn kf
  refine⟨?_,?_⟩
  ·intro x h h'
   have hal:x.length<=szL zTy x:=by unfold szL;omega
   rw[m_ZaN_eq,gg_pos (by omega),mark_eq,Int.toNat_natCast,cpy_zero]
   refine for_loop (fun m i s=>l8_ZaN nf (kf+1) m x i s) x.length (fun i=>cpy x i Ty.zero) (some x) (fun m i hi=> ?_) (fun m=> ?_) nf (by omega)
   ·have hl:=cpy_len x i Ty.zero
    have hz:=szL_at zTy x hi Ty.zero
    have c0:(i:Int)<(x.length:Int):=by omega
    have c1:0<=(i:Int)∧(i:Int)<(x.length:Int):=by omega
    have c2:0<=(i:Int)∧(i:Int)<((cpy x i Ty.zero).length:Int):=by omega
    have he:=ih1 (gt x (i:Int) Ty.zero) (by omega) (by omega)
    simp only[l8_ZaN_eq,br_pos c0,gg_pos c1,gg_pos c2,he,cb_some,Comp.h_eq,FComp.h_eq,Head.h_eq,Plan.h_eq,Query.h_eq,TDecl.h_eq,Tm.h_eq,Ty.h_eq,Typing.h_eq,Val.h_eq,mark_eq,w64_nat (n:=i) (by omega),Int.toNat_natCast,cpy_set x _ _ hi]
   ·have c0:¬(x.length:Int)<(x.length:Int):=by omega
    simp only[l8_ZaN_eq,br_neg c0,cpy_all x _ (Nat.le_refl _)]
  ·intro x h h'
   have hz:=zTy_f x
   have l1:x.labels.length<=szL List.length x.labels:=by unfold szL;omega
   have e1:=p_toStringS nf x.labels (by omega) (by omega)
   have e2:=ih0 x.args (by omega) (by omega)
   simp only[m_ZaM_eq,e1,e2,cb_some,Comp.h_eq,FComp.h_eq,Head.h_eq,Plan.h_eq,Query.h_eq,TDecl.h_eq,Tm.h_eq,Ty.h_eq,Typing.h_eq,Val.h_eq,Ty.eta]
theorem p_toType(nf:Nat)(x:Ty)(h:8*(zTy x)+1<nf)(hn:nf<=2147483647):m_ZaM nf nf x=some x:=(g_to_Type nf hn nf).2 x h h
theorem g_sz_Type(nf:Nat)(hn:8388700<nf):∀kf:Nat,(∀(x:List Ty) (left:Int),Rd (kL (kR 0)) x->0<=left->left<=1048576->8*left+1<(kf:Int)->∃r,m_ZaA nf kf x left=some r∧ -1<=r∧r<=left∧(0<=r->r+(szL zTy x:Nat)=left))∧(∀(x:Ty) (left:Int),Rd (kR 0) x->0<=left->left<=1048576->8*left+2<(kf:Int)->∃r,m_Zaz nf kf x left=some r∧ -1<=r∧r<=left∧(0<=r->r+(zTy x:Nat)=left))
 |0=>⟨fun x left _ h0 _ h=>absurd h (by omega),fun x left _ h0 _ h=>absurd h (by omega)⟩
 |kf+1=>by
  obtain⟨ih0,ih1⟩:=g_sz_Type nf hn kf
  refine⟨?_,?_⟩
  ·intro x left hr h0 h1 h
   have hl:=hr.len
   have ew:w64 (left-(x.length:Int))=left-(x.length:Int):=w64_id (by omega) (by omega)
   by_cases hc:left-(x.length:Int)<0
   ·exact⟨-1,by simp only[m_ZaA_eq,ew,br_pos hc],by omega,by omega,by omega⟩
   simp only[m_ZaA_eq,ew,br_neg hc,mark_eq]
   refine for_rel (fun m i s=>l16_ZaA nf (kf+1) m x s i) x.length (fun i s=>0<=s∧s+(pfx zTy x i:Nat)+(x.length:Nat)=left) _ (fun m i s hi hs=> ?_) (fun m s hs=> ?_) nf _ (by omega) ⟨by omega,by simp only[pfx_zero];omega⟩
   ·have c0:(i:Int)<(x.length:Int):=by omega
    have c1:0<=(i:Int)∧(i:Int)<(x.length:Int):=by omega
    have hp:=pfx_succ zTy x hi Ty.zero
    obtain⟨r,he,q1,q2,q3⟩:=ih1 (gt x (i:Int) Ty.zero) s (hr.at hi Ty.zero) (by omega) (by omega) (by omega)
    by_cases hd:r<0
    ·exact .inl ⟨-1,by simp only[l16_ZaA_eq,br_pos c0,gg_pos c1,he,cb_some,Comp.h_eq,FComp.h_eq,Head.h_eq,Plan.h_eq,Query.h_eq,TDecl.h_eq,Tm.h_eq,Ty.h_eq,Typing.h_eq,Val.h_eq,br_pos hd],by omega,by omega,by omega⟩
    ·exact .inr ⟨r,⟨by omega,by omega⟩,by simp only[l16_ZaA_eq,br_pos c0,gg_pos c1,he,cb_some,Comp.h_eq,FComp.h_eq,Head.h_eq,Plan.h_eq,Query.h_eq,TDecl.h_eq,Tm.h_eq,Ty.h_eq,Typing.h_eq,Val.h_eq,br_neg hd,mark_eq,w64_nat (n:=i) (by omega)]⟩
   ·have c0:¬(x.length:Int)<(x.length:Int):=by omega
    have hp:=pfx_all zTy x (Nat.le_refl _)
    have hz:szL zTy x=x.length+(x.map zTy).sum:=rfl
    exact⟨s,by simp only[l16_ZaA_eq,br_neg c0],by omega,by omega,by omega⟩
  ·intro x left hr h0 h1 h
   have hz:=zTy_f x
   obtain⟨q0,q1,q2,_⟩:Rd kI x.kind∧Rd (kL kS) x.labels∧Rd (kL (kR 0)) x.args∧True:=hr.st
   obtain⟨r1,w1,u1,v1,z1⟩:=p_szStringS nf x.labels left q1 (by omega) (by omega) (by omega)
   by_cases c1:r1<0
   ·exact⟨-1,by simp only[m_Zaz_eq,w1,cb_some,Comp.h_eq,FComp.h_eq,Head.h_eq,Plan.h_eq,Query.h_eq,TDecl.h_eq,Tm.h_eq,Ty.h_eq,Typing.h_eq,Val.h_eq,br_pos c1],by omega,by omega,by omega⟩
   obtain⟨r2,w2,u2,v2,z2⟩:=ih0 x.args r1 q2 (by omega) (by omega) (by omega)
   by_cases c2:r2<0
   ·exact⟨-1,by simp only[m_Zaz_eq,w1,cb_some,br_neg c1,w2,cb_some,Comp.h_eq,FComp.h_eq,Head.h_eq,Plan.h_eq,Query.h_eq,TDecl.h_eq,Tm.h_eq,Ty.h_eq,Typing.h_eq,Val.h_eq,br_pos c2],by omega,by omega,by omega⟩
   exact⟨r2,by simp only[m_Zaz_eq,w1,cb_some,br_neg c1,w2,cb_some,br_neg c2,Comp.h_eq,FComp.h_eq,Head.h_eq,Plan.h_eq,Query.h_eq,TDecl.h_eq,Tm.h_eq,Ty.h_eq,Typing.h_eq,Val.h_eq],by omega,by omega,by omega⟩
theorem p_szType(nf:Nat)(x:Ty)(left:Int)(hr:Rd (kR 0) x)(h0:0<=left)(h1:left<=1048576)(hn:8388700<nf):∃r,m_Zaz nf nf x left=some r∧ -1<=r∧r<=left∧(0<=r->r+(zTy x:Nat)=left):=(g_sz_Type nf hn nf).2 x left hr h0 h1 (by omega)
theorem g_eq_Type(nf:Nat)(hn:nf<=2147483647):∀kf:Nat,(∀x:List Ty,8*(szL zTy x)+0<kf->8*(szL zTy x)+0<nf->m_Zan nf kf x x=some true)∧(∀x:Ty,8*(zTy x)+1<kf->8*(zTy x)+1<nf->m_Zam nf kf x x=some true)
 |0=>⟨fun x h=>absurd h (Nat.not_lt_zero _),fun x h=>absurd h (Nat.not_lt_zero _)⟩
 |kf+1=>by
  obtain⟨ih0,ih1⟩:=g_eq_Type nf hn kf
  refine⟨?_,?_⟩
  ·intro x h h'
   have hal:x.length<=szL zTy x:=by unfold szL;omega
   simp only[m_Zan_eq,beq_self_eq_true,Bool.not_true,br_false,mark_eq]
   refine for_loop (fun m i (_:Unit)=>l14_Zan nf (kf+1) m x x i) x.length (fun _=>()) (some true) (fun m i hi=> ?_) (fun m=> ?_) nf (by omega)
   ·have hz:=szL_at zTy x hi Ty.zero
    have c0:(i:Int)<(x.length:Int):=by omega
    have c1:0<=(i:Int)∧(i:Int)<(x.length:Int):=by omega
    have he:=ih1 (gt x (i:Int) Ty.zero) (by omega) (by omega)
    simp only[l14_Zan_eq,br_pos c0,gg_pos c1,he,cb_some,Comp.h_eq,FComp.h_eq,Head.h_eq,Plan.h_eq,Query.h_eq,TDecl.h_eq,Tm.h_eq,Ty.h_eq,Typing.h_eq,Val.h_eq,Bool.not_true,br_false,mark_eq,w64_nat (n:=i) (by omega)]
   ·have c0:¬(x.length:Int)<(x.length:Int):=by omega
    simp only[l14_Zan_eq,br_neg c0]
  ·intro x h h'
   have hz:=zTy_f x
   have l1:x.labels.length<=szL List.length x.labels:=by unfold szL;omega
   have e1:=p_eqStringS nf x.labels (by omega) (by omega)
   have e2:=ih0 x.args (by omega) (by omega)
   simp only[m_Zam_eq,e1,e2,cb_some,Comp.h_eq,FComp.h_eq,Head.h_eq,Plan.h_eq,Query.h_eq,TDecl.h_eq,Tm.h_eq,Ty.h_eq,Typing.h_eq,Val.h_eq,beq_self_eq_true,Bool.not_true,br_false]
theorem p_eqType(nf:Nat)(x:Ty)(h:8*(zTy x)+1<nf)(hn:nf<=2147483647):m_Zam nf nf x x=some true:=(g_eq_Type nf hn nf).2 x h h
theorem p_toTableDecl(nf:Nat)(x:TDecl)(h:8*(zTDecl x)+1<nf)(hn:nf<=2147483647):m_ZaI nf x=some x:=by
 have hz:=zTDecl_f x
 have e1:=p_toType nf x.row (by omega) (by omega)
 simp only[m_ZaI_eq,e1,cb_some,Comp.h_eq,FComp.h_eq,Head.h_eq,Plan.h_eq,Query.h_eq,TDecl.h_eq,Tm.h_eq,Ty.h_eq,Typing.h_eq,Val.h_eq]
theorem p_toTableDeclS(nf:Nat)(x:List TDecl)(h:8*(szL zTDecl x)+0<nf)(hn:nf<=2147483647):m_ZaJ nf x=some x:=by
 have hal:x.length<=szL zTDecl x:=by unfold szL;omega
 rw[m_ZaJ_eq,gg_pos (by omega),mark_eq,Int.toNat_natCast,cpy_zero]
 refine for_loop (fun m i s=>l8_ZaJ nf m x i s) x.length (fun i=>cpy x i TDecl.zero) (some x) (fun m i hi=> ?_) (fun m=> ?_) nf (by omega)
 ·have hl:=cpy_len x i TDecl.zero
  have hz:=szL_at zTDecl x hi TDecl.zero
  have c0:(i:Int)<(x.length:Int):=by omega
  have c1:0<=(i:Int)∧(i:Int)<(x.length:Int):=by omega
  have c2:0<=(i:Int)∧(i:Int)<((cpy x i TDecl.zero).length:Int):=by omega
  have he:=p_toTableDecl nf (gt x (i:Int) TDecl.zero) (by omega) (by omega)
  simp only[l8_ZaJ_eq,br_pos c0,gg_pos c1,gg_pos c2,he,cb_some,Comp.h_eq,FComp.h_eq,Head.h_eq,Plan.h_eq,Query.h_eq,TDecl.h_eq,Tm.h_eq,Ty.h_eq,Typing.h_eq,Val.h_eq,mark_eq,w64_nat (n:=i) (by omega),Int.toNat_natCast,cpy_set x _ _ hi]
 ·have c0:¬(x.length:Int)<(x.length:Int):=by omega
  simp only[l8_ZaJ_eq,br_neg c0,cpy_all x _ (Nat.le_refl _)]
theorem p_szTableDecl(nf:Nat)(x:TDecl)(left:Int)(hr:Rd (kR 4) x)(h0:0<=left)(h1:left<=1048576)(hn:8388700<nf):∃r,m_Zav nf x left=some r∧ -1<=r∧r<=left∧(0<=r->r+(zTDecl x:Nat)=left):=by
 have hz:=zTDecl_f x
 obtain⟨q0,q1,_⟩:Rd kS x.name∧Rd (kR 0) x.row∧True:=hr.st
 have s0:=q0.slen
 have w0:w64 (left-(x.name.length:Int))=(left-(x.name.length:Int)):=w64_id (by omega) (by omega)
 by_cases c0:(left-(x.name.length:Int))<0
 ·exact⟨-1,by simp only[m_Zav_eq,w0,Comp.h_eq,FComp.h_eq,Head.h_eq,Plan.h_eq,Query.h_eq,TDecl.h_eq,Tm.h_eq,Ty.h_eq,Typing.h_eq,Val.h_eq,br_pos c0],by omega,by omega,by omega⟩
 obtain⟨r1,w1,u1,v1,z1⟩:=p_szType nf x.row (left-(x.name.length:Int)) q1 (by omega) (by omega) (by omega)
 by_cases c1:r1<0
 ·exact⟨-1,by simp only[m_Zav_eq,w0,br_neg c0,w1,cb_some,Comp.h_eq,FComp.h_eq,Head.h_eq,Plan.h_eq,Query.h_eq,TDecl.h_eq,Tm.h_eq,Ty.h_eq,Typing.h_eq,Val.h_eq,br_pos c1],by omega,by omega,by omega⟩
 exact⟨r1,by simp only[m_Zav_eq,w0,br_neg c0,w1,cb_some,br_neg c1,Comp.h_eq,FComp.h_eq,Head.h_eq,Plan.h_eq,Query.h_eq,TDecl.h_eq,Tm.h_eq,Ty.h_eq,Typing.h_eq,Val.h_eq],by omega,by omega,by omega⟩
theorem p_szTableDeclS(nf:Nat)(x:List TDecl)(left:Int)(hr:Rd (kL (kR 4)) x)(h0:0<=left)(h1:left<=1048576)(hn:8388700<nf):∃r,m_Zaw nf x left=some r∧ -1<=r∧r<=left∧(0<=r->r+(szL zTDecl x:Nat)=left):=by
 have hl:=hr.len
 have ew:w64 (left-(x.length:Int))=left-(x.length:Int):=w64_id (by omega) (by omega)
 by_cases hc:left-(x.length:Int)<0
 ·exact⟨-1,by simp only[m_Zaw_eq,ew,br_pos hc],by omega,by omega,by omega⟩
 simp only[m_Zaw_eq,ew,br_neg hc,mark_eq]
 refine for_rel (fun m i s=>l16_Zaw nf m x s i) x.length (fun i s=>0<=s∧s+(pfx zTDecl x i:Nat)+(x.length:Nat)=left) _ (fun m i s hi hs=> ?_) (fun m s hs=> ?_) nf _ (by omega) ⟨by omega,by simp only[pfx_zero];omega⟩
 ·have c0:(i:Int)<(x.length:Int):=by omega
  have c1:0<=(i:Int)∧(i:Int)<(x.length:Int):=by omega
  have hp:=pfx_succ zTDecl x hi TDecl.zero
  obtain⟨r,he,q1,q2,q3⟩:=p_szTableDecl nf (gt x (i:Int) TDecl.zero) s (hr.at hi TDecl.zero) (by omega) (by omega) (by omega)
  by_cases hd:r<0
  ·exact .inl ⟨-1,by simp only[l16_Zaw_eq,br_pos c0,gg_pos c1,he,cb_some,Comp.h_eq,FComp.h_eq,Head.h_eq,Plan.h_eq,Query.h_eq,TDecl.h_eq,Tm.h_eq,Ty.h_eq,Typing.h_eq,Val.h_eq,br_pos hd],by omega,by omega,by omega⟩
  ·exact .inr ⟨r,⟨by omega,by omega⟩,by simp only[l16_Zaw_eq,br_pos c0,gg_pos c1,he,cb_some,Comp.h_eq,FComp.h_eq,Head.h_eq,Plan.h_eq,Query.h_eq,TDecl.h_eq,Tm.h_eq,Ty.h_eq,Typing.h_eq,Val.h_eq,br_neg hd,mark_eq,w64_nat (n:=i) (by omega)]⟩
 ·have c0:¬(x.length:Int)<(x.length:Int):=by omega
  have hp:=pfx_all zTDecl x (Nat.le_refl _)
  have hz:szL zTDecl x=x.length+(x.map zTDecl).sum:=rfl
  exact⟨s,by simp only[l16_Zaw_eq,br_neg c0],by omega,by omega,by omega⟩
theorem p_eqTableDecl(nf:Nat)(x:TDecl)(h:8*(zTDecl x)+1<nf)(hn:nf<=2147483647):m_Zai nf x x=some true:=by
 have hz:=zTDecl_f x
 have e1:=p_eqType nf x.row (by omega) (by omega)
 simp only[m_Zai_eq,e1,cb_some,Comp.h_eq,FComp.h_eq,Head.h_eq,Plan.h_eq,Query.h_eq,TDecl.h_eq,Tm.h_eq,Ty.h_eq,Typing.h_eq,Val.h_eq,beq_self_eq_true,Bool.not_true,br_false]
theorem p_eqTableDeclS(nf:Nat)(x:List TDecl)(h:8*(szL zTDecl x)+0<nf)(hn:nf<=2147483647):m_Zaj nf x x=some true:=by
 have hal:x.length<=szL zTDecl x:=by unfold szL;omega
 simp only[m_Zaj_eq,beq_self_eq_true,Bool.not_true,br_false,mark_eq]
 refine for_loop (fun m i (_:Unit)=>l14_Zaj nf m x x i) x.length (fun _=>()) (some true) (fun m i hi=> ?_) (fun m=> ?_) nf (by omega)
 ·have hz:=szL_at zTDecl x hi TDecl.zero
  have c0:(i:Int)<(x.length:Int):=by omega
  have c1:0<=(i:Int)∧(i:Int)<(x.length:Int):=by omega
  have he:=p_eqTableDecl nf (gt x (i:Int) TDecl.zero) (by omega) (by omega)
  simp only[l14_Zaj_eq,br_pos c0,gg_pos c1,he,cb_some,Comp.h_eq,FComp.h_eq,Head.h_eq,Plan.h_eq,Query.h_eq,TDecl.h_eq,Tm.h_eq,Ty.h_eq,Typing.h_eq,Val.h_eq,Bool.not_true,br_false,mark_eq,w64_nat (n:=i) (by omega)]
 ·have c0:¬(x.length:Int)<(x.length:Int):=by omega
  simp only[l14_Zaj_eq,br_neg c0]
theorem p_toSchema(nf:Nat)(x:Schema)(h:8*(zSchema x)+1<nf)(hn:nf<=2147483647):m_ZaG nf x=some x:=by
 have hz:=zSchema_f x
 have e0:=p_toTableDeclS nf x.tables (by omega) (by omega)
 simp only[m_ZaG_eq,e0,cb_some,Comp.h_eq,FComp.h_eq,Head.h_eq,Plan.h_eq,Query.h_eq,TDecl.h_eq,Tm.h_eq,Ty.h_eq,Typing.h_eq,Val.h_eq]
theorem p_szSchema(nf:Nat)(x:Schema)(left:Int)(hr:Rd (kR 5) x)(h0:0<=left)(h1:left<=1048576)(hn:8388700<nf):∃r,m_Zat nf x left=some r∧ -1<=r∧r<=left∧(0<=r->r+(zSchema x:Nat)=left):=by
 have hz:=zSchema_f x
 obtain⟨q0,_⟩:Rd (kL (kR 4)) x.tables∧True:=hr.st
 obtain⟨r0,w0,u0,v0,z0⟩:=p_szTableDeclS nf x.tables left q0 (by omega) (by omega) (by omega)
 by_cases c0:r0<0
 ·exact⟨-1,by simp only[m_Zat_eq,w0,cb_some,Comp.h_eq,FComp.h_eq,Head.h_eq,Plan.h_eq,Query.h_eq,TDecl.h_eq,Tm.h_eq,Ty.h_eq,Typing.h_eq,Val.h_eq,br_pos c0],by omega,by omega,by omega⟩
 exact⟨r0,by simp only[m_Zat_eq,w0,cb_some,br_neg c0,Comp.h_eq,FComp.h_eq,Head.h_eq,Plan.h_eq,Query.h_eq,TDecl.h_eq,Tm.h_eq,Ty.h_eq,Typing.h_eq,Val.h_eq],by omega,by omega,by omega⟩
theorem p_eqSchema(nf:Nat)(x:Schema)(h:8*(zSchema x)+1<nf)(hn:nf<=2147483647):m_Zag nf x x=some true:=by
 have hz:=zSchema_f x
 have e0:=p_eqTableDeclS nf x.tables (by omega) (by omega)
 simp only[m_Zag_eq,e0,cb_some,Comp.h_eq,FComp.h_eq,Head.h_eq,Plan.h_eq,Query.h_eq,TDecl.h_eq,Tm.h_eq,Ty.h_eq,Typing.h_eq,Val.h_eq,beq_self_eq_true,Bool.not_true,br_false]
theorem g_to_Term(nf:Nat)(hn:nf<=2147483647):∀kf:Nat,(∀x:List Tm,8*(szL zTm x)+0<kf->8*(szL zTm x)+0<nf->m_ZaL nf kf x=some x)∧(∀x:Tm,8*(zTm x)+1<kf->8*(zTm x)+1<nf->m_ZaK nf kf x=some x)
 |0=>⟨fun x h=>absurd h (Nat.not_lt_zero _),fun x h=>absurd h (Nat.not_lt_zero _)⟩
 |kf+1=>by
  obtain⟨ih0,ih1⟩:=g_to_Term nf hn kf
  refine⟨?_,?_⟩
  ·intro x h h'
   have hal:x.length<=szL zTm x:=by unfold szL;omega
   rw[m_ZaL_eq,gg_pos (by omega),mark_eq,Int.toNat_natCast,cpy_zero]
   refine for_loop (fun m i s=>l8_ZaL nf (kf+1) m x i s) x.length (fun i=>cpy x i Tm.zero) (some x) (fun m i hi=> ?_) (fun m=> ?_) nf (by omega)
   ·have hl:=cpy_len x i Tm.zero
    have hz:=szL_at zTm x hi Tm.zero
    have c0:(i:Int)<(x.length:Int):=by omega
    have c1:0<=(i:Int)∧(i:Int)<(x.length:Int):=by omega
    have c2:0<=(i:Int)∧(i:Int)<((cpy x i Tm.zero).length:Int):=by omega
    have he:=ih1 (gt x (i:Int) Tm.zero) (by omega) (by omega)
    simp only[l8_ZaL_eq,br_pos c0,gg_pos c1,gg_pos c2,he,cb_some,Comp.h_eq,FComp.h_eq,Head.h_eq,Plan.h_eq,Query.h_eq,TDecl.h_eq,Tm.h_eq,Ty.h_eq,Typing.h_eq,Val.h_eq,mark_eq,w64_nat (n:=i) (by omega),Int.toNat_natCast,cpy_set x _ _ hi]
   ·have c0:¬(x.length:Int)<(x.length:Int):=by omega
    simp only[l8_ZaL_eq,br_neg c0,cpy_all x _ (Nat.le_refl _)]
  ·intro x h h'
   have hz:=zTm_f x
   have e3:=p_toType nf x.type (by omega) (by omega)
   have l4:x.labels.length<=szL List.length x.labels:=by unfold szL;omega
   have e4:=p_toStringS nf x.labels (by omega) (by omega)
   have e5:=ih0 x.args (by omega) (by omega)
   simp only[m_ZaK_eq,e3,e4,e5,cb_some,Comp.h_eq,FComp.h_eq,Head.h_eq,Plan.h_eq,Query.h_eq,TDecl.h_eq,Tm.h_eq,Ty.h_eq,Typing.h_eq,Val.h_eq,Tm.eta]
theorem p_toTermS(nf:Nat)(x:List Tm)(h:8*(szL zTm x)+0<nf)(hn:nf<=2147483647):m_ZaL nf nf x=some x:=(g_to_Term nf hn nf).1 x h h
theorem p_toTerm(nf:Nat)(x:Tm)(h:8*(zTm x)+1<nf)(hn:nf<=2147483647):m_ZaK nf nf x=some x:=(g_to_Term nf hn nf).2 x h h
theorem g_sz_Term(nf:Nat)(hn:8388700<nf):∀kf:Nat,(∀(x:List Tm) (left:Int),Rd (kL (kR 2)) x->0<=left->left<=1048576->8*left+1<(kf:Int)->∃r,m_Zay nf kf x left=some r∧ -1<=r∧r<=left∧(0<=r->r+(szL zTm x:Nat)=left))∧(∀(x:Tm) (left:Int),Rd (kR 2) x->0<=left->left<=1048576->8*left+2<(kf:Int)->∃r,m_Zax nf kf x left=some r∧ -1<=r∧r<=left∧(0<=r->r+(zTm x:Nat)=left))
 |0=>⟨fun x left _ h0 _ h=>absurd h (by omega),fun x left _ h0 _ h=>absurd h (by omega)⟩
 |kf+1=>by
  obtain⟨ih0,ih1⟩:=g_sz_Term nf hn kf
  refine⟨?_,?_⟩
  ·intro x left hr h0 h1 h
   have hl:=hr.len
   have ew:w64 (left-(x.length:Int))=left-(x.length:Int):=w64_id (by omega) (by omega)
   by_cases hc:left-(x.length:Int)<0
   ·exact⟨-1,by simp only[m_Zay_eq,ew,br_pos hc],by omega,by omega,by omega⟩
   simp only[m_Zay_eq,ew,br_neg hc,mark_eq]
   refine for_rel (fun m i s=>l16_Zay nf (kf+1) m x s i) x.length (fun i s=>0<=s∧s+(pfx zTm x i:Nat)+(x.length:Nat)=left) _ (fun m i s hi hs=> ?_) (fun m s hs=> ?_) nf _ (by omega) ⟨by omega,by simp only[pfx_zero];omega⟩
   ·have c0:(i:Int)<(x.length:Int):=by omega
    have c1:0<=(i:Int)∧(i:Int)<(x.length:Int):=by omega
    have hp:=pfx_succ zTm x hi Tm.zero
    obtain⟨r,he,q1,q2,q3⟩:=ih1 (gt x (i:Int) Tm.zero) s (hr.at hi Tm.zero) (by omega) (by omega) (by omega)
    by_cases hd:r<0
    ·exact .inl ⟨-1,by simp only[l16_Zay_eq,br_pos c0,gg_pos c1,he,cb_some,Comp.h_eq,FComp.h_eq,Head.h_eq,Plan.h_eq,Query.h_eq,TDecl.h_eq,Tm.h_eq,Ty.h_eq,Typing.h_eq,Val.h_eq,br_pos hd],by omega,by omega,by omega⟩
    ·exact .inr ⟨r,⟨by omega,by omega⟩,by simp only[l16_Zay_eq,br_pos c0,gg_pos c1,he,cb_some,Comp.h_eq,FComp.h_eq,Head.h_eq,Plan.h_eq,Query.h_eq,TDecl.h_eq,Tm.h_eq,Ty.h_eq,Typing.h_eq,Val.h_eq,br_neg hd,mark_eq,w64_nat (n:=i) (by omega)]⟩
   ·have c0:¬(x.length:Int)<(x.length:Int):=by omega
    have hp:=pfx_all zTm x (Nat.le_refl _)
    have hz:szL zTm x=x.length+(x.map zTm).sum:=rfl
    exact⟨s,by simp only[l16_Zay_eq,br_neg c0],by omega,by omega,by omega⟩
  ·intro x left hr h0 h1 h
   have hz:=zTm_f x
   obtain⟨q0,q1,q2,q3,q4,q5,_⟩:Rd kI x.kind∧Rd kS x.name∧Rd kI x.n∧Rd (kR 0) x.type∧Rd (kL kS) x.labels∧Rd (kL (kR 2)) x.args∧True:=hr.st
   have s1:=q1.slen
   have w1:w64 (left-(x.name.length:Int))=(left-(x.name.length:Int)):=w64_id (by omega) (by omega)
   by_cases c1:(left-(x.name.length:Int))<0
   ·exact⟨-1,by simp only[m_Zax_eq,w1,Comp.h_eq,FComp.h_eq,Head.h_eq,Plan.h_eq,Query.h_eq,TDecl.h_eq,Tm.h_eq,Ty.h_eq,Typing.h_eq,Val.h_eq,br_pos c1],by omega,by omega,by omega⟩
   obtain⟨r3,w3,u3,v3,z3⟩:=p_szType nf x.type (left-(x.name.length:Int)) q3 (by omega) (by omega) (by omega)
   by_cases c3:r3<0
   ·exact⟨-1,by simp only[m_Zax_eq,w1,br_neg c1,w3,cb_some,Comp.h_eq,FComp.h_eq,Head.h_eq,Plan.h_eq,Query.h_eq,TDecl.h_eq,Tm.h_eq,Ty.h_eq,Typing.h_eq,Val.h_eq,br_pos c3],by omega,by omega,by omega⟩
   obtain⟨r4,w4,u4,v4,z4⟩:=p_szStringS nf x.labels r3 q4 (by omega) (by omega) (by omega)
   by_cases c4:r4<0
   ·exact⟨-1,by simp only[m_Zax_eq,w1,br_neg c1,w3,cb_some,br_neg c3,w4,cb_some,Comp.h_eq,FComp.h_eq,Head.h_eq,Plan.h_eq,Query.h_eq,TDecl.h_eq,Tm.h_eq,Ty.h_eq,Typing.h_eq,Val.h_eq,br_pos c4],by omega,by omega,by omega⟩
   obtain⟨r5,w5,u5,v5,z5⟩:=ih0 x.args r4 q5 (by omega) (by omega) (by omega)
   by_cases c5:r5<0
   ·exact⟨-1,by simp only[m_Zax_eq,w1,br_neg c1,w3,cb_some,br_neg c3,w4,cb_some,br_neg c4,w5,cb_some,Comp.h_eq,FComp.h_eq,Head.h_eq,Plan.h_eq,Query.h_eq,TDecl.h_eq,Tm.h_eq,Ty.h_eq,Typing.h_eq,Val.h_eq,br_pos c5],by omega,by omega,by omega⟩
   exact⟨r5,by simp only[m_Zax_eq,w1,br_neg c1,w3,cb_some,br_neg c3,w4,cb_some,br_neg c4,w5,cb_some,br_neg c5,Comp.h_eq,FComp.h_eq,Head.h_eq,Plan.h_eq,Query.h_eq,TDecl.h_eq,Tm.h_eq,Ty.h_eq,Typing.h_eq,Val.h_eq],by omega,by omega,by omega⟩
theorem p_szTermS(nf:Nat)(x:List Tm)(left:Int)(hr:Rd (kL (kR 2)) x)(h0:0<=left)(h1:left<=1048576)(hn:8388700<nf):∃r,m_Zay nf nf x left=some r∧ -1<=r∧r<=left∧(0<=r->r+(szL zTm x:Nat)=left):=(g_sz_Term nf hn nf).1 x left hr h0 h1 (by omega)
theorem p_szTerm(nf:Nat)(x:Tm)(left:Int)(hr:Rd (kR 2) x)(h0:0<=left)(h1:left<=1048576)(hn:8388700<nf):∃r,m_Zax nf nf x left=some r∧ -1<=r∧r<=left∧(0<=r->r+(zTm x:Nat)=left):=(g_sz_Term nf hn nf).2 x left hr h0 h1 (by omega)
theorem g_eq_Term(nf:Nat)(hn:nf<=2147483647):∀kf:Nat,(∀x:List Tm,8*(szL zTm x)+0<kf->8*(szL zTm x)+0<nf->m_Zal nf kf x x=some true)∧(∀x:Tm,8*(zTm x)+1<kf->8*(zTm x)+1<nf->m_Zak nf kf x x=some true)
 |0=>⟨fun x h=>absurd h (Nat.not_lt_zero _),fun x h=>absurd h (Nat.not_lt_zero _)⟩
 |kf+1=>by
  obtain⟨ih0,ih1⟩:=g_eq_Term nf hn kf
  refine⟨?_,?_⟩
  ·intro x h h'
   have hal:x.length<=szL zTm x:=by unfold szL;omega
   simp only[m_Zal_eq,beq_self_eq_true,Bool.not_true,br_false,mark_eq]
   refine for_loop (fun m i (_:Unit)=>l14_Zal nf (kf+1) m x x i) x.length (fun _=>()) (some true) (fun m i hi=> ?_) (fun m=> ?_) nf (by omega)
   ·have hz:=szL_at zTm x hi Tm.zero
    have c0:(i:Int)<(x.length:Int):=by omega
    have c1:0<=(i:Int)∧(i:Int)<(x.length:Int):=by omega
    have he:=ih1 (gt x (i:Int) Tm.zero) (by omega) (by omega)
    simp only[l14_Zal_eq,br_pos c0,gg_pos c1,he,cb_some,Comp.h_eq,FComp.h_eq,Head.h_eq,Plan.h_eq,Query.h_eq,TDecl.h_eq,Tm.h_eq,Ty.h_eq,Typing.h_eq,Val.h_eq,Bool.not_true,br_false,mark_eq,w64_nat (n:=i) (by omega)]
   ·have c0:¬(x.length:Int)<(x.length:Int):=by omega
    simp only[l14_Zal_eq,br_neg c0]
  ·intro x h h'
   have hz:=zTm_f x
   have e3:=p_eqType nf x.type (by omega) (by omega)
   have l4:x.labels.length<=szL List.length x.labels:=by unfold szL;omega
   have e4:=p_eqStringS nf x.labels (by omega) (by omega)
   have e5:=ih0 x.args (by omega) (by omega)
   simp only[m_Zak_eq,e3,e4,e5,cb_some,Comp.h_eq,FComp.h_eq,Head.h_eq,Plan.h_eq,Query.h_eq,TDecl.h_eq,Tm.h_eq,Ty.h_eq,Typing.h_eq,Val.h_eq,beq_self_eq_true,Bool.not_true,br_false]
theorem p_eqTermS(nf:Nat)(x:List Tm)(h:8*(szL zTm x)+0<nf)(hn:nf<=2147483647):m_Zal nf nf x x=some true:=(g_eq_Term nf hn nf).1 x h h
theorem p_eqTerm(nf:Nat)(x:Tm)(h:8*(zTm x)+1<nf)(hn:nf<=2147483647):m_Zak nf nf x x=some true:=(g_eq_Term nf hn nf).2 x h h
end Go.Q
