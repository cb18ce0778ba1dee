/- The families of queries: plain laws of to, sz, eq. -/
import Derived.Test.YtmkelbchboiliaaGreatA7p
set_option linter.unusedVariables false
set_option linter.unusedSimpArgs false
set_option maxHeartbeats 1000000
namespace Go.Q
theorem p_toGen(nf:Nat)(x:Gen)(h:8*(zGen x)+1<nf)(hn:nf<=2147483647):m_ZaF nf x=some x:=by
 have hz:=zGen_f x
 simp only[m_ZaF_eq,cb_some,Comp.h_eq,FComp.h_eq,Head.h_eq,Plan.h_eq,Query.h_eq,TDecl.h_eq,Tm.h_eq,Ty.h_eq,Typing.h_eq,Val.h_eq]
theorem p_toGenS(nf:Nat)(x:List Gen)(h:8*(szL zGen x)+0<nf)(hn:nf<=2147483647):m_ZaG nf x=some x:=by
 have hal:x.length<=szL zGen x:=by unfold szL;omega
 rw[m_ZaG_eq,gg_pos (by omega),mark_eq,Int.toNat_natCast,cpy_zero]
 refine for_loop (fun m i s=>l8_ZaG nf m x i s) x.length (fun i=>cpy x i Gen.zero) (some x) (fun m i hi=> ?_) (fun m=> ?_) nf (by omega)
 ·have hl:=cpy_len x i Gen.zero
  have hz:=szL_at zGen x hi Gen.zero
  have c0:(i:Int)<(x.length:Int):=by omega
  have c1:0<=(i:Int)∧(i:Int)<(x.length:Int):=by omega
  have c2:0<=(i:Int)∧(i:Int)<((cpy x i Gen.zero).length:Int):=by omega
  have he:=p_toGen nf (gt x (i:Int) Gen.zero) (by omega) (by omega)
  simp only[l8_ZaG_eq,br_pos c0,gg_pos c1,gg_pos c2,he,cb_some,Comp.h_eq,FComp.h_eq,Head.h_eq,Plan.h_eq,Query.h_eq,TDecl.h_eq,Tm.h_eq,Ty.h_eq,Typing.h_eq,Val.h_eq,mark_eq,w64_nat (n:=i) (by omega),Int.toNat_natCast,cpy_set x _ _ hi]
 ·have c0:¬(x.length:Int)<(x.length:Int):=by omega
  simp only[l8_ZaG_eq,br_neg c0,cpy_all x _ (Nat.le_refl _)]
theorem p_szGen(nf:Nat)(x:Gen)(left:Int)(hr:Rd (kR 3) x)(h0:0<=left)(h1:left<=1048576)(hn:8388700<nf):∃r,m_Zaq nf x left=some r∧ -1<=r∧r<=left∧(0<=r->r+(zGen x:Nat)=left):=by
 have hz:=zGen_f x
 obtain⟨q0,q1,_⟩:Rd kS x.var∧Rd kS x.table∧True:=hr.st
 have s0:=q0.slen
 have w0:w64 (left-(x.var.length:Int))=(left-(x.var.length:Int)):=w64_id (by omega) (by omega)
 by_cases c0:(left-(x.var.length:Int))<0
 ·exact⟨-1,by simp only[m_Zaq_eq,w0,Comp.h_eq,FComp.h_eq,Head.h_eq,Plan.h_eq,Query.h_eq,TDecl.h_eq,Tm.h_eq,Ty.h_eq,Typing.h_eq,Val.h_eq,br_pos c0],by omega,by omega,by omega⟩
 have s1:=q1.slen
 have w1:w64 ((left-(x.var.length:Int))-(x.table.length:Int))=((left-(x.var.length:Int))-(x.table.length:Int)):=w64_id (by omega) (by omega)
 by_cases c1:((left-(x.var.length:Int))-(x.table.length:Int))<0
 ·exact⟨-1,by simp only[m_Zaq_eq,w0,br_neg c0,w1,Comp.h_eq,FComp.h_eq,Head.h_eq,Plan.h_eq,Query.h_eq,TDecl.h_eq,Tm.h_eq,Ty.h_eq,Typing.h_eq,Val.h_eq,br_pos c1],by omega,by omega,by omega⟩
 exact⟨((left-(x.var.length:Int))-(x.table.length:Int)),by simp only[m_Zaq_eq,w0,br_neg c0,w1,br_neg c1,Comp.h_eq,FComp.h_eq,Head.h_eq,Plan.h_eq,Query.h_eq,TDecl.h_eq,Tm.h_eq,Ty.h_eq,Typing.h_eq,Val.h_eq],by omega,by omega,by omega⟩
theorem p_szGenS(nf:Nat)(x:List Gen)(left:Int)(hr:Rd (kL (kR 3)) x)(h0:0<=left)(h1:left<=1048576)(hn:8388700<nf):∃r,m_Zar nf x left=some r∧ -1<=r∧r<=left∧(0<=r->r+(szL zGen x:Nat)=left):=by
 have hl:=hr.len
 have ew:w64 (left-(x.length:Int))=left-(x.length:Int):=w64_id (by omega) (by omega)
 by_cases hc:left-(x.length:Int)<0
 ·exact⟨-1,by simp only[m_Zar_eq,ew,br_pos hc],by omega,by omega,by omega⟩
 simp only[m_Zar_eq,ew,br_neg hc,mark_eq]
 refine for_rel (fun m i s=>l16_Zar nf m x s i) x.length (fun i s=>0<=s∧s+(pfx zGen x i:Nat)+(x.length:Nat)=left) _ (fun m i s hi hs=> ?_) (fun m s hs=> ?_) nf _ (by omega) ⟨by omega,by simp only[pfx_zero];omega⟩
 ·have c0:(i:Int)<(x.length:Int):=by omega
  have c1:0<=(i:Int)∧(i:Int)<(x.length:Int):=by omega
  have hp:=pfx_succ zGen x hi Gen.zero
  obtain⟨r,he,q1,q2,q3⟩:=p_szGen nf (gt x (i:Int) Gen.zero) s (hr.at hi Gen.zero) (by omega) (by omega) (by omega)
  by_cases hd:r<0
  ·exact .inl ⟨-1,by simp only[l16_Zar_eq,br_pos c0,gg_pos c1,he,cb_some,Comp.h_eq,FComp.h_eq,Head.h_eq,Plan.h_eq,Query.h_eq,TDecl.h_eq,Tm.h_eq,Ty.h_eq,Typing.h_eq,Val.h_eq,br_pos hd],by omega,by omega,by omega⟩
  ·exact .inr ⟨r,⟨by omega,by omega⟩,by simp only[l16_Zar_eq,br_pos c0,gg_pos c1,he,cb_some,Comp.h_eq,FComp.h_eq,Head.h_eq,Plan.h_eq,Query.h_eq,TDecl.h_eq,Tm.h_eq,Ty.h_eq,Typing.h_eq,Val.h_eq,br_neg hd,mark_eq,w64_nat (n:=i) (by omega)]⟩
 ·have c0:¬(x.length:Int)<(x.length:Int):=by omega
  have hp:=pfx_all zGen x (Nat.le_refl _)
  have hz:szL zGen x=x.length+(x.map zGen).sum:=rfl
  exact⟨s,by simp only[l16_Zar_eq,br_neg c0],by omega,by omega,by omega⟩
theorem p_eqGen(nf:Nat)(x:Gen)(h:8*(zGen x)+1<nf)(hn:nf<=2147483647):m_Zab nf x x=some true:=by
 have hz:=zGen_f x
 simp only[m_Zab_eq,cb_some,Comp.h_eq,FComp.h_eq,Head.h_eq,Plan.h_eq,Query.h_eq,TDecl.h_eq,Tm.h_eq,Ty.h_eq,Typing.h_eq,Val.h_eq,beq_self_eq_true,Bool.not_true,br_false]
theorem p_eqGenS(nf:Nat)(x:List Gen)(h:8*(szL zGen x)+0<nf)(hn:nf<=2147483647):m_Zac nf x x=some true:=by
 have hal:x.length<=szL zGen x:=by unfold szL;omega
 simp only[m_Zac_eq,beq_self_eq_true,Bool.not_true,br_false,mark_eq]
 refine for_loop (fun m i (_:Unit)=>l14_Zac nf m x x i) x.length (fun _=>()) (some true) (fun m i hi=> ?_) (fun m=> ?_) nf (by omega)
 ·have hz:=szL_at zGen x hi Gen.zero
  have c0:(i:Int)<(x.length:Int):=by omega
  have c1:0<=(i:Int)∧(i:Int)<(x.length:Int):=by omega
  have he:=p_eqGen nf (gt x (i:Int) Gen.zero) (by omega) (by omega)
  simp only[l14_Zac_eq,br_pos c0,gg_pos c1,he,cb_some,Comp.h_eq,FComp.h_eq,Head.h_eq,Plan.h_eq,Query.h_eq,TDecl.h_eq,Tm.h_eq,Ty.h_eq,Typing.h_eq,Val.h_eq,Bool.not_true,br_false,mark_eq,w64_nat (n:=i) (by omega)]
 ·have c0:¬(x.length:Int)<(x.length:Int):=by omega
  simp only[l14_Zac_eq,br_neg c0]
theorem g_to_Head(nf:Nat)(hn:nf<=2147483647):∀kf:Nat,(∀x:List Head,8*(szL zHead x)+0<kf->8*(szL zHead x)+0<nf->m_ZaI nf kf x=some x)∧(∀x:Head,8*(zHead x)+4<kf->8*(zHead x)+4<nf->m_ZaH nf kf x=some x)∧(∀x:List Comp,8*(szL zComp x)+0<kf->8*(szL zComp x)+0<nf->m_ZaE nf kf x=some x)∧(∀x:Comp,8*(zComp x)+6<kf->8*(zComp x)+6<nf->m_ZaD nf kf x=some x)∧(∀x:Query,8*(zQuery x)+2<kf->8*(zQuery x)+2<nf->m_ZaJ nf kf x=some x)
 |0=>⟨fun x h=>absurd h (Nat.not_lt_zero _),fun x h=>absurd h (Nat.not_lt_zero _),fun x h=>absurd h (Nat.not_lt_zero _),fun x h=>absurd h (Nat.not_lt_zero _),fun x h=>absurd h (Nat.not_lt_zero _)⟩
 |kf+1=>by
  obtain⟨ih0,ih1,ih2,ih3,ih4⟩:=g_to_Head nf hn kf
  refine⟨?_,?_,?_,?_,?_⟩
  ·intro x h h'
   have hal:x.length<=szL zHead x:=by unfold szL;omega
   rw[m_ZaI_eq,gg_pos (by omega),mark_eq,Int.toNat_natCast,cpy_zero]
   refine for_loop (fun m i s=>l8_ZaI nf (kf+1) m x i s) x.length (fun i=>cpy x i Head.zero) (some x) (fun m i hi=> ?_) (fun m=> ?_) nf (by omega)
   ·have hl:=cpy_len x i Head.zero
    have hz:=szL_at zHead x hi Head.zero
    have c0:(i:Int)<(x.length:Int):=by omega
    have c1:0<=(i:Int)∧(i:Int)<(x.length:Int):=by omega
    have c2:0<=(i:Int)∧(i:Int)<((cpy x i Head.zero).length:Int):=by omega
    have he:=ih1 (gt x (i:Int) Head.zero) (by omega) (by omega)
    simp only[l8_ZaI_eq,br_pos c0,gg_pos c1,gg_pos c2,he,cb_some,Comp.h_eq,FComp.h_eq,Head.h_eq,Plan.h_eq,Query.h_eq,TDecl.h_eq,Tm.h_eq,Ty.h_eq,Typing.h_eq,Val.h_eq,mark_eq,w64_nat (n:=i) (by omega),Int.toNat_natCast,cpy_set x _ _ hi]
   ·have c0:¬(x.length:Int)<(x.length:Int):=by omega
    simp only[l8_ZaI_eq,br_neg c0,cpy_all x _ (Nat.le_refl _)]
  ·intro x h h'
   have hz:=zHead_f x
   have e1:=p_toTerm nf x.term (by omega) (by omega)
   have l2:x.labels.length<=szL List.length x.labels:=by unfold szL;omega
   have e2:=p_toStringS nf x.labels (by omega) (by omega)
   have e3:=ih0 x.parts (by omega) (by omega)
   have e4:=ih4 x.query (by omega) (by omega)
   simp only[m_ZaH_eq,e1,e2,e3,e4,cb_some,Comp.h_eq,FComp.h_eq,Head.h_eq,Plan.h_eq,Query.h_eq,TDecl.h_eq,Tm.h_eq,Ty.h_eq,Typing.h_eq,Val.h_eq,Head.eta]
  ·intro x h h'
   have hal:x.length<=szL zComp x:=by unfold szL;omega
   rw[m_ZaE_eq,gg_pos (by omega),mark_eq,Int.toNat_natCast,cpy_zero]
   refine for_loop (fun m i s=>l8_ZaE nf (kf+1) m x i s) x.length (fun i=>cpy x i Comp.zero) (some x) (fun m i hi=> ?_) (fun m=> ?_) nf (by omega)
   ·have hl:=cpy_len x i Comp.zero
    have hz:=szL_at zComp x hi Comp.zero
    have c0:(i:Int)<(x.length:Int):=by omega
    have c1:0<=(i:Int)∧(i:Int)<(x.length:Int):=by omega
    have c2:0<=(i:Int)∧(i:Int)<((cpy x i Comp.zero).length:Int):=by omega
    have he:=ih3 (gt x (i:Int) Comp.zero) (by omega) (by omega)
    simp only[l8_ZaE_eq,br_pos c0,gg_pos c1,gg_pos c2,he,cb_some,Comp.h_eq,FComp.h_eq,Head.h_eq,Plan.h_eq,Query.h_eq,TDecl.h_eq,Tm.h_eq,Ty.h_eq,Typing.h_eq,Val.h_eq,mark_eq,w64_nat (n:=i) (by omega),Int.toNat_natCast,cpy_set x _ _ hi]
   ·have c0:¬(x.length:Int)<(x.length:Int):=by omega
    simp only[l8_ZaE_eq,br_neg c0,cpy_all x _ (Nat.le_refl _)]
  ·intro x h h'
   have hz:=zComp_f x
   have e0:=p_toGenS nf x.gens (by omega) (by omega)
   have e1:=p_toTerm nf x.whr (by omega) (by omega)
   have e2:=ih1 x.head (by omega) (by omega)
   simp only[m_ZaD_eq,e0,e1,e2,cb_some,Comp.h_eq,FComp.h_eq,Head.h_eq,Plan.h_eq,Query.h_eq,TDecl.h_eq,Tm.h_eq,Ty.h_eq,Typing.h_eq,Val.h_eq,Comp.eta]
  ·intro x h h'
   have hz:=zQuery_f x
   have e0:=ih2 x.comps (by omega) (by omega)
   simp only[m_ZaJ_eq,e0,cb_some,Comp.h_eq,FComp.h_eq,Head.h_eq,Plan.h_eq,Query.h_eq,TDecl.h_eq,Tm.h_eq,Ty.h_eq,Typing.h_eq,Val.h_eq,Query.eta]
theorem p_toQuery(nf:Nat)(x:Query)(h:8*(zQuery x)+2<nf)(hn:nf<=2147483647):m_ZaJ nf nf x=some x:=(g_to_Head nf hn nf).2.2.2.2 x h h
theorem g_sz_Head(nf:Nat)(hn:8388700<nf):∀kf:Nat,(∀(x:List Head) (left:Int),Rd (kL (kR 9)) x->0<=left->left<=1048576->8*left+1<(kf:Int)->∃r,m_Zat nf kf x left=some r∧ -1<=r∧r<=left∧(0<=r->r+(szL zHead x:Nat)=left))∧(∀(x:Head) (left:Int),Rd (kR 9) x->0<=left->left<=1048576->8*left+5<(kf:Int)->∃r,m_Zas nf kf x left=some r∧ -1<=r∧r<=left∧(0<=r->r+(zHead x:Nat)=left))∧(∀(x:List Comp) (left:Int),Rd (kL (kR 10)) x->0<=left->left<=1048576->8*left+1<(kf:Int)->∃r,m_Zap nf kf x left=some r∧ -1<=r∧r<=left∧(0<=r->r+(szL zComp x:Nat)=left))∧(∀(x:Comp) (left:Int),Rd (kR 10) x->0<=left->left<=1048576->8*left+7<(kf:Int)->∃r,m_Zao nf kf x left=some r∧ -1<=r∧r<=left∧(0<=r->r+(zComp x:Nat)=left))∧(∀(x:Query) (left:Int),Rd (kR 11) x->0<=left->left<=1048576->8*left+3<(kf:Int)->∃r,m_Zau nf kf x left=some r∧ -1<=r∧r<=left∧(0<=r->r+(zQuery x:Nat)=left))
 |0=>⟨fun x left _ h0 _ h=>absurd h (by omega),fun x left _ h0 _ h=>absurd h (by omega),fun x left _ h0 _ h=>absurd h (by omega),fun x left _ h0 _ h=>absurd h (by omega),fun x left _ h0 _ h=>absurd h (by omega)⟩
 |kf+1=>by
  obtain⟨ih0,ih1,ih2,ih3,ih4⟩:=g_sz_Head nf hn kf
  refine⟨?_,?_,?_,?_,?_⟩
  ·intro x left hr h0 h1 h
   have hl:=hr.len
   have ew:w64 (left-(x.length:Int))=left-(x.length:Int):=w64_id (by omega) (by omega)
   by_cases hc:left-(x.length:Int)<0
   ·exact⟨-1,by simp only[m_Zat_eq,ew,br_pos hc],by omega,by omega,by omega⟩
   simp only[m_Zat_eq,ew,br_neg hc,mark_eq]
   refine for_rel (fun m i s=>l16_Zat nf (kf+1) m x s i) x.length (fun i s=>0<=s∧s+(pfx zHead x i:Nat)+(x.length:Nat)=left) _ (fun m i s hi hs=> ?_) (fun m s hs=> ?_) nf _ (by omega) ⟨by omega,by simp only[pfx_zero];omega⟩
   ·have c0:(i:Int)<(x.length:Int):=by omega
    have c1:0<=(i:Int)∧(i:Int)<(x.length:Int):=by omega
    have hp:=pfx_succ zHead x hi Head.zero
    obtain⟨r,he,q1,q2,q3⟩:=ih1 (gt x (i:Int) Head.zero) s (hr.at hi Head.zero) (by omega) (by omega) (by omega)
    by_cases hd:r<0
    ·exact .inl ⟨-1,by simp only[l16_Zat_eq,br_pos c0,gg_pos c1,he,cb_some,Comp.h_eq,FComp.h_eq,Head.h_eq,Plan.h_eq,Query.h_eq,TDecl.h_eq,Tm.h_eq,Ty.h_eq,Typing.h_eq,Val.h_eq,br_pos hd],by omega,by omega,by omega⟩
    ·exact .inr ⟨r,⟨by omega,by omega⟩,by simp only[l16_Zat_eq,br_pos c0,gg_pos c1,he,cb_some,Comp.h_eq,FComp.h_eq,Head.h_eq,Plan.h_eq,Query.h_eq,TDecl.h_eq,Tm.h_eq,Ty.h_eq,Typing.h_eq,Val.h_eq,br_neg hd,mark_eq,w64_nat (n:=i) (by omega)]⟩
   ·have c0:¬(x.length:Int)<(x.length:Int):=by omega
    have hp:=pfx_all zHead x (Nat.le_refl _)
    have hz:szL zHead x=x.length+(x.map zHead).sum:=rfl
    exact⟨s,by simp only[l16_Zat_eq,br_neg c0],by omega,by omega,by omega⟩
  ·intro x left hr h0 h1 h
   have hz:=zHead_f x
   obtain⟨q0,q1,q2,q3,q4,_⟩:Rd kI x.kind∧Rd (kR 2) x.term∧Rd (kL kS) x.labels∧Rd (kL (kR 9)) x.parts∧Rd (kR 11) x.query∧True:=hr.st
   obtain⟨r1,w1,u1,v1,z1⟩:=p_szTerm nf x.term left q1 (by omega) (by omega) (by omega)
   by_cases c1:r1<0
   ·exact⟨-1,by simp only[m_Zas_eq,w1,cb_some,Comp.h_eq,FComp.h_eq,Head.h_eq,Plan.h_eq,Query.h_eq,TDecl.h_eq,Tm.h_eq,Ty.h_eq,Typing.h_eq,Val.h_eq,br_pos c1],by omega,by omega,by omega⟩
   obtain⟨r2,w2,u2,v2,z2⟩:=p_szStringS nf x.labels r1 q2 (by omega) (by omega) (by omega)
   by_cases c2:r2<0
   ·exact⟨-1,by simp only[m_Zas_eq,w1,cb_some,br_neg c1,w2,cb_some,Comp.h_eq,FComp.h_eq,Head.h_eq,Plan.h_eq,Query.h_eq,TDecl.h_eq,Tm.h_eq,Ty.h_eq,Typing.h_eq,Val.h_eq,br_pos c2],by omega,by omega,by omega⟩
   obtain⟨r3,w3,u3,v3,z3⟩:=ih0 x.parts r2 q3 (by omega) (by omega) (by omega)
   by_cases c3:r3<0
   ·exact⟨-1,by simp only[m_Zas_eq,w1,cb_some,br_neg c1,w2,cb_some,br_neg c2,w3,cb_some,Comp.h_eq,FComp.h_eq,Head.h_eq,Plan.h_eq,Query.h_eq,TDecl.h_eq,Tm.h_eq,Ty.h_eq,Typing.h_eq,Val.h_eq,br_pos c3],by omega,by omega,by omega⟩
   obtain⟨r4,w4,u4,v4,z4⟩:=ih4 x.query r3 q4 (by omega) (by omega) (by omega)
   by_cases c4:r4<0
   ·exact⟨-1,by simp only[m_Zas_eq,w1,cb_some,br_neg c1,w2,cb_some,br_neg c2,w3,cb_some,br_neg c3,w4,cb_some,Comp.h_eq,FComp.h_eq,Head.h_eq,Plan.h_eq,Query.h_eq,TDecl.h_eq,Tm.h_eq,Ty.h_eq,Typing.h_eq,Val.h_eq,br_pos c4],by omega,by omega,by omega⟩
   exact⟨r4,by simp only[m_Zas_eq,w1,cb_some,br_neg c1,w2,cb_some,br_neg c2,w3,cb_some,br_neg c3,w4,cb_some,br_neg c4,Comp.h_eq,FComp.h_eq,Head.h_eq,Plan.h_eq,Query.h_eq,TDecl.h_eq,Tm.h_eq,Ty.h_eq,Typing.h_eq,Val.h_eq],by omega,by omega,by omega⟩
  ·intro x left hr h0 h1 h
   have hl:=hr.len
   have ew:w64 (left-(x.length:Int))=left-(x.length:Int):=w64_id (by omega) (by omega)
   by_cases hc:left-(x.length:Int)<0
   ·exact⟨-1,by simp only[m_Zap_eq,ew,br_pos hc],by omega,by omega,by omega⟩
   simp only[m_Zap_eq,ew,br_neg hc,mark_eq]
   refine for_rel (fun m i s=>l16_Zap nf (kf+1) m x s i) x.length (fun i s=>0<=s∧s+(pfx zComp x i:Nat)+(x.length:Nat)=left) _ (fun m i s hi hs=> ?_) (fun m s hs=> ?_) nf _ (by omega) ⟨by omega,by simp only[pfx_zero];omega⟩
   ·have c0:(i:Int)<(x.length:Int):=by omega
    have c1:0<=(i:Int)∧(i:Int)<(x.length:Int):=by omega
    have hp:=pfx_succ zComp x hi Comp.zero
    obtain⟨r,he,q1,q2,q3⟩:=ih3 (gt x (i:Int) Comp.zero) s (hr.at hi Comp.zero) (by omega) (by omega) (by omega)
    by_cases hd:r<0
    ·exact .inl ⟨-1,by simp only[l16_Zap_eq,br_pos c0,gg_pos c1,he,cb_some,Comp.h_eq,FComp.h_eq,Head.h_eq,Plan.h_eq,Query.h_eq,TDecl.h_eq,Tm.h_eq,Ty.h_eq,Typing.h_eq,Val.h_eq,br_pos hd],by omega,by omega,by omega⟩
    ·exact .inr ⟨r,⟨by omega,by omega⟩,by simp only[l16_Zap_eq,br_pos c0,gg_pos c1,he,cb_some,Comp.h_eq,FComp.h_eq,Head.h_eq,Plan.h_eq,Query.h_eq,TDecl.h_eq,Tm.h_eq,Ty.h_eq,Typing.h_eq,Val.h_eq,br_neg hd,mark_eq,w64_nat (n:=i) (by omega)]⟩
   ·have c0:¬(x.length:Int)<(x.length:Int):=by omega
    have hp:=pfx_all zComp x (Nat.le_refl _)
    have hz:szL zComp x=x.length+(x.map zComp).sum:=rfl
    exact⟨s,by simp only[l16_Zap_eq,br_neg c0],by omega,by omega,by omega⟩
  ·intro x left hr h0 h1 h
   have hz:=zComp_f x
   obtain⟨q0,q1,q2,_⟩:Rd (kL (kR 3)) x.gens∧Rd (kR 2) x.whr∧Rd (kR 9) x.head∧True:=hr.st
   obtain⟨r0,w0,u0,v0,z0⟩:=p_szGenS nf x.gens left q0 (by omega) (by omega) (by omega)
   by_cases c0:r0<0
   ·exact⟨-1,by simp only[m_Zao_eq,w0,cb_some,Comp.h_eq,FComp.h_eq,Head.h_eq,Plan.h_eq,Query.h_eq,TDecl.h_eq,Tm.h_eq,Ty.h_eq,Typing.h_eq,Val.h_eq,br_pos c0],by omega,by omega,by omega⟩
   obtain⟨r1,w1,u1,v1,z1⟩:=p_szTerm nf x.whr r0 q1 (by omega) (by omega) (by omega)
   by_cases c1:r1<0
   ·exact⟨-1,by simp only[m_Zao_eq,w0,cb_some,br_neg c0,w1,cb_some,Comp.h_eq,FComp.h_eq,Head.h_eq,Plan.h_eq,Query.h_eq,TDecl.h_eq,Tm.h_eq,Ty.h_eq,Typing.h_eq,Val.h_eq,br_pos c1],by omega,by omega,by omega⟩
   obtain⟨r2,w2,u2,v2,z2⟩:=ih1 x.head r1 q2 (by omega) (by omega) (by omega)
   by_cases c2:r2<0
   ·exact⟨-1,by simp only[m_Zao_eq,w0,cb_some,br_neg c0,w1,cb_some,br_neg c1,w2,cb_some,Comp.h_eq,FComp.h_eq,Head.h_eq,Plan.h_eq,Query.h_eq,TDecl.h_eq,Tm.h_eq,Ty.h_eq,Typing.h_eq,Val.h_eq,br_pos c2],by omega,by omega,by omega⟩
   exact⟨r2,by simp only[m_Zao_eq,w0,cb_some,br_neg c0,w1,cb_some,br_neg c1,w2,cb_some,br_neg c2,Comp.h_eq,FComp.h_eq,Head.h_eq,Plan.h_eq,Query.h_eq,TDecl.h_eq,Tm.h_eq,Ty.h_eq,Typing.h_eq,Val.h_eq],by omega,by omega,by omega⟩
  ·intro x left hr h0 h1 h
   have hz:=zQuery_f x
   obtain⟨q0,_⟩:Rd (kL (kR 10)) x.comps∧True:=hr.st
   obtain⟨r0,w0,u0,v0,z0⟩:=ih2 x.comps left q0 (by omega) (by omega) (by omega)
   by_cases c0:r0<0
   ·exact⟨-1,by simp only[m_Zau_eq,w0,cb_some,Comp.h_eq,FComp.h_eq,Head.h_eq,Plan.h_eq,Query.h_eq,TDecl.h_eq,Tm.h_eq,Ty.h_eq,Typing.h_eq,Val.h_eq,br_pos c0],by omega,by omega,by omega⟩
   exact⟨r0,by simp only[m_Zau_eq,w0,cb_some,br_neg c0,Comp.h_eq,FComp.h_eq,Head.h_eq,Plan.h_eq,Query.h_eq,TDecl.h_eq,Tm.h_eq,Ty.h_eq,Typing.h_eq,Val.h_eq],by omega,by omega,by omega⟩
theorem p_szQuery(nf:Nat)(x:Query)(left:Int)(hr:Rd (kR 11) x)(h0:0<=left)(h1:left<=1048576)(hn:8388700<nf):∃r,m_Zau nf nf x left=some r∧ -1<=r∧r<=left∧(0<=r->r+(zQuery x:Nat)=left):=(g_sz_Head nf hn nf).2.2.2.2 x left hr h0 h1 (by omega)
theorem g_eq_Head(nf:Nat)(hn:nf<=2147483647):∀kf:Nat,(∀x:List Head,8*(szL zHead x)+0<kf->8*(szL zHead x)+0<nf->m_Zae nf kf x x=some true)∧(∀x:Head,8*(zHead x)+4<kf->8*(zHead x)+4<nf->m_Zad nf kf x x=some true)∧(∀x:List Comp,8*(szL zComp x)+0<kf->8*(szL zComp x)+0<nf->m_Zaa nf kf x x=some true)∧(∀x:Comp,8*(zComp x)+6<kf->8*(zComp x)+6<nf->m_ZZ nf kf x x=some true)∧(∀x:Query,8*(zQuery x)+2<kf->8*(zQuery x)+2<nf->m_Zaf nf kf x x=some true)
 |0=>⟨fun x h=>absurd h (Nat.not_lt_zero _),fun x h=>absurd h (Nat.not_lt_zero _),fun x h=>absurd h (Nat.not_lt_zero _),fun x h=>absurd h (Nat.not_lt_zero _),fun x h=>absurd h (Nat.not_lt_zero _)⟩
 |kf+1=>by
  obtain⟨ih0,ih1,ih2,ih3,ih4⟩:=g_eq_Head nf hn kf
  refine⟨?_,?_,?_,?_,?_⟩
  ·intro x h h'
   have hal:x.length<=szL zHead x:=by unfold szL;omega
   simp only[m_Zae_eq,beq_self_eq_true,Bool.not_true,br_false,mark_eq]
   refine for_loop (fun m i (_:Unit)=>l14_Zae nf (kf+1) m x x i) x.length (fun _=>()) (some true) (fun m i hi=> ?_) (fun m=> ?_) nf (by omega)
   ·have hz:=szL_at zHead x hi Head.zero
    have c0:(i:Int)<(x.length:Int):=by omega
    have c1:0<=(i:Int)∧(i:Int)<(x.length:Int):=by omega
    have he:=ih1 (gt x (i:Int) Head.zero) (by omega) (by omega)
    simp only[l14_Zae_eq,br_pos c0,gg_pos c1,he,cb_some,Comp.h_eq,FComp.h_eq,Head.h_eq,Plan.h_eq,Query.h_eq,TDecl.h_eq,Tm.h_eq,Ty.h_eq,Typing.h_eq,Val.h_eq,Bool.not_true,br_false,mark_eq,w64_nat (n:=i) (by omega)]
   ·have c0:¬(x.length:Int)<(x.length:Int):=by omega
    simp only[l14_Zae_eq,br_neg c0]
  ·intro x h h'
   have hz:=zHead_f x
   have e1:=p_eqTerm nf x.term (by omega) (by omega)
   have l2:x.labels.length<=szL List.length x.labels:=by unfold szL;omega
   have e2:=p_eqStringS nf x.labels (by omega) (by omega)
   have e3:=ih0 x.parts (by omega) (by omega)
   have e4:=ih4 x.query (by omega) (by omega)
   simp only[m_Zad_eq,e1,e2,e3,e4,cb_some,Comp.h_eq,FComp.h_eq,Head.h_eq,Plan.h_eq,Query.h_eq,TDecl.h_eq,Tm.h_eq,Ty.h_eq,Typing.h_eq,Val.h_eq,beq_self_eq_true,Bool.not_true,br_false]
  ·intro x h h'
   have hal:x.length<=szL zComp x:=by unfold szL;omega
   simp only[m_Zaa_eq,beq_self_eq_true,Bool.not_true,br_false,mark_eq]
   refine for_loop (fun m i (_:Unit)=>l14_Zaa nf (kf+1) m x x i) x.length (fun _=>()) (some true) (fun m i hi=> ?_) (fun m=> ?_) nf (by omega)
   ·have hz:=szL_at zComp x hi Comp.zero
    have c0:(i:Int)<(x.length:Int):=by omega
    have c1:0<=(i:Int)∧(i:Int)<(x.length:Int):=by omega
    have he:=ih3 (gt x (i:Int) Comp.zero) (by omega) (by omega)
    simp only[l14_Zaa_eq,br_pos c0,gg_pos c1,he,cb_some,Comp.h_eq,FComp.h_eq,Head.h_eq,Plan.h_eq,Query.h_eq,TDecl.h_eq,Tm.h_eq,Ty.h_eq,Typing.h_eq,Val.h_eq,Bool.not_true,br_false,mark_eq,w64_nat (n:=i) (by omega)]
   ·have c0:¬(x.length:Int)<(x.length:Int):=by omega
    simp only[l14_Zaa_eq,br_neg c0]
  ·intro x h h'
   have hz:=zComp_f x
   have e0:=p_eqGenS nf x.gens (by omega) (by omega)
   have e1:=p_eqTerm nf x.whr (by omega) (by omega)
   have e2:=ih1 x.head (by omega) (by omega)
   simp only[m_ZZ_eq,e0,e1,e2,cb_some,Comp.h_eq,FComp.h_eq,Head.h_eq,Plan.h_eq,Query.h_eq,TDecl.h_eq,Tm.h_eq,Ty.h_eq,Typing.h_eq,Val.h_eq,beq_self_eq_true,Bool.not_true,br_false]
  ·intro x h h'
   have hz:=zQuery_f x
   have e0:=ih2 x.comps (by omega) (by omega)
   simp only[m_Zaf_eq,e0,cb_some,Comp.h_eq,FComp.h_eq,Head.h_eq,Plan.h_eq,Query.h_eq,TDecl.h_eq,Tm.h_eq,Ty.h_eq,Typing.h_eq,Val.h_eq,beq_self_eq_true,Bool.not_true,br_false]
theorem p_eqQuery(nf:Nat)(x:Query)(h:8*(zQuery x)+2<nf)(hn:nf<=2147483647):m_Zaf nf nf x x=some true:=(g_eq_Head nf hn nf).2.2.2.2 x h h
end Go.Q
