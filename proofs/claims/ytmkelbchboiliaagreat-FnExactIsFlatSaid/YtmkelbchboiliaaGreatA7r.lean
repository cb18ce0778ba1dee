/- The families of flat queries: plain laws of to, sz, eq. -/
import Derived.Test.YtmkelbchboiliaaGreatA7q
set_option linter.unusedVariables false
set_option linter.unusedSimpArgs false
set_option maxHeartbeats 1000000
namespace Go.Q
theorem p_toFlatComp(nf:Nat)(x:FComp)(h:8*(zFComp x)+1<nf)(hn:nf<=2147483647):m_ZaB nf x=some x:=by
 have hz:=zFComp_f x
 have e3:=p_toGenS nf x.gens (by omega) (by omega)
 have e4:=p_toTerm nf x.whr (by omega) (by omega)
 have e5:=p_toTermS nf x.cols (by omega) (by omega)
 simp only[m_ZaB_eq,e3,e4,e5,cb_some,Comp.h_eq,FComp.h_eq,Head.h_eq,Plan.h_eq,Query.h_eq,TDecl.h_eq,Tm.h_eq,Ty.h_eq,Typing.h_eq,Val.h_eq]
theorem p_toFlatCompS(nf:Nat)(x:List FComp)(h:8*(szL zFComp x)+0<nf)(hn:nf<=2147483647):m_ZaC nf x=some x:=by
 have hal:x.length<=szL zFComp x:=by unfold szL;omega
 rw[m_ZaC_eq,gg_pos (by omega),mark_eq,Int.toNat_natCast,cpy_zero]
 refine for_loop (fun m i s=>l8_ZaC nf m x i s) x.length (fun i=>cpy x i FComp.zero) (some x) (fun m i hi=> ?_) (fun m=> ?_) nf (by omega)
 ·have hl:=cpy_len x i FComp.zero
  have hz:=szL_at zFComp x hi FComp.zero
  have c0:(i:Int)<(x.length:Int):=by omega
  have c1:0<=(i:Int)∧(i:Int)<(x.length:Int):=by omega
  have c2:0<=(i:Int)∧(i:Int)<((cpy x i FComp.zero).length:Int):=by omega
  have he:=p_toFlatComp nf (gt x (i:Int) FComp.zero) (by omega) (by omega)
  simp only[l8_ZaC_eq,br_pos c0,gg_pos c1,gg_pos c2,he,cb_some,Comp.h_eq,FComp.h_eq,Head.h_eq,Plan.h_eq,Query.h_eq,TDecl.h_eq,Tm.h_eq,Ty.h_eq,Typing.h_eq,Val.h_eq,mark_eq,w64_nat (n:=i) (by omega),Int.toNat_natCast,cpy_set x _ _ hi]
 ·have c0:¬(x.length:Int)<(x.length:Int):=by omega
  simp only[l8_ZaC_eq,br_neg c0,cpy_all x _ (Nat.le_refl _)]
theorem p_szFlatComp(nf:Nat)(x:FComp)(left:Int)(hr:Rd (kR 12) x)(h0:0<=left)(h1:left<=1048576)(hn:8388700<nf):∃r,m_Zao nf x left=some r∧ -1<=r∧r<=left∧(0<=r->r+(zFComp x:Nat)=left):=by
 have hz:=zFComp_f x
 obtain⟨q0,q1,q2,q3,q4,q5,_⟩:Rd kI x.outer∧Rd kI x.outerGens∧Rd kI x.tag∧Rd (kL (kR 3)) x.gens∧Rd (kR 2) x.whr∧Rd (kL (kR 2)) x.cols∧True:=hr.st
 obtain⟨r3,w3,u3,v3,z3⟩:=p_szGenS nf x.gens left q3 (by omega) (by omega) (by omega)
 by_cases c3:r3<0
 ·exact⟨-1,by simp only[m_Zao_eq,w3,cb_some,Comp.h_eq,FComp.h_eq,Head.h_eq,Plan.h_eq,Query.h_eq,TDecl.h_eq,Tm.h_eq,Ty.h_eq,Typing.h_eq,Val.h_eq,br_pos c3],by omega,by omega,by omega⟩
 obtain⟨r4,w4,u4,v4,z4⟩:=p_szTerm nf x.whr r3 q4 (by omega) (by omega) (by omega)
 by_cases c4:r4<0
 ·exact⟨-1,by simp only[m_Zao_eq,w3,cb_some,br_neg c3,w4,cb_some,Comp.h_eq,FComp.h_eq,Head.h_eq,Plan.h_eq,Query.h_eq,TDecl.h_eq,Tm.h_eq,Ty.h_eq,Typing.h_eq,Val.h_eq,br_pos c4],by omega,by omega,by omega⟩
 obtain⟨r5,w5,u5,v5,z5⟩:=p_szTermS nf x.cols r4 q5 (by omega) (by omega) (by omega)
 by_cases c5:r5<0
 ·exact⟨-1,by simp only[m_Zao_eq,w3,cb_some,br_neg c3,w4,cb_some,br_neg c4,w5,cb_some,Comp.h_eq,FComp.h_eq,Head.h_eq,Plan.h_eq,Query.h_eq,TDecl.h_eq,Tm.h_eq,Ty.h_eq,Typing.h_eq,Val.h_eq,br_pos c5],by omega,by omega,by omega⟩
 exact⟨r5,by simp only[m_Zao_eq,w3,cb_some,br_neg c3,w4,cb_some,br_neg c4,w5,cb_some,br_neg c5,Comp.h_eq,FComp.h_eq,Head.h_eq,Plan.h_eq,Query.h_eq,TDecl.h_eq,Tm.h_eq,Ty.h_eq,Typing.h_eq,Val.h_eq],by omega,by omega,by omega⟩
theorem p_szFlatCompS(nf:Nat)(x:List FComp)(left:Int)(hr:Rd (kL (kR 12)) x)(h0:0<=left)(h1:left<=1048576)(hn:8388700<nf):∃r,m_Zap nf x left=some r∧ -1<=r∧r<=left∧(0<=r->r+(szL zFComp x:Nat)=left):=by
 have hl:=hr.len
 have ew:w64 (left-(x.length:Int))=left-(x.length:Int):=w64_id (by omega) (by omega)
 by_cases hc:left-(x.length:Int)<0
 ·exact⟨-1,by simp only[m_Zap_eq,ew,br_pos hc],by omega,by omega,by omega⟩
 simp only[m_Zap_eq,ew,br_neg hc,mark_eq]
 refine for_rel (fun m i s=>l16_Zap nf m x s i) x.length (fun i s=>0<=s∧s+(pfx zFComp x i:Nat)+(x.length:Nat)=left) _ (fun m i s hi hs=> ?_) (fun m s hs=> ?_) nf _ (by omega) ⟨by omega,by simp only[pfx_zero];omega⟩
 ·have c0:(i:Int)<(x.length:Int):=by omega
  have c1:0<=(i:Int)∧(i:Int)<(x.length:Int):=by omega
  have hp:=pfx_succ zFComp x hi FComp.zero
  obtain⟨r,he,q1,q2,q3⟩:=p_szFlatComp nf (gt x (i:Int) FComp.zero) s (hr.at hi FComp.zero) (by omega) (by omega) (by omega)
  by_cases hd:r<0
  ·exact .inl ⟨-1,by simp only[l16_Zap_eq,br_pos c0,gg_pos c1,he,cb_some,Comp.h_eq,FComp.h_eq,Head.h_eq,Plan.h_eq,Query.h_eq,TDecl.h_eq,Tm.h_eq,Ty.h_eq,Typing.h_eq,Val.h_eq,br_pos hd],by omega,by omega,by omega⟩
  ·exact .inr ⟨r,⟨by omega,by omega⟩,by simp only[l16_Zap_eq,br_pos c0,gg_pos c1,he,cb_some,Comp.h_eq,FComp.h_eq,Head.h_eq,Plan.h_eq,Query.h_eq,TDecl.h_eq,Tm.h_eq,Ty.h_eq,Typing.h_eq,Val.h_eq,br_neg hd,mark_eq,w64_nat (n:=i) (by omega)]⟩
 ·have c0:¬(x.length:Int)<(x.length:Int):=by omega
  have hp:=pfx_all zFComp x (Nat.le_refl _)
  have hz:szL zFComp x=x.length+(x.map zFComp).sum:=rfl
  exact⟨s,by simp only[l16_Zap_eq,br_neg c0],by omega,by omega,by omega⟩
theorem p_eqFlatComp(nf:Nat)(x:FComp)(h:8*(zFComp x)+1<nf)(hn:nf<=2147483647):m_Zab nf x x=some true:=by
 have hz:=zFComp_f x
 have e3:=p_eqGenS nf x.gens (by omega) (by omega)
 have e4:=p_eqTerm nf x.whr (by omega) (by omega)
 have e5:=p_eqTermS nf x.cols (by omega) (by omega)
 simp only[m_Zab_eq,e3,e4,e5,cb_some,Comp.h_eq,FComp.h_eq,Head.h_eq,Plan.h_eq,Query.h_eq,TDecl.h_eq,Tm.h_eq,Ty.h_eq,Typing.h_eq,Val.h_eq,beq_self_eq_true,Bool.not_true,br_false]
theorem p_eqFlatCompS(nf:Nat)(x:List FComp)(h:8*(szL zFComp x)+0<nf)(hn:nf<=2147483647):m_Zac nf x x=some true:=by
 have hal:x.length<=szL zFComp x:=by unfold szL;omega
 simp only[m_Zac_eq,beq_self_eq_true,Bool.not_true,br_false,mark_eq]
 refine for_loop (fun m i (_:Unit)=>l14_Zac nf m x x i) x.length (fun _=>()) (some true) (fun m i hi=> ?_) (fun m=> ?_) nf (by omega)
 ·have hz:=szL_at zFComp x hi FComp.zero
  have c0:(i:Int)<(x.length:Int):=by omega
  have c1:0<=(i:Int)∧(i:Int)<(x.length:Int):=by omega
  have he:=p_eqFlatComp nf (gt x (i:Int) FComp.zero) (by omega) (by omega)
  simp only[l14_Zac_eq,br_pos c0,gg_pos c1,he,cb_some,Comp.h_eq,FComp.h_eq,Head.h_eq,Plan.h_eq,Query.h_eq,TDecl.h_eq,Tm.h_eq,Ty.h_eq,Typing.h_eq,Val.h_eq,Bool.not_true,br_false,mark_eq,w64_nat (n:=i) (by omega)]
 ·have c0:¬(x.length:Int)<(x.length:Int):=by omega
  simp only[l14_Zac_eq,br_neg c0]
theorem p_toFlatQuery(nf:Nat)(x:FQuery)(h:8*(zFQuery x)+1<nf)(hn:nf<=2147483647):m_ZaD nf x=some x:=by
 have hz:=zFQuery_f x
 have l0:x.path.length<=szL List.length x.path:=by unfold szL;omega
 have e0:=p_toStringS nf x.path (by omega) (by omega)
 have e1:=p_toFlatCompS nf x.comps (by omega) (by omega)
 simp only[m_ZaD_eq,e0,e1,cb_some,Comp.h_eq,FComp.h_eq,Head.h_eq,Plan.h_eq,Query.h_eq,TDecl.h_eq,Tm.h_eq,Ty.h_eq,Typing.h_eq,Val.h_eq]
theorem p_szFlatQuery(nf:Nat)(x:FQuery)(left:Int)(hr:Rd (kR 13) x)(h0:0<=left)(h1:left<=1048576)(hn:8388700<nf):∃r,m_Zaq nf x left=some r∧ -1<=r∧r<=left∧(0<=r->r+(zFQuery x:Nat)=left):=by
 have hz:=zFQuery_f x
 obtain⟨q0,q1,_⟩:Rd (kL kS) x.path∧Rd (kL (kR 12)) x.comps∧True:=hr.st
 obtain⟨r0,w0,u0,v0,z0⟩:=p_szStringS nf x.path left q0 (by omega) (by omega) (by omega)
 by_cases c0:r0<0
 ·exact⟨-1,by simp only[m_Zaq_eq,w0,cb_some,Comp.h_eq,FComp.h_eq,Head.h_eq,Plan.h_eq,Query.h_eq,TDecl.h_eq,Tm.h_eq,Ty.h_eq,Typing.h_eq,Val.h_eq,br_pos c0],by omega,by omega,by omega⟩
 obtain⟨r1,w1,u1,v1,z1⟩:=p_szFlatCompS nf x.comps r0 q1 (by omega) (by omega) (by omega)
 by_cases c1:r1<0
 ·exact⟨-1,by simp only[m_Zaq_eq,w0,cb_some,br_neg c0,w1,cb_some,Comp.h_eq,FComp.h_eq,Head.h_eq,Plan.h_eq,Query.h_eq,TDecl.h_eq,Tm.h_eq,Ty.h_eq,Typing.h_eq,Val.h_eq,br_pos c1],by omega,by omega,by omega⟩
 exact⟨r1,by simp only[m_Zaq_eq,w0,cb_some,br_neg c0,w1,cb_some,br_neg c1,Comp.h_eq,FComp.h_eq,Head.h_eq,Plan.h_eq,Query.h_eq,TDecl.h_eq,Tm.h_eq,Ty.h_eq,Typing.h_eq,Val.h_eq],by omega,by omega,by omega⟩
theorem p_eqFlatQuery(nf:Nat)(x:FQuery)(h:8*(zFQuery x)+1<nf)(hn:nf<=2147483647):m_Zad nf x x=some true:=by
 have hz:=zFQuery_f x
 have l0:x.path.length<=szL List.length x.path:=by unfold szL;omega
 have e0:=p_eqStringS nf x.path (by omega) (by omega)
 have e1:=p_eqFlatCompS nf x.comps (by omega) (by omega)
 simp only[m_Zad_eq,e0,e1,cb_some,Comp.h_eq,FComp.h_eq,Head.h_eq,Plan.h_eq,Query.h_eq,TDecl.h_eq,Tm.h_eq,Ty.h_eq,Typing.h_eq,Val.h_eq,beq_self_eq_true,Bool.not_true,br_false]
end Go.Q
