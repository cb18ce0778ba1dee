/- The families of queries: plain laws of to, sz, eq. -/
import Derived.Test.YtmkelbchboiliaaGreatA7p
set_option linter.unusedVariables false
set_option linter.unusedSimpArgs false
set_option maxHeartbeats 1000000
namespace Go.Q
theorem p_toGen(nf:Nat)(x:Gen)(h:8*(zGen x)+1<nf)(hn:nf<=2147483647):m_ZaE nf x=some x:=by
 have hz:=zGen_f x
 simp only[m_ZaE_eq,cb_some,Comp.h_eq,FComp.h_eq,Head.h_eq,Plan.h_eq,Query.h_eq,TDecl.h_eq,Tm.h_eq,Ty.h_eq,Typing.h_eq,Val.h_eq]
theorem p_toGenS(nf:Nat)(x:List Gen)(h:8*(szL zGen x)+0<nf)(hn:nf<=2147483647):m_ZaF nf x=some x:=by
 have hal:x.length<=szL zGen x:=by unfold szL;omega
 rw[m_ZaF_eq,gg_pos (by omega),mark_eq,Int.toNat_natCast,cpy_zero]
 refine for_loop (fun m i s=>l8_ZaF nf m x i s) x.length (fun i=>cpy x i Gen.zero) (some x) (fun m i hi=> ?_) (fun m=> ?_) nf (by omega)
 ·have hl:=cpy_len x i Gen.zero
  have hz:=szL_at zGen x hi Gen.zero
  have c0:(i:Int)<(x.length:Int):=by omega
  have c1:0<=(i:Int)∧(i:Int)<(x.length:Int):=by omega
  have c2:0<=(i:Int)∧(i:Int)<((cpy x i Gen.zero).length:Int):=by omega
  have he:=p_toGen nf (gt x (i:Int) Gen.zero) (by omega) (by omega)
  simp only[l8_ZaF_eq,br_pos c0,gg_pos c1,gg_pos c2,he,cb_some,Comp.h_eq,FComp.h_eq,Head.h_eq,Plan.h_eq,Query.h_eq,TDecl.h_eq,Tm.h_eq,Ty.h_eq,Typing.h_eq,Val.h_eq,mark_eq,w64_nat (n:=i) (by omega),Int.toNat_natCast,cpy_set x _ _ hi]
 ·have c0:¬(x.length:Int)<(x.length:Int):=by omega
  simp only[l8_ZaF_eq,br_neg c0,cpy_all x _ (Nat.le_refl _)]
theorem p_szGen(nf:Nat)(x:Gen)(left:Int)(hr:Rd (kR 3) x)(h0:0<=left)(h1:left<=1048576)(hn:8388700<nf):∃r,m_Zar nf x left=some r∧ -1<=r∧r<=left∧(0<=r->r+(zGen x:Nat)=left):=by
 have hz:=zGen_f x
 obtain⟨q0,q1,_⟩:Rd kS x.var∧Rd kS x.table∧True:=hr.st
 have s0:=q0.slen
 have w0:w64 (left-(x.var.length:Int))=(left-(x.var.length:Int)):=w64_id (by omega) (by omega)
 by_cases c0:(left-(x.var.length:Int))<0
 ·exact⟨-1,by simp only[m_Zar_eq,w0,Comp.h_eq,FComp.h_eq,Head.h_eq,Plan.h_eq,Query.h_eq,TDecl.h_eq,Tm.h_eq,Ty.h_eq,Typing.h_eq,Val.h_eq,br_pos c0],by omega,by omega,by omega⟩
 have s1:=q1.slen
 have w1:w64 ((left-(x.var.length:Int))-(x.table.length:Int))=((left-(x.var.length:Int))-(x.table.length:Int)):=w64_id (by omega) (by omega)
 by_cases c1:((left-(x.var.length:Int))-(x.table.length:Int))<0
 ·exact⟨-1,by simp only[m_Zar_eq,w0,br_neg c0,w1,Comp.h_eq,FComp.h_eq,Head.h_eq,Plan.h_eq,Query.h_eq,TDecl.h_eq,Tm.h_eq,Ty.h_eq,Typing.h_eq,Val.h_eq,br_pos c1],by omega,by omega,by omega⟩
 exact⟨((left-(x.var.length:Int))-(x.table.length:Int)),by simp only[m_Zar_eq,w0,br_neg c0,w1,br_neg c1,Comp.h_eq,FComp.h_eq,Head.h_eq,Plan.h_eq,Query.h_eq,TDecl.h_eq,Tm.h_eq,Ty.h_eq,Typing.h_eq,Val.h_eq],by omega,by omega,by omega⟩
theorem p_szGenS(nf:Nat)(x:List Gen)(left:Int)(hr:Rd (kL (kR 3)) x)(h0:0<=left)(h1:left<=1048576)(hn:8388700<nf):∃r,m_Zas nf x left=some r∧ -1<=r∧r<=left∧(0<=r->r+(szL zGen x:Nat)=left):=by
 have hl:=hr.len
 have ew:w64 (left-(x.length:Int))=left-(x.length:Int):=w64_id (by omega) (by omega)
 by_cases hc:left-(x.length:Int)<0
 ·exact⟨-1,by simp only[m_Zas_eq,ew,br_pos hc],by omega,by omega,by omega⟩
 simp only[m_Zas_eq,ew,br_neg hc,mark_eq]
 refine for_rel (fun m i s=>l16_Zas nf m x s i) x.length (fun i s=>0<=s∧s+(pfx zGen x i:Nat)+(x.length:Nat)=left) _ (fun m i s hi hs=> ?_) (fun m s hs=> ?_) nf _ (by omega) ⟨by omega,by simp only[pfx_zero];omega⟩
 ·have c0:(i:Int)<(x.length:Int):=by omega
  have c1:0<=(i:Int)∧(i:Int)<(x.length:Int):=by omega
  have hp:=pfx_succ zGen x hi Gen.zero
  obtain⟨r,he,q1,q2,q3⟩:=p_szGen nf (gt x (i:Int) Gen.zero) s (hr.at hi Gen.zero) (by omega) (by omega) (by omega)
  by_cases hd:r<0
  ·exact .inl ⟨-1,by simp only[l16_Zas_eq,br_pos c0,gg_pos c1,he,cb_some,Comp.h_eq,FComp.h_eq,Head.h_eq,Plan.h_eq,Query.h_eq,TDecl.h_eq,Tm.h_eq,Ty.h_eq,Typing.h_eq,Val.h_eq,br_pos hd],by omega,by omega,by omega⟩
  ·exact .inr ⟨r,⟨by omega,by omega⟩,by simp only[l16_Zas_eq,br_pos c0,gg_pos c1,he,cb_some,Comp.h_eq,FComp.h_eq,Head.h_eq,Plan.h_eq,Query.h_eq,TDecl.h_eq,Tm.h_eq,Ty.h_eq,Typing.h_eq,Val.h_eq,br_neg hd,mark_eq,w64_nat (n:=i) (by omega)]⟩
 ·have c0:¬(x.length:Int)<(x.length:Int):=by omega
  have hp:=pfx_all zGen x (Nat.le_refl _)
  have hz:szL zGen x=x.length+(x.map zGen).sum:=rfl
  exact⟨s,by simp only[l16_Zas_eq,br_neg c0],by omega,by omega,by omega⟩
theorem p_eqGen(nf:Nat)(x:Gen)(h:8*(zGen x)+1<nf)(hn:nf<=2147483647):m_Zae nf x x=some true:=by
 have hz:=zGen_f x
 simp only[m_Zae_eq,cb_some,Comp.h_eq,FComp.h_eq,Head.h_eq,Plan.h_eq,Query.h_eq,TDecl.h_eq,Tm.h_eq,Ty.h_eq,Typing.h_eq,Val.h_eq,beq_self_eq_true,Bool.not_true,br_false]
theorem p_eqGenS(nf:Nat)(x:List Gen)(h:8*(szL zGen x)+0<nf)(hn:nf<=2147483647):m_Zaf nf x x=some true:=by
 have hal:x.length<=szL zGen x:=by unfold szL;omega
 simp only[m_Zaf_eq,beq_self_eq_true,Bool.not_true,br_false,mark_eq]
 refine for_loop (fun m i (_:Unit)=>l14_Zaf nf m x x i) x.length (fun _=>()) (some true) (fun m i hi=> ?_) (fun m=> ?_) nf (by omega)
 ·have hz:=szL_at zGen x hi Gen.zero
  have c0:(i:Int)<(x.length:Int):=by omega
  have c1:0<=(i:Int)∧(i:Int)<(x.length:Int):=by omega
  have he:=p_eqGen nf (gt x (i:Int) Gen.zero) (by omega) (by omega)
  simp only[l14_Zaf_eq,br_pos c0,gg_pos c1,he,cb_some,Comp.h_eq,FComp.h_eq,Head.h_eq,Plan.h_eq,Query.h_eq,TDecl.h_eq,Tm.h_eq,Ty.h_eq,Typing.h_eq,Val.h_eq,Bool.not_true,br_false,mark_eq,w64_nat (n:=i) (by omega)]
 ·have c0:¬(x.length:Int)<(x.length:Int):=by omega
  simp only[l14_Zaf_eq,br_neg c0]
end Go.Q
