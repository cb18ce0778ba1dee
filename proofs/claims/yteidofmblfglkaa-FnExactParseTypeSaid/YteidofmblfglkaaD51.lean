/- The families: equal values. -/
import Derived.Test.YteidofmblfglkaaQe
import Derived.Test.YteidofmblfglkaaC5
set_option linter.unusedVariables false
set_option linter.unusedSimpArgs false
set_option maxHeartbeats 1000000
namespace Go.Q
theorem p_eqStringS(nf:Nat)(a:List Str)(h:a.length<nf)(hb:nf<=2147483647):m_ZB nf a a=some true:=by
 simp only[m_ZB_eq,beq_self_eq_true,Bool.not_true,br_false,mark_eq]
 refine for_loop (fun m i (_:Unit)=>l14_ZB nf m a a i) a.length (fun _=>()) (some true) (fun m i hi=> ?_) (fun m=> ?_) nf h
 ·have c0:(i:Int)<(a.length:Int):=by omega
  have c1:0<=(i:Int)∧(i:Int)<(a.length:Int):=by omega
  simp only[l14_ZB_eq,br_pos c0,gg_pos c1,beq_self_eq_true,Bool.not_true,br_false,mark_eq,w64_nat (n:=i) (by omega)]
 ·have c0:¬(a.length:Int)<(a.length:Int):=by omega
  simp only[l14_ZB_eq,br_neg c0]
theorem g_eq_Type(nf:Nat)(hn:nf<=2147483647):∀kf:Nat,(∀x:List Ty,8*(szL zTy x)+0<kf->8*(szL zTy x)+0<nf->m_ZD nf kf x x=some true)∧(∀x:Ty,8*(zTy x)+1<kf->8*(zTy x)+1<nf->m_ZC nf kf x x=some true)
 |0=>⟨fun x h=>absurd h (Nat.not_lt_zero _),fun x h=>absurd h (Nat.not_lt_zero _)⟩
 |kf+1=>by
  obtain⟨ih0,ih1⟩:=g_eq_Type nf hn kf
  refine⟨?_,?_⟩
  ·intro x h h'
   have hal:x.length<=szL zTy x:=by unfold szL;omega
   simp only[m_ZD_eq,beq_self_eq_true,Bool.not_true,br_false,mark_eq]
   refine for_loop (fun m i (_:Unit)=>l14_ZD nf (kf+1) m x x i) x.length (fun _=>()) (some true) (fun m i hi=> ?_) (fun m=> ?_) nf (by omega)
   ·have hz:=szL_at zTy x hi Ty.zero
    have c0:(i:Int)<(x.length:Int):=by omega
    have c1:0<=(i:Int)∧(i:Int)<(x.length:Int):=by omega
    have he:=ih1 (gt x (i:Int) Ty.zero) (by omega) (by omega)
    simp only[l14_ZD_eq,br_pos c0,gg_pos c1,he,cb_some,Comp.h_eq,FComp.h_eq,Head.h_eq,Plan.h_eq,Query.h_eq,TDecl.h_eq,Tm.h_eq,Ty.h_eq,Typing.h_eq,Val.h_eq,Bool.not_true,br_false,mark_eq,w64_nat (n:=i) (by omega)]
   ·have c0:¬(x.length:Int)<(x.length:Int):=by omega
    simp only[l14_ZD_eq,br_neg c0]
  ·intro x h h'
   have hz:=zTy_f x
   have l1:x.labels.length<=szL List.length x.labels:=by unfold szL;omega
   have e1:=p_eqStringS nf x.labels (by omega) (by omega)
   have e2:=ih0 x.args (by omega) (by omega)
   simp only[m_ZC_eq,e1,e2,cb_some,Comp.h_eq,FComp.h_eq,Head.h_eq,Plan.h_eq,Query.h_eq,TDecl.h_eq,Tm.h_eq,Ty.h_eq,Typing.h_eq,Val.h_eq,beq_self_eq_true,Bool.not_true,br_false]
theorem p_eqType(nf:Nat)(x:Ty)(h:8*(zTy x)+1<nf)(hn:nf<=2147483647):m_ZC nf nf x x=some true:=(g_eq_Type nf hn nf).2 x h h
end Go.Q
