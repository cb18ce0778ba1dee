/- Copies are what was copied. -/
import Derived.Test.YteidofmblfglkaaQe
import Derived.Test.YteidofmblfglkaaC3
set_option linter.unusedVariables false
set_option linter.unusedSimpArgs false
set_option maxHeartbeats 1000000
namespace Go.Q
theorem p_l3Copy(nf:Nat):∀(kf:Nat) (t:Ty),8*zTy t+1<kf->8*zTy t+1<nf->zTy t<=16777216->m_Zaa nf kf t=some t
 |0,t,h,_,_=>absurd h (Nat.not_lt_zero _)
 |kf+1,t,h,h',hb=>by
  have hz:=zTy_f t
  have l1:t.labels.length<=szL List.length t.labels:=by unfold szL;omega
  have l2:t.args.length<=szL zTy t.args:=by unfold szL;omega
  have e1:t.labels.length<=33554432:=by omega
  rw[m_Zaa_eq]
  simp only[gg_pos e1,Ty.h_eq,Tm.h_eq,mark_eq]
  refine for_loop (fun m i s=>l8_Zaa nf (kf+1) m t i s) t.args.length (fun i=>t.args.take i) (some t) (fun m i hi=> ?_) (fun m=> ?_) nf (by omega)
  ·have c0:(i:Int)<(t.args.length:Int):=by omega
   have c1:0<=(i:Int)∧(i:Int)<(t.args.length:Int):=by omega
   have hs:=szL_at zTy t.args hi Ty.zero
   have e:=p_l3Copy nf kf (gt t.args (i:Int) Ty.zero) (by omega) (by omega) (by omega)
   have g:List.length (t.args.take i)+List.length [gt t.args (i:Int) Ty.zero]<=33554432:=by rw[List.length_take];simp only[List.length_cons,List.length_nil];omega
   simp only[l8_Zaa_eq,br_pos c0,gg_pos c1,Ty.h_eq,Tm.h_eq,e,cb_some,gg_pos g,mark_eq,w64_nat (n:=i) (by omega),take_gt t.args hi Ty.zero]
  ·have c0:¬(t.args.length:Int)<(t.args.length:Int):=by omega
   simp only[l8_Zaa_eq,br_neg c0,List.take_length,Ty.h_eq,Tm.h_eq,Ty.eta]
end Go.Q
