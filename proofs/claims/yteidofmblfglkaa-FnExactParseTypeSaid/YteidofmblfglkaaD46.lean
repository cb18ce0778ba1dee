/- FnExactParseType answers true, in plain terms. -/
import Derived.Test.YteidofmblfglkaaD45
import Derived.Test.YteidofmblfglkaaD53
import Derived.Test.YteidofmblfglkaaC8
set_option linter.unusedVariables false
set_option linter.unusedSimpArgs false
set_option maxHeartbeats 1000000
namespace Go.Q
open Go.Proofs Go.RowKit
theorem p_law(a:Str)(hr:Rd kS a):m_ZA 1073741824 a=some true:=by
 rw[m_ZA_eq]
 by_cases c:(1048576:Int)<(a.length:Int)
 ·rw[br_pos c]
 rw[br_neg c]
 obtain⟨W,e1,e2,hz,_,_⟩:=p_parse 1073741824 (by omega) a (by omega)
 have e5:=p_eqType 1073741824 W.1 (by omega) (by omega)
 have hcW:=cTy_le W.1
 have hcWf:=cTy_f W.1
 obtain⟨w1,w2⟩:=mh_Ty3 1073741824 (by omega) (by omega) W.1 1 (by omega) (by omega) (by omega)
 have n2:¬((1:Int)+(cSs W.1.labels:Nat)+(cTys W.1.args:Nat))<0:=by omega
 have h51:j51_ZA 1073741824 ((1:Int)+(cSs W.1.labels:Nat)+(cTys W.1.args:Nat),fSs W.1.labels 1,fTys W.1.args (1+(cSs W.1.labels:Nat))) W false=some true:=by
  rw[j51_ZA_eq,br_false,w2,cb_some,br_neg n2,beq_self_eq_true,Bool.not_true,br_false]
 have h17:j17_ZA 1073741824 a W W false=some true:=by
  rw[j17_ZA_eq,br_false,w1,cb_some,w2,cb_some,br_neg n2,beq_self_eq_true,Bool.not_true,br_false,e2,cb_some,Ty.h_eq,e5,cb_some,Bool.not_true,show(false==false)=true from rfl,br_true,mark_eq,beq_self_eq_true,Bool.not_true]
  exact h51
 rw[e1,cb_some,e2,cb_some,Ty.h_eq,e5,cb_some,Bool.not_true,show(false==false)=true from rfl,br_true,mark_eq,beq_self_eq_true,Bool.not_true]
 exact h17
end Go.Q
