/- FnExactTypeOf answers true, in plain terms. -/
import Derived.Test.YtjogpopbgmjlbaaGreatU10
import Derived.Test.YtjogpopbgmjlbaaGreatB19
import Derived.Test.YtjogpopbgmjlbaaGreatA6y
set_option linter.unusedVariables false
set_option linter.unusedSimpArgs false
set_option maxHeartbeats 1000000
namespace Go.Q
theorem p_law(a:Schema)(b:List Typing)(c:Tm)(hra:Rd (kR 5) a)(hrb:Rd (kL (kR 8)) b)(hrc:Rd (kR 2) c):m_ZW 1073741824 a b c=some true:=by
 obtain⟨r,e1,q1,q2,q3⟩:=p_szSchema 1073741824 a 1048576 hra (by omega) (by omega) (by omega)
 rw[m_ZW_eq,e1,cb_some]
 by_cases h0:r<0
 ·rw[br_pos h0]
 rw[br_neg h0]
 obtain⟨r2,e1',q1',q2',q3'⟩:=p_szTypingS 1073741824 b r hrb (by omega) (by omega) (by omega)
 rw[e1',cb_some]
 by_cases h0':r2<0
 ·rw[br_pos h0']
 rw[br_neg h0']
 obtain⟨r3,e1'',q1'',q2'',q3''⟩:=p_szTerm 1073741824 c r2 hrc (by omega) (by omega) (by omega)
 rw[Tm.h_eq,e1'',cb_some]
 by_cases h0'':r3<0
 ·rw[br_pos h0'']
 rw[br_neg h0'']
 have hz:zSchema a<=1048576:=by omega
 have hzb:szL zTyping b<=1048576:=by omega
 have hzc:zTm c<=1048576:=by omega
 have hzS:=zSchema_f a
 have e2:=p_toSchema 1073741824 a (by omega) (by omega)
 have e2':=p_toTypingS 1073741824 b (by omega) (by omega)
 have e2'':=p_toTerm 1073741824 c (by omega) (by omega)
 have e3:=p_specTypeOf 1073741824 (by omega) a b c (by omega) (by omega) (by omega) (by omega) (by omega) (by omega)
 have e4:=p_implTypeOf 1073741824 (by omega) a b c (by omega) (by omega) (by omega) (by omega) (by omega) (by omega)
 have e6:=p_eqSchema 1073741824 a (by omega) (by omega)
 have e6':=p_eqTypingS 1073741824 b (by omega) (by omega)
 have e6'':=p_eqTerm 1073741824 c (by omega) (by omega)
 have hWz:=typO_z a b c
 generalize ansO (typO a b c)=W at e3 e4 hWz
 have e5:=p_eqType 1073741824 W.1 (by omega) (by omega)
 have hcW:=cTy_le W.1
 have hca:=cTDecls_le a.tables
 have hcb:=cTypings_le b
 have hcc:=cTm_le c
 have k1:=p_markTableDeclS 1073741824 (by omega) (by omega) a.tables 1 (by omega) (by omega) (by omega)
 have k2:=p_markTypingS 1073741824 (by omega) (by omega) b ((1:Int)+(cTDecls a.tables:Nat)) (by omega) (by omega) (by omega)
 obtain⟨k',q,k3,k4,k5⟩:=m_Tm3 1073741824 (by omega) (by omega) c ((1:Int)+(cTDecls a.tables:Nat)+(cTypings b:Nat)) (by omega) (by omega) (by omega)
 obtain⟨w1,w2⟩:=mh_Ty3 1073741824 (by omega) (by omega) W.1 1 (by omega) (by omega) (by omega)
 have hcWf:=cTy_f W.1
 have n1:¬k'<0:=by omega
 have n2:¬((1:Int)+(cSs W.1.labels:Nat)+(cTys W.1.args:Nat))<0:=by omega
 have h121:j121_ZW 1073741824 ((1:Int)+(cSs W.1.labels:Nat)+(cTys W.1.args:Nat),fSs W.1.labels 1,fTys W.1.args (1+(cSs W.1.labels:Nat))) W false=some true:=by
  rw[j121_ZW_eq,br_false,w2,cb_some,br_neg n2,beq_self_eq_true,Bool.not_true,br_false]
 have h87:j87_ZW 1073741824 b W a c W false=some true:=by
  rw[j87_ZW_eq,br_false,w1,cb_some,w2,cb_some,br_neg n2,beq_self_eq_true,Bool.not_true,br_false,e2,cb_some,e2',cb_some,Tm.h_eq,e2'',cb_some,e4,cb_some,Ty.h_eq,e5,cb_some,Bool.not_true,br_ff2,mark_eq,beq_self_eq_true,Bool.not_true]
  exact h121
 have h47:j47_ZW 1073741824 b W W a c b c a false=some true:=by
  rw[j47_ZW_eq,br_false,e2,cb_some,e6,cb_some,Bool.not_true,br_false,e2',cb_some,e6',cb_some,Bool.not_true,br_false,Tm.h_eq,e2'',cb_some,e6'',cb_some,Bool.not_true,br_false,m_Zak_eq,k1,cb_some,cb_some]
  dsimp only
  rw[k2,cb_some]
  dsimp only
  rw[k3,cb_some]
  dsimp only
  rw[decide_eq_false n1,br_ff2,Ty.h_eq,e5,cb_some,Bool.not_true,br_ff2,mark_eq,beq_self_eq_true,Bool.not_true]
  exact h87
 rw[e2,cb_some,e2',cb_some,e2'',cb_some,e3,cb_some,cb_some,cb_some,cb_some,Tm.h_eq,e4,cb_some,Ty.h_eq,e5,cb_some,Bool.not_true,br_ff2,mark_eq,beq_self_eq_true,Bool.not_true]
 exact h47
end Go.Q
