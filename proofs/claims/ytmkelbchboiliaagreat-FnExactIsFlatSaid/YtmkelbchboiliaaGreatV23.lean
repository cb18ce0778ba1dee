/- FnExactIsFlat answers true, in plain terms. -/
import Derived.Test.YtmkelbchboiliaaGreatV22
import Derived.Test.YtmkelbchboiliaaGreatA7r
import Derived.Test.YtmkelbchboiliaaGreatB30
set_option linter.unusedVariables false
set_option linter.unusedSimpArgs false
set_option maxHeartbeats 1000000
namespace Go.Q
theorem p_law(a:Schema)(b:FQuery)(c:Ty)(hra:Rd (kR 5) a)(hrb:Rd (kR 13) b)(hrc:Rd (kR 0) c):m_Zaa 1073741824 a b c=some true:=by
 obtain⟨r,e1,q1,q2,q3⟩:=p_szSchema 1073741824 a 1048576 hra (by omega) (by omega) (by omega)
 rw[m_Zaa_eq,e1,cb_some]
 by_cases h0:r<0
 ·rw[br_pos h0]
 rw[br_neg h0]
 obtain⟨r2,e1',q1',q2',q3'⟩:=p_szFlatQuery 1073741824 b r hrb (by omega) (by omega) (by omega)
 rw[e1',cb_some]
 by_cases h0':r2<0
 ·rw[br_pos h0']
 rw[br_neg h0']
 obtain⟨r3,e1'',q1'',q2'',q3''⟩:=p_szType 1073741824 c r2 hrc (by omega) (by omega) (by omega)
 rw[Ty.h_eq,e1'',cb_some]
 by_cases h0'':r3<0
 ·rw[br_pos h0'']
 rw[br_neg h0'']
 have hz:zSchema a<=1048576:=by omega
 have hzb:zFQuery b<=1048576:=by omega
 have hzc:zTy c<=1048576:=by omega
 have e2:=p_toSchema 1073741824 a (by omega) (by omega)
 have e2':=p_toFlatQuery 1073741824 b (by omega) (by omega)
 have e2'':=p_toType 1073741824 c (by omega) (by omega)
 obtain⟨x,e4,e3⟩:=p_IsFlat 1073741824 (by omega) a b c (by omega) (by omega) (by omega) (by omega) (by omega) (by omega)
 have e6:=p_eqSchema 1073741824 a (by omega) (by omega)
 have e6':=p_eqFlatQuery 1073741824 b (by omega) (by omega)
 have e6'':=p_eqType 1073741824 c (by omega) (by omega)
 rw[e2,cb_some,e2',cb_some,e2'',cb_some,e3,cb_some,cb_some,cb_some,cb_some,Ty.h_eq,e4,cb_some,beq_self_eq_true,Bool.not_true,br_false,cb_some,e6,cb_some,Bool.not_true,br_false,cb_some,e6',cb_some,Bool.not_true,br_false,cb_some,e6'',cb_some]
 rfl
end Go.Q
