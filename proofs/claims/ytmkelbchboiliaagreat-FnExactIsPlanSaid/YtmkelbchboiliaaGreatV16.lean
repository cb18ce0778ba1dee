/- FnExactIsPlan answers true, in plain terms. -/
import Derived.Test.YtmkelbchboiliaaGreatV15
import Derived.Test.YtmkelbchboiliaaGreatB24
set_option linter.unusedVariables false
set_option linter.unusedSimpArgs false
set_option maxHeartbeats 1000000
namespace Go.Q
theorem p_law(a:Schema)(b:Plan)(hra:Rd (kR 5) a)(hrb:Rd (kR 17) b):m_ZY 1073741824 a b=some true:=by
 obtain⟨r,e1,q1,q2,q3⟩:=p_szSchema 1073741824 a 1048576 hra (by omega) (by omega) (by omega)
 rw[m_ZY_eq,e1,cb_some]
 by_cases h0:r<0
 ·rw[br_pos h0]
 rw[br_neg h0]
 obtain⟨r2,e1',q1',q2',q3'⟩:=p_szPlan 1073741824 b r hrb (by omega) (by omega) (by omega)
 rw[Plan.h_eq,e1',cb_some]
 by_cases h0':r2<0
 ·rw[br_pos h0']
 rw[br_neg h0']
 have hz:zSchema a<=1048576:=by omega
 have hzb:zPlan b<=1048576:=by omega
 have hO:Ok 1073741824 a b:=⟨by omega,by omega,by omega,by omega,by omega⟩
 have e2:=p_toSchema 1073741824 a (by omega) (by omega)
 have e2':=p_toPlan 1073741824 b (by omega) (by omega)
 have e3:=p_specIsPlan 1073741824 a b hO
 have e4:=p_implIsPlan 1073741824 a b hO
 have e6:=p_eqSchema 1073741824 a (by omega) (by omega)
 have e6':=p_eqPlan 1073741824 b (by omega) (by omega)
 rw[e2,cb_some,e2',cb_some,e3,cb_some,cb_some,cb_some,Plan.h_eq,e4,cb_some,beq_self_eq_true,Bool.not_true,br_false,cb_some,e6,cb_some,Bool.not_true,br_false,cb_some,e6',cb_some]
 rfl
end Go.Q
