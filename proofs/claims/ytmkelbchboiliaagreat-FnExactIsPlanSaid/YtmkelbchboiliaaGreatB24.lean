/- The law of plans. -/
import Derived.Test.YtmkelbchboiliaaGreatB21
import Derived.Test.YtmkelbchboiliaaGreatProg
import Derived.KernelRfl
set_option linter.unusedVariables false
set_option linter.unusedSimpArgs false
namespace Go.Q
open Go.Proofs
set_option maxRecDepth 20000
set_option maxHeartbeats 4000000
def ir_ZY:C:=.sq (.rg [.bx 2 T0 (kR 5),.bx 3 T1 (kR 17),.mv 4 (.b false)]) (.sq (.rg [.mv 5 (.i 1048576)]) (.sq (.rg [.ld 10 T2 (kR 5),.mv 11 T5,.cv (some 12) 6 [(T10,.v (kR 5)),(T11,.v kI)],.mv 5 T12]) (.sq (.sq (.rg [.mv 13 T5,.bi 14 .lss T13 (.i 0)]) (.cd T14 (.sq (.rg [.mv 4 (.b true)]) .rt) .skip)) (.sq (.rg [.ld 15 T3 (kR 17),.mv 16 T5,.cv (some 17) 7 [(T15,.v (kR 17)),(T16,.v kI)],.mv 5 T17]) (.sq (.sq (.rg [.mv 18 T5,.bi 19 .lss T18 (.i 0)]) (.cd T19 (.sq (.rg [.mv 4 (.b true)]) .rt) .skip)) (.sq (.dr [] [.ld 20 T2 (kR 5),.cv (some 21) 9 [(T20,.v (kR 5))],.ld 22 T3 (kR 17)] [.cv (some 23) 10 [(T22,.v (kR 17))],.cv (some 24) 8 [(T21,.v (kR 5)),(T23,.v (kR 17))],.mv 6 T24]) (.sq (.rg [.ld 25 T2 (kR 5),.cv (some 26) 9 [(T25,.v (kR 5))],.al 7 (kR 5),.st T7 T26 (kR 5)]) (.sq (.rg [.ld 27 T3 (kR 17),.cv (some 28) 10 [(T27,.v (kR 17))],.al 8 (kR 17),.st T8 T28 (kR 17)]) (.sq (.rg [.ld 29 T7 (kR 5),.ld 30 T8 (kR 17),.cv (some 31) 11 [(T29,.v (kR 5)),(T30,.v (kR 17))],.mv 9 T31]) (.sq (.sq (.rg [.mv 32 T9,.mv 33 T6,.be 34 true T32 T33]) (.cd T34 (.sq (.rg [.mv 4 (.b false)]) .rt) .skip)) (.sq (.sq (.dr [] [.ld 35 T7 (kR 5),.ld 36 T2 (kR 5),.cv (some 37) 9 [(T36,.v (kR 5))]] [.cv (some 38) 12 [(T35,.v (kR 5)),(T37,.v (kR 5))],.un 39 .not T38]) (.cd T39 (.sq (.rg [.mv 4 (.b false)]) .rt) .skip)) (.sq (.sq (.dr [] [.ld 40 T8 (kR 17),.ld 41 T3 (kR 17),.cv (some 42) 10 [(T41,.v (kR 17))]] [.cv (some 43) 13 [(T40,.v (kR 17)),(T42,.v (kR 17))],.un 44 .not T43]) (.cd T44 (.sq (.rg [.mv 4 (.b false)]) .rt) .skip)) (.sq (.rg [.mv 4 (.b true)]) .rt)))))))))))))
noncomputable abbrev T_ZY(nf:Nat):XT:=[e_Zal nf,e_Zaj nf,e_Zav nf,e_Zat nf,e_ZaR nf,e_Zl nf,e_Zab nf,e_ZZ nf]
noncomputable def m_ZY(nf:Nat)(a:Schema)(b:Plan):Option (Bool):=runF (T_ZY nf) nf [.v (kR 5),.v (kR 17)] [.t 4 (.v .bool)] ir_ZY (a,b,())
theorem m_ZY_eq(nf:Nat)(a:Schema)(b:Plan):m_ZY nf a b=(cb (m_Zal nf a (1048576:Int)) fun r12=>br (decide (r12<(0:Int))) (some true) (cb (m_Zaj nf nf (Plan.h b) r12) fun r17=>br (decide (r17<(0:Int))) (some true) (cb (m_Zav nf a) fun r21=>cb (m_Zat nf nf (Plan.h b)) fun r23=>cb (m_ZaR nf r21 r23) fun r24=>cb (m_Zav nf a) fun r26=>cb (m_Zat nf nf (Plan.h b)) fun r28=>cb (m_Zl nf r26 (Plan.h r28)) fun r31=>br (!(r31==r24)) (some false) (cb (m_Zav nf a) fun r37=>cb (m_Zab nf r26 r37) fun r38=>br (!r38) (some false) (cb (m_Zat nf nf (Plan.h b)) fun r42=>cb (m_ZZ nf nf (Plan.h r28) r42) fun r43=>br (!r43) (some false) (some true)))))):=by kernel_rfl
noncomputable def e_ZY(nf:Nat):XE:=eF 3 [.v (kR 5),.v (kR 17)] [.v .bool] (fun t=>m_ZY nf t.1 t.2.1)
theorem o_ZY(nf:Nat):conOK Tryz.prog 3 (e_ZY nf).con:=by
 have ih:XT.ok Tryz.prog (T_ZY nf):=by exact⟨o_Zal nf,o_Zaj nf,o_Zav nf,o_Zat nf,o_ZaR nf,o_Zl nf,o_Zab nf,o_ZZ nf,trivial⟩
 refine eF_ok fun t x h=> ?_
 obtain⟨a,b,_⟩:=t
 exact runF_ok (N:=45) ih Tryz.func3 (by kernel_rfl) rfl h
end Go.Q
