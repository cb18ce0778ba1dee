/- The law of ParseType. -/
import Derived.Test.YteidofmblfglkaaC7
import Derived.Test.YteidofmblfglkaaC5
import Derived.Test.YteidofmblfglkaaProg
import Derived.KernelRfl
set_option linter.unusedVariables false
set_option linter.unusedSimpArgs false
namespace Go.Q
open Go.Proofs
set_option maxRecDepth 20000
set_option maxHeartbeats 4000000
def c56_ZA:C:=.sq (.rg [.mv 8 (.i 1)]) (.sq (.rg [.ld 58 T5 (kR 0),.mv 59 T8,.cv (some 60) 33 [(T58,.v (kR 0)),(T59,.v kI)],.mv 8 T60]) (.sq (.sq (.rg [.mv 61 T8,.bi 62 .lss T61 (.i 0)]) (.cd T62 (.sq (.rg [.mv 2 (.b false)]) .rt) .skip)) (.sq (.sq (.rg [.mv 63 T8,.mv 64 T7,.bi 65 .neq T63 T64]) (.cd T65 (.sq (.rg [.mv 2 (.b false)]) .rt) .skip)) (.sq (.rg [.mv 2 (.b true)]) .rt))))
def c51_ZA:C:=.cd T57 (.sq (.rg [.mv 2 (.b false)]) .rt) .skip
def w51_ZA:C:=.kp [5,7,57] [[5],[21,0,1],[21,0,2]] c51_ZA
def c22_ZA:C:=.sq (.rg [.mv 7 (.i 1)]) (.sq (.rg [.ld 33 T5 (kR 0),.mv 34 T7,.cq (some 35) 32 [(T33,.q),(T34,.v kI)],.mv 7 T35]) (.sq (.rg [.mv 8 (.i 1)]) (.sq (.rg [.ld 36 T5 (kR 0),.mv 37 T8,.cv (some 38) 33 [(T36,.v (kR 0)),(T37,.v kI)],.mv 8 T38]) (.sq (.sq (.rg [.mv 39 T8,.bi 40 .lss T39 (.i 0)]) (.cd T40 (.sq (.rg [.mv 2 (.b false)]) .rt) .skip)) (.sq (.sq (.rg [.mv 41 T8,.mv 42 T7,.bi 43 .neq T41 T42]) (.cd T43 (.sq (.rg [.mv 2 (.b false)]) .rt) .skip)) (.sq (.rg [.mv 45 T0,.ca (some 46) 26 [(T45,.v kS)],.mv 44 T46,.xt 47 T44 0,.xt 48 T44 1,.al 9 (kR 0),.st T9 T47 (kR 0),.mv 10 T48]) (.sq (.sq (.rg [.ld 49 T9 (kR 0),.ld 50 T3 (kR 0),.cv (some 51) 31 [(T49,.v (kR 0)),(T50,.v (kR 0))],.un 52 .not T51,.mv 53 T52,.g 53 false (.mv 54 T10),.g 53 false (.mv 55 T4),.g 53 false (.be 56 true T54 T55),.pk 57 T53 (.b true) T56]) w51_ZA) c56_ZA)))))))
def c17_ZA:C:=.cd T32 (.sq (.rg [.mv 2 (.b false)]) .rt) .skip
def w17_ZA:C:=.kp [0,3,4,5,32] [[3],[5],[16,0,1],[16,0,2],[21,0,1],[21,0,2]] c17_ZA
def ir_ZA:C:=.sq (.rg [.mv 2 (.b false)]) (.sq (.sq (.rg [.mv 11 T0,.ln 12 true T11,.bi 13 .gtr T12 (.i 1048576)]) (.cd T13 (.sq (.rg [.mv 2 (.b true)]) .rt) .skip)) (.sq (.rg [.mv 15 T0,.ca (some 16) 30 [(T15,.v kS)],.mv 14 T16,.xt 17 T14 0,.xt 18 T14 1,.al 3 (kR 0),.st T3 T17 (kR 0),.mv 4 T18]) (.sq (.rg [.mv 20 T0,.ca (some 21) 26 [(T20,.v kS)],.mv 19 T21,.xt 22 T19 0,.xt 23 T19 1,.al 5 (kR 0),.st T5 T22 (kR 0),.mv 6 T23]) (.sq (.sq (.rg [.ld 24 T5 (kR 0),.ld 25 T3 (kR 0),.cv (some 26) 31 [(T24,.v (kR 0)),(T25,.v (kR 0))],.un 27 .not T26,.mv 28 T27,.g 28 false (.mv 29 T6),.g 28 false (.mv 30 T4),.g 28 false (.be 31 true T29 T30),.pk 32 T28 (.b true) T31]) w17_ZA) c22_ZA))))
noncomputable abbrev T_ZA(nf:Nat):XT:=[e_ZR nf,e_Zg nf,e_ZC nf,e_ZJ nf,e_ZF nf]
noncomputable def m_ZA(nf:Nat)(aS:Str):Option (Bool):=runF (T_ZA nf) nf [.v kS] [.t 2 (.v .bool)] ir_ZA (aS,())
noncomputable def X_ZA{R:Type}(nf:Nat):C->Env->(Xt->Env->Option R)->Option R:=xc (R:=R) (T_ZA nf).S nf
noncomputable def j17_ZA(nf:Nat)(aS:Str)(r16:Ty×Bool)(r21:Ty×Bool)(x32_17:Bool):Option (Bool):=X_ZA nf c17_ZA ⟨[(0,.v kS aS),(3,.pt [3] 0),(4,.v .bool r16.2),(5,.pt [5] 0),(32,.v .bool x32_17)],[([3],.box [.v kI r16.1.kind,.sl [16,0,1],.sl [16,0,2]]),([5],.box [.v kI r21.1.kind,.sl [21,0,1],.sl [21,0,2]]),([16,0,1],.row true false kS r16.1.labels),([16,0,2],.row true false (kR 0) r16.1.args),([21,0,1],.row true false kS r21.1.labels),([21,0,2],.row true false (kR 0) r21.1.args)]⟩ (qS (X_ZA nf c22_ZA) (KF [.t 2 (.v .bool)]))
noncomputable def j51_ZA(nf:Nat)(r35:(Int)×(List Str)×(List Ty))(r21:Ty×Bool)(x57_51:Bool):Option (Bool):=X_ZA nf c51_ZA ⟨[(5,.pt [5] 0),(7,.v kI r35.1),(57,.v .bool x57_51)],[([5],.box [.v kI r21.1.kind,.sl [21,0,1],.sl [21,0,2]]),([21,0,1],.row true false kS r35.2.1),([21,0,2],.row true false (kR 0) r35.2.2)]⟩ (qS (X_ZA nf c56_ZA) (KF [.t 2 (.v .bool)]))
theorem j17_ZA_eq(nf:Nat)(aS:Str)(r16:Ty×Bool)(r21:Ty×Bool)(x32_17:Bool):j17_ZA nf aS r16 r21 x32_17=(br x32_17 (some false) (cb (m_ZJ nf r21.1.kind (1:Int) r21.1.labels r21.1.args) fun r35=>cb (m_ZF nf (Ty.mk r21.1.kind r35.2.1 r35.2.2) (1:Int)) fun r38=>br (decide (r38<(0:Int))) (some false) (br (!(r38==r35.1)) (some false) (cb (m_Zg nf aS) fun r46=>cb (m_ZC nf nf (Ty.h r46.1) (Ty.h r16.1)) fun r51=>br ((!r51)==false) (mark (j51_ZA nf r35 r21 (!(r46.2==r16.2)))) (mark (j51_ZA nf r35 r21 true)))))):=by
 unfold j17_ZA j51_ZA c17_ZA c22_ZA w51_ZA c56_ZA
 generalize c51_ZA=x0
 revert x0
 refine id ?_
 intro x0
 kernel_rfl
theorem j51_ZA_eq(nf:Nat)(r35:(Int)×(List Str)×(List Ty))(r21:Ty×Bool)(x57_51:Bool):j51_ZA nf r35 r21 x57_51=(br x57_51 (some false) (cb (m_ZF nf (Ty.mk r21.1.kind r35.2.1 r35.2.2) (1:Int)) fun r60=>br (decide (r60<(0:Int))) (some false) (br (!(r60==r35.1)) (some false) (some true)))):=by kernel_rfl
theorem m_ZA_eq(nf:Nat)(aS:Str):m_ZA nf aS=(br (decide ((1048576:Int)<(List.length aS:Int))) (some true) (cb (m_ZR nf aS) fun r16=>cb (m_Zg nf aS) fun r21=>cb (m_ZC nf nf (Ty.h r21.1) (Ty.h r16.1)) fun r26=>br ((!r26)==false) (mark (j17_ZA nf aS r16 r21 (!(r21.2==r16.2)))) (mark (j17_ZA nf aS r16 r21 true)))):=by
 conv=>lhs;unfold m_ZA
 unfold j17_ZA ir_ZA w17_ZA c22_ZA w51_ZA c56_ZA
 generalize c17_ZA=x0
 generalize c51_ZA=x1
 revert x0 x1
 refine id ?_
 intro x0 x1
 kernel_rfl
noncomputable def e_ZA(nf:Nat):XE:=eF 5 [.v kS] [.v .bool] (fun t=>m_ZA nf t.1)
theorem o_ZA(nf:Nat):conOK Try.prog 5 (e_ZA nf).con:=by
 have ih:XT.ok Try.prog (T_ZA nf):=by exact⟨o_ZR nf,o_Zg nf,o_ZC nf,o_ZJ nf,o_ZF nf,trivial⟩
 refine eF_ok fun t x h=> ?_
 obtain⟨aS,_⟩:=t
 exact runF_ok (N:=66) ih Try.func5 (by kernel_rfl) rfl h
end Go.Q
