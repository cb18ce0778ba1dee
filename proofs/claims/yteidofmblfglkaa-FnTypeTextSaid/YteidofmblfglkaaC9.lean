/- The law of the text of a type. -/
import Derived.Test.YteidofmblfglkaaC7
import Derived.Test.YteidofmblfglkaaC1
import Derived.Test.YteidofmblfglkaaProg
import Derived.KernelRfl
set_option linter.unusedVariables false
set_option linter.unusedSimpArgs false
namespace Go.Q
open Go.Proofs
set_option maxRecDepth 20000
set_option maxHeartbeats 4000000
def ir_ZW:C:=.sq (.rg [.mv 6 (.s [])]) (.sq (.rg [.mv 8 T0,.mv 9 T1,.ln 10 true T9,.bi 11 .add T10 (.i 1),.cq (some 12) 49 [(T8,.q),(T11,.v kI)],.mv 7 T12]) (.sq (.sq (.rg [.mv 13 T0,.cq (some 14) 49 [(T13,.q),((.i 6),.v kI)]]) (.bk 0 (.sq (.rg [.bi 16 .eql T14 (.i 0),.mv 15 T16]) (.cd T15 (.sq (.dq [0] [0,1,2,7] 22 [.mv 17 T1,.mv 18 T7,.sx 19 T17 none (some T18),.mv 20 T0,.mv 21 T2,.cq (some 22) 48 [(T20,.q),(T21,.v (kL kS))],.bi 23 .add T19 T22,.mv 24 T1,.mv 25 T7,.sx 26 T24 (some T25) none] [.bi 27 .add T23 T26,.mv 6 T27]) .rt) (.sq (.rg [.bi 29 .eql T14 (.i 1),.mv 28 T29]) (.cd T28 (.sq (.rg [.mv 30 T1,.mv 31 T7,.sx 32 T30 none (some T31),.mv 6 T32]) .rt) .skip)))))) (.sq (.rg [.mv 33 T1,.mv 6 T33]) .rt)))
noncomputable abbrev T_ZW(nf:Nat):XT:=[e_ZO nf,e_ZU nf]
noncomputable def m_ZW(nf:Nat)(s:Str)(list:List Str)(c_b:List Int)(c_i:Int)(c_h:Int):Option ((Str)×((List Int)×Int×Int×Unit)):=runQ (T_ZW nf) nf [.pt 0 0,.v kS,.v (kL kS)] [.box [.v (kL (.int .u8)),.v kI,.v kI]] [.box [.v (kL (.int .u8)),.v kI,.v kI]] [.t 6 (.v kS)] ir_ZW ((),s,list,()) (c_b,c_i,c_h,())
theorem m_ZW_eq(nf:Nat)(s:Str)(list:List Str)(c_b:List Int)(c_i:Int)(c_h:Int):m_ZW nf s list c_b c_i c_h=(cb (m_ZO nf (w64 ((List.length s:Int)+(1:Int))) c_b c_i c_h) fun r12=>cb (m_ZO nf (6:Int) r12.2.1 r12.2.2.1 r12.2.2.2.1) fun r14=>br (r14.1==(0:Int)) (gg (0<=(0:Int)∧(0:Int)<=r12.1∧r12.1<=(List.length s:Int))<|cb (m_ZU nf list r14.2.1 r14.2.2.1 r14.2.2.2.1) fun r22=>gg (List.length (List.drop (Int.toNat (0:Int)) (List.take (Int.toNat r12.1) s))+List.length r22.1<=9223372036854775807)<|gg (0<=r12.1∧r12.1<=(List.length s:Int)∧(List.length s:Int)<=(List.length s:Int))<|gg (List.length ((List.drop (Int.toNat (0:Int)) (List.take (Int.toNat r12.1) s))++r22.1)+List.length (List.drop (Int.toNat r12.1) (List.take (Int.toNat (List.length s:Int)) s))<=9223372036854775807)<|some ((((List.drop (Int.toNat (0:Int)) (List.take (Int.toNat r12.1) s))++r22.1)++(List.drop (Int.toNat r12.1) (List.take (Int.toNat (List.length s:Int)) s))),(r22.2.1,r22.2.2.1,r22.2.2.2.1,()))) (br (r14.1==(1:Int)) (gg (0<=(0:Int)∧(0:Int)<=r12.1∧r12.1<=(List.length s:Int))<|some ((List.drop (Int.toNat (0:Int)) (List.take (Int.toNat r12.1) s)),(r14.2.1,r14.2.2.1,r14.2.2.2.1,()))) (some (s,(r14.2.1,r14.2.2.1,r14.2.2.2.1,()))))):=by kernel_rfl
noncomputable def e_ZW(nf:Nat):XE:=eQ 65 [.pt 0 0,.v kS,.v (kL kS)] [.v kS] [.box [.v (kL (.int .u8)),.v kI,.v kI]] [.box [.v (kL (.int .u8)),.v kI,.v kI]] (fun t u=>m_ZW nf t.2.1 t.2.2.1 u.1 u.2.1 u.2.2.1)
theorem o_ZW(nf:Nat):conOK Try.prog 65 (e_ZW nf).con:=by
 have ih:XT.ok Try.prog (T_ZW nf):=by exact⟨o_ZO nf,o_ZU nf,trivial⟩
 refine eQ_ok fun t u x h=> ?_
 obtain⟨_,s,list,_⟩:=t
 exact runQ_ok (N:=34) ih Try.func65 (by kernel_rfl) rfl rfl rfl rfl rfl h
def ir_ZH:C:=.sq (.rg [.al 2 (kR 0)]) (.sq (.rg [.mv 3 T0,.ca (some 4) 35 [(T3,.v (kL (.int .u8)))],.cq (some 5) 34 [(T4,.q)],.st T2 T5 (kR 0)]) .rt)
noncomputable abbrev T_ZH(nf:Nat):XT:=[e_ZS nf,e_ZY nf]
noncomputable def m_ZH(nf:Nat)(code:List Int):Option (Ty):=runF (T_ZH nf) nf [.v (kL (.int .u8))] [.c 2 (.v (kR 0))] ir_ZH (code,())
theorem m_ZH_eq(nf:Nat)(code:List Int):m_ZH nf code=(cb (m_ZS nf code) fun r4=>cb (m_ZY nf r4.b r4.i r4.h) fun r5=>some (Ty.h r5.1)):=by kernel_rfl
noncomputable def e_ZH(nf:Nat):XE:=eF 24 [.v (kL (.int .u8))] [.v (kR 0)] (fun t=>m_ZH nf t.1)
theorem o_ZH(nf:Nat):conOK Try.prog 24 (e_ZH nf).con:=by
 have ih:XT.ok Try.prog (T_ZH nf):=by exact⟨o_ZS nf,o_ZY nf,trivial⟩
 refine eF_ok fun t x h=> ?_
 obtain⟨code,_⟩:=t
 exact runF_ok (N:=6) ih Try.func24 (by kernel_rfl) rfl h
def ir_ZI:C:=.sq (.rg [.mv 2 (.s [])]) (.sq (.rg [.mv 4 T0,.ca (some 5) 35 [(T4,.v (kL (.int .u8)))],.mv 3 T5]) (.sq (.rg [.mv 6 T3,.mv 7 T3,.cq (some 8) 34 [(T7,.q)],.cv (some 9) 27 [(T8,.v (kR 0))],.bf 10 kS [(.s [40]),(.s [93]),(.s [123]),(.s [58]),(.s [97]),(.s [73]),(.s [44])],.cq (some 11) 65 [(T6,.q),(T9,.v kS),(T10,.v (kL kS))],.mv 2 T11]) .rt))
noncomputable abbrev T_ZI(nf:Nat):XT:=[e_ZS nf,e_ZY nf,e_ZJ nf,e_ZW nf]
noncomputable def m_ZI(nf:Nat)(code:List Int):Option (Str):=runF (T_ZI nf) nf [.v (kL (.int .u8))] [.t 2 (.v kS)] ir_ZI (code,())
theorem m_ZI_eq(nf:Nat)(code:List Int):m_ZI nf code=(cb (m_ZS nf code) fun r5=>cb (m_ZY nf r5.b r5.i r5.h) fun r8=>cb (m_ZJ nf r8.1) fun r9=>cb (m_ZW nf r9 ([([40]:Str),([93]:Str),([123]:Str),([58]:Str),([97]:Str),([73]:Str),([44]:Str)]:List Str) r8.2.1 r8.2.2.1 r8.2.2.2.1) fun r11=>some r11.1):=by kernel_rfl
noncomputable def e_ZI(nf:Nat):XE:=eF 29 [.v (kL (.int .u8))] [.v kS] (fun t=>m_ZI nf t.1)
theorem o_ZI(nf:Nat):conOK Try.prog 29 (e_ZI nf).con:=by
 have ih:XT.ok Try.prog (T_ZI nf):=by exact⟨o_ZS nf,o_ZY nf,o_ZJ nf,o_ZW nf,trivial⟩
 refine eF_ok fun t x h=> ?_
 obtain⟨code,_⟩:=t
 exact runF_ok (N:=12) ih Try.func29 (by kernel_rfl) rfl h
def ir_ZC:C:=.sq (.rg [.mv 2 (.b false)]) (.sq (.rg [.mv 3 T0,.ln 4 false T3,.bi 5 .gtr T4 (.i 1048576),.mv 2 T5]) .rt)
noncomputable abbrev T_ZC(nf:Nat):XT:=[]
noncomputable def m_ZC(nf:Nat)(code:List Int):Option (Bool):=runF (T_ZC nf) nf [.v (kL (.int .u8))] [.t 2 (.v .bool)] ir_ZC (code,())
theorem m_ZC_eq(nf:Nat)(code:List Int):m_ZC nf code=(some (decide ((1048576:Int)<(List.length code:Int)))):=by kernel_rfl
noncomputable def e_ZC(nf:Nat):XE:=eF 6 [.v (kL (.int .u8))] [.v .bool] (fun t=>m_ZC nf t.1)
theorem o_ZC(nf:Nat):conOK Try.prog 6 (e_ZC nf).con:=by
 have ih:XT.ok Try.prog (T_ZC nf):=by exact trivial
 refine eF_ok fun t x h=> ?_
 obtain⟨code,_⟩:=t
 exact runF_ok (N:=6) ih Try.func6 (by kernel_rfl) rfl h
def c24_ZB:C:=.sq (.rg [.mv 42 T0,.cv (some 43) 29 [(T42,.v (kL (.int .u8)))],.mv 7 T43]) (.sq (.rg [.mv 45 T7,.ca (some 46) 26 [(T45,.v kS)],.mv 44 T46,.xt 47 T44 0,.xt 48 T44 1,.al 8 (kR 0),.st T8 T47 (kR 0),.mv 9 T48]) (.sq (.rg [.mv 50 T7,.ca (some 51) 30 [(T50,.v kS)],.mv 49 T51,.xt 52 T49 0,.xt 53 T49 1,.al 10 (kR 0),.st T10 T52 (kR 0),.mv 11 T53]) (.sq (.rg [.mv 54 T9,.mv 55 T11,.be 56 false T54 T55,.mv 57 T56,.g 57 true (.mv 58 T9),.g 57 true (.un 59 .not T58),.g 57 true (.mv 60 T59),.g 60 false (.ld 61 T8 (kR 0)),.g 60 false (.cv (some 62) 25 [(T61,.v (kR 0))]),.g 60 false (.mv 63 T7),.g 60 false (.bi 64 .eql T62 T63),.g 57 true (.pk 65 T60 (.b true) T64),.pk 66 T57 T65 (.b false),.mv 2 T66]) .rt)))
def c19_ZB:C:=.cd T41 (.sq (.rg [.mv 2 (.b false)]) .rt) .skip
def w19_ZB:C:=.kp [0,41] [] c19_ZB
def ir_ZB:C:=.sq (.rg [.mv 2 (.b false)]) (.sq (.sq (.rg [.mv 12 T0,.cv (some 13) 6 [(T12,.v (kL (.int .u8)))]]) (.cd T13 (.sq (.rg [.mv 2 (.b true)]) .rt) .skip)) (.sq (.rg [.mv 14 T0,.cv (some 15) 24 [(T14,.v (kL (.int .u8)))],.al 3 (kR 0),.st T3 T15 (kR 0)]) (.sq (.rg [.ld 16 T3 (kR 0),.cv (some 17) 25 [(T16,.v (kR 0))],.mv 4 T17]) (.sq (.rg [.mv 19 T4,.ca (some 20) 26 [(T19,.v kS)],.mv 18 T20,.xt 21 T18 0,.xt 22 T18 1,.al 5 (kR 0),.st T5 T21 (kR 0),.mv 6 T22]) (.sq (.sq (.rg [.mv 23 T4,.ld 24 T3 (kR 0),.cv (some 25) 27 [(T24,.v (kR 0))],.bi 26 .neq T23 T25,.mv 27 T26,.g 27 false (.mv 28 T6),.g 27 false (.ld 29 T3 (kR 0)),.g 27 false (.cv (some 30) 28 [(T29,.v (kR 0))]),.g 27 false (.be 31 true T28 T30),.pk 32 T27 (.b true) T31,.mv 33 T32,.g 33 false (.mv 34 T6),.g 33 false (.mv 35 T34),.g 35 true (.ld 36 T5 (kR 0)),.g 35 true (.ld 37 T3 (kR 0)),.g 35 true (.cv (some 38) 19 [(T36,.v (kR 0)),(T37,.v (kR 0))]),.g 35 true (.un 39 .not T38),.g 33 false (.pk 40 T35 T39 (.b false)),.pk 41 T33 (.b true) T40]) w19_ZB) c24_ZB)))))
noncomputable abbrev T_ZB(nf:Nat):XT:=[e_ZC nf,e_ZH nf,e_Ze nf,e_Zh nf,e_ZJ nf,e_ZL nf,e_Zd nf,e_ZI nf,e_ZN nf]
noncomputable def m_ZB(nf:Nat)(code:List Int):Option (Bool):=runF (T_ZB nf) nf [.v (kL (.int .u8))] [.t 2 (.v .bool)] ir_ZB (code,())
noncomputable def X_ZB{R:Type}(nf:Nat):C->Env->(Xt->Env->Option R)->Option R:=xc (R:=R) (T_ZB nf).S nf
noncomputable def j19_ZB(nf:Nat)(code:List Int)(x41_19:Bool):Option (Bool):=X_ZB nf c19_ZB ⟨[(0,.v (kL (.int .u8)) code),(41,.v .bool x41_19)],[]⟩ (qS (X_ZB nf c24_ZB) (KF [.t 2 (.v .bool)]))
theorem j19_ZB_eq(nf:Nat)(code:List Int)(x41_19:Bool):j19_ZB nf code x41_19=(br x41_19 (some false) (cb (m_ZI nf code) fun r43=>cb (m_Zh nf r43) fun r46=>cb (m_ZN nf r43) fun r51=>br ((r46.2==r51.2)==true) (br ((!r46.2)==false) (cb (m_Ze nf (Ty.h r46.1)) fun r62=>some (r62==r43)) (some true)) (some false))):=by kernel_rfl
theorem m_ZB_eq(nf:Nat)(code:List Int):m_ZB nf code=(cb (m_ZC nf code) fun r13=>br r13 (some true) (cb (m_ZH nf code) fun r15=>cb (m_Ze nf (Ty.h r15)) fun r17=>cb (m_Zh nf r17) fun r20=>cb (m_ZJ nf (Ty.h r15)) fun r25=>br ((!(r17==r25))==false) (cb (m_ZL nf (Ty.h r15)) fun r30=>br ((!(r20.2==r30))==false) (br (r20.2==true) (cb (m_Zd nf nf (Ty.h r20.1) (Ty.h r15)) fun r38=>mark (j19_ZB nf code (!r38))) (mark (j19_ZB nf code false))) (mark (j19_ZB nf code true))) (mark (j19_ZB nf code true)))):=by
 conv=>lhs;unfold m_ZB
 unfold j19_ZB ir_ZB w19_ZB c24_ZB
 generalize c19_ZB=x0
 revert x0
 refine id ?_
 intro x0
 kernel_rfl
noncomputable def e_ZB(nf:Nat):XE:=eF 4 [.v (kL (.int .u8))] [.v .bool] (fun t=>m_ZB nf t.1)
theorem o_ZB(nf:Nat):conOK Try.prog 4 (e_ZB nf).con:=by
 have ih:XT.ok Try.prog (T_ZB nf):=by exact⟨o_ZC nf,o_ZH nf,o_Ze nf,o_Zh nf,o_ZJ nf,o_ZL nf,o_Zd nf,o_ZI nf,o_ZN nf,trivial⟩
 refine eF_ok fun t x h=> ?_
 obtain⟨code,_⟩:=t
 exact runF_ok (N:=67) ih Try.func4 (by kernel_rfl) rfl h
end Go.Q
