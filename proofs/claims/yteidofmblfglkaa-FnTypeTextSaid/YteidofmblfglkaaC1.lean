/- Draws of types, and types: the reference's side. -/
import Derived.Test.YteidofmblfglkaaQe
import Derived.Test.YteidofmblfglkaaProg
import Derived.KernelRfl
set_option linter.unusedVariables false
set_option linter.unusedSimpArgs false
namespace Go.Q
open Go.Proofs
set_option maxRecDepth 20000
set_option maxHeartbeats 4000000
def c19_Zaa:C:=.sq (.rg [.ld 30 T3 (kR 0),.st T2 T30 (kR 0)]) .rt
def c9_Zaa:C:=.sq (.sq (.rg [.mv 12 T4,.fa 13 T1 0 2 2,.ld 14 T13 (kL (kR 0)),.ln 15 false T14,.bi 16 .lss T12 T15]) (.cd T16 .skip (.ex 0))) (.sq (.bk 1 (.gb 3 2 true (kR 0) (.dr [26,27] [.fa 19 T3 0 2 2,.ld 20 T19 (kL (kR 0)),.fa 21 T1 0 2 2,.ld 22 T21 (kL (kR 0)),.mv 23 T4,.ia 24 T22 T23 (kR 0),.ld 25 T24 (kR 0),.ca (some 26) 51 [(T25,.v (kR 0))],.bl 27 (kR 0) [T26]] [.apl 28 [3,2] (kR 0) T20 27,.fa 29 T3 0 2 2,.st T29 T28 (kL (kR 0))]))) (.rg [.mv 17 T4,.bi 18 .add T17 (.i 1),.mv 4 T18]))
def ir_Zaa:C:=.sq (.rg [.bx 1 T0 (kR 0),.al 2 (kR 0)]) (.sq (.dr [10,3] [.fa 5 T1 0 0 0,.ld 6 T5 kI,.bs 7 true kS [],.fa 8 T1 0 1 1,.ld 9 T8 (kL kS),.an 10 true kS T7 T9,.bd 11 0 [(0,1,T6),(1,1,T10)],.al 3 (kR 0)] [.st T3 T11 (kR 0)]) (.sq (.sq (.rg [.mv 4 (.i 0)]) (.bk 0 (.gb 3 2 true (kR 0) (.lk [1,2,3,4] [[1],[2],[3],[3,2],[10]] c9_Zaa)))) c19_Zaa))
noncomputable def B_Zaa(nf:Nat):XT:=[]
noncomputable def G_Zaa(nf:Nat):Nat->XT
 |0=>[]
 |kf+1=>[eF 51 [.v (kR 0)] [.o (kR 0)] (fun t=>(fun(t:Ty)=>runF (G_Zaa nf kf++B_Zaa nf) nf [.v (kR 0)] [.c 2 (.o (kR 0))] ir_Zaa (t,())) t.1)]
noncomputable abbrev T_Zaa(nf kf:Nat):XT:=G_Zaa nf kf++B_Zaa nf
noncomputable def m_Zaa(nf kf:Nat)(t:Ty):Option (Ty):=runF (T_Zaa nf kf) nf [.v (kR 0)] [.c 2 (.o (kR 0))] ir_Zaa (t,())
noncomputable def X_Zaa{R:Type}(nf kf:Nat):C->Env->(Xt->Env->Option R)->Option R:=xc (R:=R) (T_Zaa nf kf).S nf
noncomputable def l8_Zaa(nf kf:Nat)(m8:Nat)(t:Ty)(x4_8:Int)(y3_2_8:List Ty):Option (Ty):=xit [1,2,3,4] [[1],[2],[3],[3,2],[10]] (X_Zaa nf kf c9_Zaa) (qB 0 (qS (X_Zaa nf kf c19_Zaa) (KF [.c 2 (.o (kR 0))]))) m8 ⟨[(1,.pt [1] 0),(2,.pt [2] 0),(3,.pt [3] 0),(4,.v kI x4_8)],[([1],.box [.v kI t.kind,.v (kL kS) t.labels,.v (kL (kR 0)) t.args]),([2],.box [.v kI (0:Int),.nl kS,.nl (kR 0)]),([3],.box [.v kI t.kind,.sl [10],.sl [3,2]]),([3,2],.row true false (kR 0) y3_2_8),([10],.row true false kS t.labels)]⟩
theorem l8_Zaa_eq(nf kf:Nat)(m8:Nat)(t:Ty)(x4_8:Int)(y3_2_8:List Ty):l8_Zaa nf (kf+1) (m8+1) t x4_8 y3_2_8=(br (decide (x4_8<(List.length t.args:Int))) (gg (0<=x4_8∧x4_8<(List.length t.args:Int))<|cb (m_Zaa nf kf (gt t.args x4_8 Ty.zero)) fun r26=>gg (List.length y3_2_8+List.length ([(Ty.h r26)]:List Ty)<=33554432)<|mark (l8_Zaa nf (kf+1) m8 t (w64 (x4_8+(1:Int))) (y3_2_8++([(Ty.h r26)]:List Ty)))) (some (Ty.mk t.kind t.labels y3_2_8))):=by kernel_rfl
theorem m_Zaa_eq(nf kf:Nat)(t:Ty):m_Zaa nf (kf+1) t=(gg (List.length t.labels<=33554432)<|mark (l8_Zaa nf (kf+1) nf t (0:Int) ([]:List Ty))):=by kernel_rfl
noncomputable def e_Zaa(nf:Nat):XE:=eF 51 [.v (kR 0)] [.o (kR 0)] (fun t=>m_Zaa nf nf t.1)
theorem gok_Zaa(nf:Nat):∀kf:Nat,XT.ok Try.prog (G_Zaa nf kf++B_Zaa nf)
 |0=>by exact trivial
 |kf+1=>by
  have ih:=gok_Zaa nf kf
  refine⟨?_,(by exact trivial)⟩
  ·refine eF_ok fun t x h=> ?_
   obtain⟨t,_⟩:=t
   exact runF_ok (N:=31) ih Try.func51 (by kernel_rfl) rfl h
theorem o_Zaa(nf:Nat):conOK Try.prog 51 (e_Zaa nf).con:=by
 have ih:=gok_Zaa nf nf
 refine eF_ok fun t x h=> ?_
 obtain⟨t,_⟩:=t
 exact runF_ok (N:=31) ih Try.func51 (by kernel_rfl) rfl h
def c19_ZS:C:=.sq (.rg [.mv 28 T0,.mv 29 T3,.bd 30 43 [(0,1,T28),(2,1,T29)],.bx 31 T30 (kR 43),.mv 2 T31]) .rt
def c15_ZS:C:=.sq (.bk 1 (.rg [.mv 18 T3,.bi 19 .mul T18 (.i 131),.mv 20 T0,.mv 21 T4,.ia 22 T20 T21 (.int .u8),.ld 23 T22 (.int .u8),.ci 24 .i64 T23,.bi 25 .add T19 T24,.bi 26 .add T25 (.i 7),.bi 27 .and T26 (.i 1073741823),.mv 3 T27])) (.rg [.mv 16 T4,.bi 17 .add T16 (.i 1),.mv 4 T17])
def c12_ZS:C:=.cd T15 .skip (.ex 0)
def w12_ZS:C:=.kp [0,3,4,15] [] c12_ZS
def c9_ZS:C:=.sq (.sq (.rg [.mv 8 T4,.mv 9 T0,.ln 10 false T9,.bi 11 .lss T8 T10,.mv 12 T11,.g 12 true (.mv 13 T4),.g 12 true (.bi 14 .lss T13 (.i 4000)),.pk 15 T12 T14 (.b false)]) w12_ZS) c15_ZS
def ir_ZS:C:=.sq (.rg [.mv 2 (.np (kR 43))]) (.sq (.rg [.mv 5 T0,.ln 6 false T5,.bi 7 .add (.i 26583) T6,.mv 3 T7]) (.sq (.sq (.rg [.mv 4 (.i 0)]) (.bk 0 (.lk [0,3,4] [] c9_ZS))) c19_ZS))
noncomputable abbrev T_ZS(nf:Nat):XT:=[]
noncomputable def m_ZS(nf:Nat)(code:List Int):Option (Cur):=runF (T_ZS nf) nf [.v (kL (.int .u8))] [.t 2 (.b 43)] ir_ZS (code,())
noncomputable def X_ZS{R:Type}(nf:Nat):C->Env->(Xt->Env->Option R)->Option R:=xc (R:=R) (T_ZS nf).S nf
noncomputable def j12_ZS(nf:Nat)(m8:Nat)(code:List Int)(x3_8:Int)(x4_8:Int)(x15_12:Bool):Option (Cur):=X_ZS nf c12_ZS ⟨[(0,.v (kL (.int .u8)) code),(3,.v kI x3_8),(4,.v kI x4_8),(15,.v .bool x15_12)],[]⟩ (qS (X_ZS nf c15_ZS) (qM [0,3,4] [] (X_ZS nf c9_ZS) m8 (qB 0 (qS (X_ZS nf c19_ZS) (KF [.t 2 (.b 43)])))))
noncomputable def l8_ZS(nf:Nat)(m8:Nat)(code:List Int)(x3_8:Int)(x4_8:Int):Option (Cur):=xit [0,3,4] [] (X_ZS nf c9_ZS) (qB 0 (qS (X_ZS nf c19_ZS) (KF [.t 2 (.b 43)]))) m8 ⟨[(0,.v (kL (.int .u8)) code),(3,.v kI x3_8),(4,.v kI x4_8)],[]⟩
theorem j12_ZS_eq(nf:Nat)(m8:Nat)(code:List Int)(x3_8:Int)(x4_8:Int)(x15_12:Bool):j12_ZS nf m8 code x3_8 x4_8 x15_12=(br x15_12 (gg (0<=x4_8∧x4_8<(List.length code:Int))<|mark (l8_ZS nf m8 code (iand .i64 (w64 ((w64 ((w64 (x3_8*(131:Int)))+(w64 (gt code x4_8 (0:Int)))))+(7:Int))) (1073741823:Int)) (w64 (x4_8+(1:Int))))) (some (Cur.mk code (0:Int) x3_8))):=by kernel_rfl
theorem l8_ZS_eq(nf:Nat)(m8:Nat)(code:List Int)(x3_8:Int)(x4_8:Int):l8_ZS nf (m8+1) code x3_8 x4_8=(br ((decide (x4_8<(List.length code:Int)))==true) (mark (j12_ZS nf m8 code x3_8 x4_8 (decide (x4_8<(4000:Int))))) (mark (j12_ZS nf m8 code x3_8 x4_8 false))):=by
 unfold l8_ZS j12_ZS c9_ZS c19_ZS w12_ZS c15_ZS
 generalize c12_ZS=x0
 revert x0
 refine id ?_
 intro x0
 kernel_rfl
theorem m_ZS_eq(nf:Nat)(code:List Int):m_ZS nf code=(mark (l8_ZS nf nf code (w64 ((26583:Int)+(List.length code:Int))) (0:Int))):=by kernel_rfl
noncomputable def e_ZS(nf:Nat):XE:=eF 35 [.v (kL (.int .u8))] [.b 43] (fun t=>m_ZS nf t.1)
theorem o_ZS(nf:Nat):conOK Try.prog 35 (e_ZS nf).con:=by
 have ih:XT.ok Try.prog (T_ZS nf):=by exact trivial
 refine eF_ok fun t x h=> ?_
 obtain⟨code,_⟩:=t
 exact runF_ok (N:=32) ih Try.func35 (by kernel_rfl) rfl h
def c6_ZP:C:=.sq (.sq (.dr [] [.mv 25 T0,.nck 26 T25,.fa 27 T26 43 1 1,.ld 28 T27 kI,.mv 29 T0,.nck 30 T29,.fa 31 T30 43 0 0,.ld 32 T31 (kL (.int .u8)),.ln 33 false T32] [.bi 34 .lss T28 T33]) (.cd T34 (.sq (.dr [] [.mv 35 T3,.mv 36 T0,.nck 37 T36,.fa 38 T37 43 0 0,.ld 39 T38 (kL (.int .u8)),.mv 40 T0,.nck 41 T40,.fa 42 T41 43 1 1,.ld 43 T42 kI,.ia 44 T39 T43 (.int .u8),.ld 45 T44 (.int .u8),.ci 46 .i64 T45] [.bi 47 .add T35 T46,.bi 48 .and T47 (.i 255),.mv 3 T48]) (.rg [.mv 49 T0,.mv 50 T0,.nck 51 T50,.fa 52 T51 43 1 1,.ld 53 T52 kI,.bi 54 .add T53 (.i 1),.nck 55 T49,.fa 56 T55 43 1 1,.st T56 T54 kI])) .skip)) (.sq (.rg [.mv 57 T3,.mv 2 T57]) .rt)
def w6_ZP:C:=.kp [0,3] [[1000]] c6_ZP
def ir_ZP:C:=.sq (.rg [.mv 2 (.i 0)]) (.sq (.rg [.mv 4 T0,.mv 5 T0,.nck 6 T5,.fa 7 T6 43 2 2,.ld 8 T7 kI,.bi 9 .mul T8 (.i 6364136223846793005),.bi 10 .add T9 (.i 1442695040888963407),.nck 11 T4,.fa 12 T11 43 2 2,.st T12 T10 kI]) (.sq (.dr [] [.mv 13 T0,.nck 14 T13,.fa 15 T14 43 2 2,.ld 16 T15 kI,.bi 17 .shr T16 (.k .u64 33),.mv 18 T0,.nck 19 T18,.fa 20 T19 43 2 2,.ld 21 T20 kI,.bi 22 .shr T21 (.k .u64 45)] [.bi 23 .xor T17 T22,.bi 24 .and T23 (.i 255),.mv 3 T24]) w6_ZP))
noncomputable abbrev T_ZP(nf:Nat):XT:=[]
noncomputable def m_ZP(nf:Nat)(c_b:List Int)(c_i:Int)(c_h:Int):Option ((Int)×((List Int)×Int×Int×Unit)):=runQ (T_ZP nf) nf [.pt 0 0] [.box [.v (kL (.int .u8)),.v kI,.v kI]] [.box [.v (kL (.int .u8)),.v kI,.v kI]] [.t 2 (.v kI)] ir_ZP ((),()) (c_b,c_i,c_h,())
noncomputable def X_ZP{R:Type}(nf:Nat):C->Env->(Xt->Env->Option R)->Option R:=xc (R:=R) (T_ZP nf).S nf
noncomputable def j6_ZP(nf:Nat)(c_b:List Int)(c_i:Int)(c_h:Int)(x3_6:Int):Option ((Int)×((List Int)×Int×Int×Unit)):=X_ZP nf c6_ZP ⟨[(0,.pt [1000] 0),(3,.v kI x3_6)],[([1000],.box [.v (kL (.int .u8)) c_b,.v kI c_i,.v kI (w64 ((w64 (c_h*(6364136223846793005:Int)))+(1442695040888963407:Int)))])]⟩ (KQ [.t 2 (.v kI)] [.box [.v (kL (.int .u8)),.v kI,.v kI]])
theorem j6_ZP_eq(nf:Nat)(c_b:List Int)(c_i:Int)(c_h:Int)(x3_6:Int):j6_ZP nf c_b c_i c_h x3_6=(br (decide (c_i<(List.length c_b:Int))) (gg (0<=c_i∧c_i<(List.length c_b:Int))<|some ((iand .i64 (w64 (x3_6+(w64 (gt c_b c_i (0:Int))))) (255:Int)),(c_b,(w64 (c_i+(1:Int))),(w64 ((w64 (c_h*(6364136223846793005:Int)))+(1442695040888963407:Int))),()))) (some (x3_6,(c_b,c_i,(w64 ((w64 (c_h*(6364136223846793005:Int)))+(1442695040888963407:Int))),())))):=by kernel_rfl
theorem m_ZP_eq(nf:Nat)(c_b:List Int)(c_i:Int)(c_h:Int):m_ZP nf c_b c_i c_h=(gg (0<=(33:Int))<|gg (0<=(45:Int))<|mark (j6_ZP nf c_b c_i c_h (iand .i64 (ixor .i64 (ishr .i64 (w64 ((w64 (c_h*(6364136223846793005:Int)))+(1442695040888963407:Int))) (33:Int)) (ishr .i64 (w64 ((w64 (c_h*(6364136223846793005:Int)))+(1442695040888963407:Int))) (45:Int))) (255:Int)))):=by
 conv=>lhs;unfold m_ZP
 unfold j6_ZP ir_ZP w6_ZP
 generalize c6_ZP=x0
 revert x0
 refine id ?_
 intro x0
 kernel_rfl
noncomputable def e_ZP(nf:Nat):XE:=eQ 84 [.pt 0 0] [.v kI] [.box [.v (kL (.int .u8)),.v kI,.v kI]] [.box [.v (kL (.int .u8)),.v kI,.v kI]] (fun t u=>m_ZP nf u.1 u.2.1 u.2.2.1)
theorem o_ZP(nf:Nat):conOK Try.prog 84 (e_ZP nf).con:=by
 have ih:XT.ok Try.prog (T_ZP nf):=by exact trivial
 refine eQ_ok fun t u x h=> ?_
 obtain⟨_,_⟩:=t
 exact runQ_ok (N:=58) ih Try.func84 (by kernel_rfl) rfl rfl rfl rfl rfl h
def ir_ZO:C:=.sq (.rg [.mv 4 (.i 0)]) (.sq (.sq (.rg [.mv 9 T1,.bi 10 .leq T9 (.i 0)]) (.cd T10 (.sq (.rg [.mv 4 (.i 0)]) .rt) .skip)) (.sq (.sq (.rg [.mv 11 T1,.bi 12 .leq T11 (.i 256)]) (.cd T12 (.sq (.rg [.mv 13 T0,.cq (some 14) 84 [(T13,.q)],.mv 15 T1,.bi 16 .rem T14 T15,.mv 4 T16]) .rt) .skip)) (.sq (.rg [.mv 17 T0,.cq (some 18) 84 [(T17,.q)],.mv 5 T18]) (.sq (.rg [.mv 19 T0,.cq (some 20) 84 [(T19,.q)],.mv 6 T20]) (.sq (.rg [.mv 21 T0,.cq (some 22) 84 [(T21,.q)],.mv 7 T22]) (.sq (.rg [.mv 23 T0,.cq (some 24) 84 [(T23,.q)],.mv 8 T24]) (.sq (.rg [.mv 25 T5,.bi 26 .mul T25 (.i 16777216),.mv 27 T6,.bi 28 .mul T27 (.i 65536),.bi 29 .add T26 T28,.mv 30 T7,.bi 31 .mul T30 (.i 256),.bi 32 .add T29 T31,.mv 33 T8,.bi 34 .add T32 T33,.mv 35 T1,.bi 36 .rem T34 T35,.mv 4 T36]) .rt)))))))
noncomputable abbrev T_ZO(nf:Nat):XT:=[e_ZP nf]
noncomputable def m_ZO(nf:Nat)(n:Int)(c_b:List Int)(c_i:Int)(c_h:Int):Option ((Int)×((List Int)×Int×Int×Unit)):=runQ (T_ZO nf) nf [.pt 0 0,.v kI] [.box [.v (kL (.int .u8)),.v kI,.v kI]] [.box [.v (kL (.int .u8)),.v kI,.v kI]] [.t 4 (.v kI)] ir_ZO ((),n,()) (c_b,c_i,c_h,())
theorem m_ZO_eq(nf:Nat)(n:Int)(c_b:List Int)(c_i:Int)(c_h:Int):m_ZO nf n c_b c_i c_h=(br (decide (n<=(0:Int))) (some ((0:Int),(c_b,c_i,c_h,()))) (br (decide (n<=(256:Int))) (cb (m_ZP nf c_b c_i c_h) fun r14=>gg (n≠0)<|some ((w64 (Int.tmod r14.1 n)),(r14.2.1,r14.2.2.1,r14.2.2.2.1,()))) (cb (m_ZP nf c_b c_i c_h) fun r18=>cb (m_ZP nf r18.2.1 r18.2.2.1 r18.2.2.2.1) fun r20=>cb (m_ZP nf r20.2.1 r20.2.2.1 r20.2.2.2.1) fun r22=>cb (m_ZP nf r22.2.1 r22.2.2.1 r22.2.2.2.1) fun r24=>gg (n≠0)<|some ((w64 (Int.tmod (w64 ((w64 ((w64 ((w64 (r18.1*(16777216:Int)))+(w64 (r20.1*(65536:Int)))))+(w64 (r22.1*(256:Int)))))+r24.1)) n)),(r24.2.1,r24.2.2.1,r24.2.2.2.1,()))))):=by kernel_rfl
noncomputable def e_ZO(nf:Nat):XE:=eQ 49 [.pt 0 0,.v kI] [.v kI] [.box [.v (kL (.int .u8)),.v kI,.v kI]] [.box [.v (kL (.int .u8)),.v kI,.v kI]] (fun t u=>m_ZO nf t.2.1 u.1 u.2.1 u.2.2.1)
theorem o_ZO(nf:Nat):conOK Try.prog 49 (e_ZO nf).con:=by
 have ih:XT.ok Try.prog (T_ZO nf):=by exact⟨o_ZP nf,trivial⟩
 refine eQ_ok fun t u x h=> ?_
 obtain⟨_,n,_⟩:=t
 exact runQ_ok (N:=37) ih Try.func49 (by kernel_rfl) rfl rfl rfl rfl rfl h
def ir_ZT:C:=.sq (.rg [.mv 4 (.b false)]) (.sq (.rg [.mv 5 T0,.mv 6 T1,.cq (some 7) 49 [(T5,.q),(T6,.v kI)],.bi 8 .eql T7 (.i 0),.mv 4 T8]) .rt)
noncomputable abbrev T_ZT(nf:Nat):XT:=[e_ZO nf]
noncomputable def m_ZT(nf:Nat)(n:Int)(c_b:List Int)(c_i:Int)(c_h:Int):Option ((Bool)×((List Int)×Int×Int×Unit)):=runQ (T_ZT nf) nf [.pt 0 0,.v kI] [.box [.v (kL (.int .u8)),.v kI,.v kI]] [.box [.v (kL (.int .u8)),.v kI,.v kI]] [.t 4 (.v .bool)] ir_ZT ((),n,()) (c_b,c_i,c_h,())
theorem m_ZT_eq(nf:Nat)(n:Int)(c_b:List Int)(c_i:Int)(c_h:Int):m_ZT nf n c_b c_i c_h=(cb (m_ZO nf n c_b c_i c_h) fun r7=>some ((r7.1==(0:Int)),(r7.2.1,r7.2.2.1,r7.2.2.2.1,()))):=by kernel_rfl
noncomputable def e_ZT(nf:Nat):XE:=eQ 47 [.pt 0 0,.v kI] [.v .bool] [.box [.v (kL (.int .u8)),.v kI,.v kI]] [.box [.v (kL (.int .u8)),.v kI,.v kI]] (fun t u=>m_ZT nf t.2.1 u.1 u.2.1 u.2.2.1)
theorem o_ZT(nf:Nat):conOK Try.prog 47 (e_ZT nf).con:=by
 have ih:XT.ok Try.prog (T_ZT nf):=by exact⟨o_ZO nf,trivial⟩
 refine eQ_ok fun t u x h=> ?_
 obtain⟨_,n,_⟩:=t
 exact runQ_ok (N:=9) ih Try.func47 (by kernel_rfl) rfl rfl rfl rfl rfl h
def ir_ZU:C:=.sq (.rg [.mv 4 (.s [])]) (.sq (.rg [.mv 5 T1,.mv 6 T0,.mv 7 T1,.ln 8 false T7,.cq (some 9) 49 [(T6,.q),(T8,.v kI)],.ia 10 T5 T9 kS,.ld 11 T10 kS,.mv 4 T11]) .rt)
noncomputable abbrev T_ZU(nf:Nat):XT:=[e_ZO nf]
noncomputable def m_ZU(nf:Nat)(list:List Str)(c_b:List Int)(c_i:Int)(c_h:Int):Option ((Str)×((List Int)×Int×Int×Unit)):=runQ (T_ZU nf) nf [.pt 0 0,.v (kL kS)] [.box [.v (kL (.int .u8)),.v kI,.v kI]] [.box [.v (kL (.int .u8)),.v kI,.v kI]] [.t 4 (.v kS)] ir_ZU ((),list,()) (c_b,c_i,c_h,())
theorem m_ZU_eq(nf:Nat)(list:List Str)(c_b:List Int)(c_i:Int)(c_h:Int):m_ZU nf list c_b c_i c_h=(cb (m_ZO nf (List.length list:Int) c_b c_i c_h) fun r9=>gg (0<=r9.1∧r9.1<(List.length list:Int))<|some ((gt list r9.1 ([]:Str)),(r9.2.1,r9.2.2.1,r9.2.2.2.1,()))):=by kernel_rfl
noncomputable def e_ZU(nf:Nat):XE:=eQ 48 [.pt 0 0,.v (kL kS)] [.v kS] [.box [.v (kL (.int .u8)),.v kI,.v kI]] [.box [.v (kL (.int .u8)),.v kI,.v kI]] (fun t u=>m_ZU nf t.2.1 u.1 u.2.1 u.2.2.1)
theorem o_ZU(nf:Nat):conOK Try.prog 48 (e_ZU nf).con:=by
 have ih:XT.ok Try.prog (T_ZU nf):=by exact⟨o_ZO nf,trivial⟩
 refine eQ_ok fun t u x h=> ?_
 obtain⟨_,list,_⟩:=t
 exact runQ_ok (N:=12) ih Try.func48 (by kernel_rfl) rfl rfl rfl rfl rfl h
def ir_ZV:C:=.sq (.rg [.mv 4 (.i 0)]) (.sq (.rg [.mv 5 T1,.mv 6 T0,.mv 7 T1,.ln 8 false T7,.cq (some 9) 49 [(T6,.q),(T8,.v kI)],.ia 10 T5 T9 kI,.ld 11 T10 kI,.mv 4 T11]) .rt)
noncomputable abbrev T_ZV(nf:Nat):XT:=[e_ZO nf]
noncomputable def m_ZV(nf:Nat)(list:List Int)(c_b:List Int)(c_i:Int)(c_h:Int):Option ((Int)×((List Int)×Int×Int×Unit)):=runQ (T_ZV nf) nf [.pt 0 0,.v (kL kI)] [.box [.v (kL (.int .u8)),.v kI,.v kI]] [.box [.v (kL (.int .u8)),.v kI,.v kI]] [.t 4 (.v kI)] ir_ZV ((),list,()) (c_b,c_i,c_h,())
theorem m_ZV_eq(nf:Nat)(list:List Int)(c_b:List Int)(c_i:Int)(c_h:Int):m_ZV nf list c_b c_i c_h=(cb (m_ZO nf (List.length list:Int) c_b c_i c_h) fun r9=>gg (0<=r9.1∧r9.1<(List.length list:Int))<|some ((gt list r9.1 (0:Int)),(r9.2.1,r9.2.2.1,r9.2.2.2.1,()))):=by kernel_rfl
noncomputable def e_ZV(nf:Nat):XE:=eQ 101 [.pt 0 0,.v (kL kI)] [.v kI] [.box [.v (kL (.int .u8)),.v kI,.v kI]] [.box [.v (kL (.int .u8)),.v kI,.v kI]] (fun t u=>m_ZV nf t.2.1 u.1 u.2.1 u.2.2.1)
theorem o_ZV(nf:Nat):conOK Try.prog 101 (e_ZV nf).con:=by
 have ih:XT.ok Try.prog (T_ZV nf):=by exact⟨o_ZO nf,trivial⟩
 refine eQ_ok fun t u x h=> ?_
 obtain⟨_,list,_⟩:=t
 exact runQ_ok (N:=12) ih Try.func101 (by kernel_rfl) rfl rfl rfl rfl rfl h
def ir_Zaf:C:=.sq (.rg [.al 0 (kR 0)]) (.sq (.rg [.bd 1 0 [(0,1,(.i 1))],.st T0 T1 (kR 0)]) .rt)
noncomputable abbrev T_Zaf(nf:Nat):XT:=[]
noncomputable def m_Zaf(nf:Nat):Option (Ty):=runF (T_Zaf nf) nf [] [.c 0 (.o (kR 0))] ir_Zaf (())
theorem m_Zaf_eq(nf:Nat):m_Zaf nf=(some (Ty.mk (1:Int) ([]:List Str) ([]:List Ty))):=by kernel_rfl
noncomputable def e_Zaf(nf:Nat):XE:=eF 74 [] [.o (kR 0)] (fun t=>m_Zaf nf)
theorem o_Zaf(nf:Nat):conOK Try.prog 74 (e_Zaf nf).con:=by
 have ih:XT.ok Try.prog (T_Zaf nf):=by exact trivial
 refine eF_ok fun t x h=> ?_
 exact runF_ok (N:=2) ih Try.func74 (by kernel_rfl) rfl h
def ir_Zad:C:=.sq (.rg [.bx 2 T0 (kR 0),.bx 3 T1 (kR 0),.al 4 (kR 0)]) (.sq (.dr [6] [.ld 5 T2 (kR 0),.ca (some 6) 51 [(T5,.v (kR 0))],.ld 7 T3 (kR 0)] [.ca (some 8) 51 [(T7,.v (kR 0))],.bo 9 (kR 0) [T6,T8],.bd 10 0 [(0,1,(.i 5)),(2,1,T9)],.st T4 T10 (kR 0)]) .rt)
noncomputable abbrev T_Zad(nf:Nat):XT:=[e_Zaa nf]
noncomputable def m_Zad(nf:Nat)(a:Ty)(b:Ty):Option (Ty):=runF (T_Zad nf) nf [.v (kR 0),.v (kR 0)] [.c 4 (.o (kR 0))] ir_Zad (a,b,())
theorem m_Zad_eq(nf:Nat)(a:Ty)(b:Ty):m_Zad nf a b=(cb (m_Zaa nf nf (Ty.h a)) fun r6=>cb (m_Zaa nf nf (Ty.h b)) fun r8=>some (Ty.mk (5:Int) ([]:List Str) ([(Ty.h r6),(Ty.h r8)]:List Ty))):=by kernel_rfl
noncomputable def e_Zad(nf:Nat):XE:=eF 75 [.v (kR 0),.v (kR 0)] [.o (kR 0)] (fun t=>m_Zad nf t.1 t.2.1)
theorem o_Zad(nf:Nat):conOK Try.prog 75 (e_Zad nf).con:=by
 have ih:XT.ok Try.prog (T_Zad nf):=by exact⟨o_Zaa nf,trivial⟩
 refine eF_ok fun t x h=> ?_
 obtain⟨a,b,_⟩:=t
 exact runF_ok (N:=11) ih Try.func75 (by kernel_rfl) rfl h
def ir_ZX:C:=.sq (.rg [.bx 1 T0 (kR 0),.al 2 (kR 0)]) (.sq (.rg [.ld 3 T1 (kR 0),.ca (some 4) 51 [(T3,.v (kR 0))],.bo 5 (kR 0) [T4],.bd 6 0 [(0,1,(.i 4)),(2,1,T5)],.st T2 T6 (kR 0)]) .rt)
noncomputable abbrev T_ZX(nf:Nat):XT:=[e_Zaa nf]
noncomputable def m_ZX(nf:Nat)(t:Ty):Option (Ty):=runF (T_ZX nf) nf [.v (kR 0)] [.c 2 (.o (kR 0))] ir_ZX (t,())
theorem m_ZX_eq(nf:Nat)(t:Ty):m_ZX nf t=(cb (m_Zaa nf nf (Ty.h t)) fun r4=>some (Ty.mk (4:Int) ([]:List Str) ([(Ty.h r4)]:List Ty))):=by kernel_rfl
noncomputable def e_ZX(nf:Nat):XE:=eF 76 [.v (kR 0)] [.o (kR 0)] (fun t=>m_ZX nf t.1)
theorem o_ZX(nf:Nat):conOK Try.prog 76 (e_ZX nf).con:=by
 have ih:XT.ok Try.prog (T_ZX nf):=by exact⟨o_Zaa nf,trivial⟩
 refine eF_ok fun t x h=> ?_
 obtain⟨t,_⟩:=t
 exact runF_ok (N:=7) ih Try.func76 (by kernel_rfl) rfl h
def c19_Zai:C:=.sq (.rg [.ld 27 T5 (kR 0),.st T4 T27 (kR 0)]) .rt
def c9_Zai:C:=.sq (.sq (.rg [.mv 11 T6,.mv 12 T1,.ln 13 false T12,.bi 14 .lss T11 T13]) (.cd T14 .skip (.ex 0))) (.sq (.bk 1 (.gb 5 2 true (kR 0) (.dr [23,24] [.fa 17 T5 0 2 2,.ld 18 T17 (kL (kR 0)),.mv 19 T1,.mv 20 T6,.ia 21 T19 T20 (kR 0),.ld 22 T21 (kR 0),.ca (some 23) 51 [(T22,.v (kR 0))],.bl 24 (kR 0) [T23]] [.apl 25 [5,2] (kR 0) T18 24,.fa 26 T5 0 2 2,.st T26 T25 (kL (kR 0))]))) (.rg [.mv 15 T6,.bi 16 .add T15 (.i 1),.mv 6 T16]))
def ir_Zai:C:=.sq (.rg [.al 4 (kR 0)]) (.sq (.rg [.bs 7 true kS [],.mv 8 T0,.an 9 true kS T7 T8,.bd 10 0 [(0,1,(.i 3)),(1,1,T9)],.al 5 (kR 0),.st T5 T10 (kR 0)]) (.sq (.sq (.rg [.mv 6 (.i 0)]) (.bk 0 (.gb 5 2 true (kR 0) (.lk [1,4,5,6] [[4],[5],[5,2],[9]] c9_Zai)))) c19_Zai))
noncomputable abbrev T_Zai(nf:Nat):XT:=[e_Zaa nf]
noncomputable def m_Zai(nf:Nat)(labels:List Str)(args:List Ty):Option (Ty):=runF (T_Zai nf) nf [.v (kL kS),.v (kL (kR 0))] [.c 4 (.o (kR 0))] ir_Zai (labels,args,())
noncomputable def X_Zai{R:Type}(nf:Nat):C->Env->(Xt->Env->Option R)->Option R:=xc (R:=R) (T_Zai nf).S nf
noncomputable def l8_Zai(nf:Nat)(m8:Nat)(args:List Ty)(labels:List Str)(x6_8:Int)(y5_2_8:List Ty):Option (Ty):=xit [1,4,5,6] [[4],[5],[5,2],[9]] (X_Zai nf c9_Zai) (qB 0 (qS (X_Zai nf c19_Zai) (KF [.c 4 (.o (kR 0))]))) m8 ⟨[(1,.v (kL (kR 0)) args),(4,.pt [4] 0),(5,.pt [5] 0),(6,.v kI x6_8)],[([4],.box [.v kI (0:Int),.nl kS,.nl (kR 0)]),([5],.box [.v kI (3:Int),.sl [9],.sl [5,2]]),([5,2],.row true false (kR 0) y5_2_8),([9],.row true false kS labels)]⟩
theorem l8_Zai_eq(nf:Nat)(m8:Nat)(args:List Ty)(labels:List Str)(x6_8:Int)(y5_2_8:List Ty):l8_Zai nf (m8+1) args labels x6_8 y5_2_8=(br (decide (x6_8<(List.length args:Int))) (gg (0<=x6_8∧x6_8<(List.length args:Int))<|cb (m_Zaa nf nf (gt args x6_8 Ty.zero)) fun r23=>gg (List.length y5_2_8+List.length ([(Ty.h r23)]:List Ty)<=33554432)<|mark (l8_Zai nf m8 args labels (w64 (x6_8+(1:Int))) (y5_2_8++([(Ty.h r23)]:List Ty)))) (some (Ty.mk (3:Int) labels y5_2_8))):=by kernel_rfl
theorem m_Zai_eq(nf:Nat)(labels:List Str)(args:List Ty):m_Zai nf labels args=(gg (List.length labels<=33554432)<|mark (l8_Zai nf nf args labels (0:Int) ([]:List Ty))):=by kernel_rfl
noncomputable def e_Zai(nf:Nat):XE:=eF 102 [.v (kL kS),.v (kL (kR 0))] [.o (kR 0)] (fun t=>m_Zai nf t.1 t.2.1)
theorem o_Zai(nf:Nat):conOK Try.prog 102 (e_Zai nf).con:=by
 have ih:XT.ok Try.prog (T_Zai nf):=by exact⟨o_Zaa nf,trivial⟩
 refine eF_ok fun t x h=> ?_
 obtain⟨labels,args,_⟩:=t
 exact runF_ok (N:=28) ih Try.func102 (by kernel_rfl) rfl h
def c41_Zab:C:=.sq (.rg [.mv 50 T5,.mv 51 T6,.ca (some 52) 102 [(T50,.v (kL kS)),(T51,.v (kL (kR 0)))],.st T4 T52 (kR 0)]) .rt
def w41_Zab:C:=.kp [4,5,6] [[4],[5],[6],[1000]] c41_Zab
def c29_Zab:C:=.sq (.sq (.rg [.mv 31 T8,.mv 32 T7,.bi 33 .lss T31 T32]) (.cd T33 .skip (.ex 0))) (.sq (.bk 1 (.sq (.gt 5 true kS (.rg [.mv 36 T5,.bs 37 true kS [(.s [97]),(.s [98]),(.s [99])],.mv 38 T8,.ia 39 T37 T38 kS,.ld 40 T39 kS,.bs 41 true kS [T40],.ap 42 [5] true kS T36 T41,.mv 5 T42])) (.gt 6 true (kR 0) (.rg [.mv 43 T6,.mv 44 T0,.mv 45 T1,.bi 46 .sub T45 (.i 1),.cq (some 47) 73 [(T44,.q),(T46,.v kI)],.bl 48 (kR 0) [T47],.apl 49 [6] (kR 0) T43 48,.mv 6 T49])))) (.rg [.mv 34 T8,.bi 35 .add T34 (.i 1),.mv 8 T35]))
def c10_Zab:C:=.sq (.sq (.rg [.mv 19 T0,.cq (some 20) 47 [(T19,.q),((.i 2),.v kI)]]) (.cd T20 (.sq (.rg [.mv 21 T0,.mv 22 T1,.bi 23 .sub T22 (.i 1),.cq (some 24) 73 [(T21,.q),(T23,.v kI)],.ca (some 25) 76 [(T24,.v (kR 0))],.st T4 T25 (kR 0)]) .rt) .skip)) (.sq (.rg [.bs 26 true kS [],.mv 5 T26]) (.sq (.rg [.bs 27 true (kR 0) [],.mv 6 T27]) (.sq (.rg [.mv 28 T0,.cq (some 29) 49 [(T28,.q),((.i 2),.v kI)],.bi 30 .add (.i 1) T29,.mv 7 T30]) (.sq (.sq (.rg [.mv 8 (.i 0)]) (.bk 0 (.gt 5 true kS (.gt 6 true (kR 0) (.lk [0,1,4,5,6,7,8] [[4],[5],[6],[1000]] c29_Zab))))) w41_Zab))))
def c5_Zab:C:=.cd T14 (.sq (.rg [.mv 15 T0,.bf 16 kI [(.i 1),(.i 2),(.i 1)],.cq (some 17) 101 [(T15,.q),(T16,.v (kL kI))],.bd 18 0 [(0,1,T17)],.st T4 T18 (kR 0)]) .rt) .skip
def w5_Zab:C:=.kp [0,1,4,14] [[4],[1000]] c5_Zab
def ir_Zab:C:=.sq (.rg [.al 4 (kR 0)]) (.sq (.sq (.rg [.mv 9 T1,.bi 10 .lss T9 (.i 2),.mv 11 T10,.g 11 false (.mv 12 T0),.g 11 false (.cq (some 13) 47 [(T12,.q),((.i 3),.v kI)]),.pk 14 T11 (.b true) T13]) w5_Zab) c10_Zab)
noncomputable def B_Zab(nf:Nat):XT:=[e_ZT nf,e_ZV nf,e_ZX nf,e_ZO nf,e_Zai nf]
noncomputable def G_Zab(nf:Nat):Nat->XT
 |0=>[]
 |kf+1=>[eQ 73 [.pt 0 0,.v kI] [.o (kR 0)] [.box [.v (kL (.int .u8)),.v kI,.v kI]] [.box [.v (kL (.int .u8)),.v kI,.v kI]] (fun t u=>(fun(depth:Int) (c_b:List Int) (c_i:Int) (c_h:Int)=>runQ (G_Zab nf kf++B_Zab nf) nf [.pt 0 0,.v kI] [.box [.v (kL (.int .u8)),.v kI,.v kI]] [.box [.v (kL (.int .u8)),.v kI,.v kI]] [.c 4 (.o (kR 0))] ir_Zab ((),depth,()) (c_b,c_i,c_h,())) t.2.1 u.1 u.2.1 u.2.2.1)]
noncomputable abbrev T_Zab(nf kf:Nat):XT:=G_Zab nf kf++B_Zab nf
noncomputable def m_Zab(nf kf:Nat)(depth:Int)(c_b:List Int)(c_i:Int)(c_h:Int):Option ((Ty)×((List Int)×Int×Int×Unit)):=runQ (T_Zab nf kf) nf [.pt 0 0,.v kI] [.box [.v (kL (.int .u8)),.v kI,.v kI]] [.box [.v (kL (.int .u8)),.v kI,.v kI]] [.c 4 (.o (kR 0))] ir_Zab ((),depth,()) (c_b,c_i,c_h,())
noncomputable def X_Zab{R:Type}(nf kf:Nat):C->Env->(Xt->Env->Option R)->Option R:=xc (R:=R) (T_Zab nf kf).S nf
noncomputable def j5_Zab(nf kf:Nat)(depth:Int)(x14_5:Bool)(y1000_5_0:List Int)(y1000_5_1:Int)(y1000_5_2:Int):Option ((Ty)×((List Int)×Int×Int×Unit)):=X_Zab nf kf c5_Zab ⟨[(0,.pt [1000] 0),(1,.v kI depth),(4,.pt [4] 0),(14,.v .bool x14_5)],[([4],.box [.v kI (0:Int),.nl kS,.nl (kR 0)]),([1000],.box [.v (kL (.int .u8)) y1000_5_0,.v kI y1000_5_1,.v kI y1000_5_2])]⟩ (qS (X_Zab nf kf c10_Zab) (KQ [.c 4 (.o (kR 0))] [.box [.v (kL (.int .u8)),.v kI,.v kI]]))
noncomputable def l28_Zab(nf kf:Nat)(m28:Nat)(depth:Int)(r29:(Int)×((List Int)×Int×Int×Unit))(x8_28:Int)(y1000_28_0:List Int)(y1000_28_1:Int)(y1000_28_2:Int)(y5_28:List Str)(y6_28:List Ty):Option ((Ty)×((List Int)×Int×Int×Unit)):=xit [0,1,4,5,6,7,8] [[4],[5],[6],[1000]] (X_Zab nf kf c29_Zab) (qB 0 (qS (X_Zab nf kf w41_Zab) (KQ [.c 4 (.o (kR 0))] [.box [.v (kL (.int .u8)),.v kI,.v kI]]))) m28 ⟨[(0,.pt [1000] 0),(1,.v kI depth),(4,.pt [4] 0),(5,.sl [5]),(6,.sl [6]),(7,.v kI (w64 ((1:Int)+r29.1))),(8,.v kI x8_28)],[([4],.box [.v kI (0:Int),.nl kS,.nl (kR 0)]),([5],.row true false kS y5_28),([6],.row true false (kR 0) y6_28),([1000],.box [.v (kL (.int .u8)) y1000_28_0,.v kI y1000_28_1,.v kI y1000_28_2])]⟩
noncomputable def j41_Zab(nf kf:Nat)(y5_28:List Str)(y6_28:List Ty)(y1000_28_0:List Int)(y1000_28_1:Int)(y1000_28_2:Int):Option ((Ty)×((List Int)×Int×Int×Unit)):=X_Zab nf kf c41_Zab ⟨[(4,.pt [4] 0),(5,.sl [5]),(6,.sl [6])],[([4],.box [.v kI (0:Int),.nl kS,.nl (kR 0)]),([5],.row true false kS y5_28),([6],.row true false (kR 0) y6_28),([1000],.box [.v (kL (.int .u8)) y1000_28_0,.v kI y1000_28_1,.v kI y1000_28_2])]⟩ (KQ [.c 4 (.o (kR 0))] [.box [.v (kL (.int .u8)),.v kI,.v kI]])
theorem j5_Zab_eq(nf kf:Nat)(depth:Int)(x14_5:Bool)(y1000_5_0:List Int)(y1000_5_1:Int)(y1000_5_2:Int):j5_Zab nf (kf+1) depth x14_5 y1000_5_0 y1000_5_1 y1000_5_2=(br x14_5 (cb (m_ZV nf ([(1:Int),(2:Int),(1:Int)]:List Int) y1000_5_0 y1000_5_1 y1000_5_2) fun r17=>some ((Ty.mk r17.1 ([]:List Str) ([]:List Ty)),(r17.2.1,r17.2.2.1,r17.2.2.2.1,()))) (cb (m_ZT nf (2:Int) y1000_5_0 y1000_5_1 y1000_5_2) fun r20=>br r20.1 (cb (m_Zab nf kf (w64 (depth-(1:Int))) r20.2.1 r20.2.2.1 r20.2.2.2.1) fun r24=>cb (m_ZX nf (Ty.h r24.1)) fun r25=>some ((Ty.h r25),(r24.2.1,r24.2.2.1,r24.2.2.2.1,()))) (cb (m_ZO nf (2:Int) r20.2.1 r20.2.2.1 r20.2.2.2.1) fun r29=>mark (l28_Zab nf (kf+1) nf depth r29 (0:Int) r29.2.1 r29.2.2.1 r29.2.2.2.1 ([]:List Str) ([]:List Ty))))):=by
 unfold j5_Zab l28_Zab c5_Zab c10_Zab w41_Zab
 generalize c41_Zab=x0
 revert x0
 refine id ?_
 intro x0
 kernel_rfl
theorem l28_Zab_eq(nf kf:Nat)(m28:Nat)(depth:Int)(r29:(Int)×((List Int)×Int×Int×Unit))(x8_28:Int)(y1000_28_0:List Int)(y1000_28_1:Int)(y1000_28_2:Int)(y5_28:List Str)(y6_28:List Ty):l28_Zab nf (kf+1) (m28+1) depth r29 x8_28 y1000_28_0 y1000_28_1 y1000_28_2 y5_28 y6_28=(br (decide (x8_28<(w64 ((1:Int)+r29.1)))) (gg (0<=x8_28∧x8_28<(List.length ([([97]:Str),([98]:Str),([99]:Str)]:List Str):Int))<|gg (0<=x8_28∧x8_28<(List.length ([([97]:Str),([98]:Str),([99]:Str)]:List Str):Int))<|gg (List.length y5_28+List.length ([(gt ([([97]:Str),([98]:Str),([99]:Str)]:List Str) x8_28 ([]:Str))]:List Str)<=33554432)<|cb (m_Zab nf kf (w64 (depth-(1:Int))) y1000_28_0 y1000_28_1 y1000_28_2) fun r47=>gg (List.length y6_28+List.length ([(Ty.h r47.1)]:List Ty)<=33554432)<|mark (l28_Zab nf (kf+1) m28 depth r29 (w64 (x8_28+(1:Int))) r47.2.1 r47.2.2.1 r47.2.2.2.1 (y5_28++([(gt ([([97]:Str),([98]:Str),([99]:Str)]:List Str) x8_28 ([]:Str))]:List Str)) (y6_28++([(Ty.h r47.1)]:List Ty)))) (mark (j41_Zab nf (kf+1) y5_28 y6_28 y1000_28_0 y1000_28_1 y1000_28_2))):=by
 unfold l28_Zab j41_Zab c29_Zab w41_Zab
 generalize c41_Zab=x0
 revert x0
 refine id ?_
 intro x0
 kernel_rfl
theorem j41_Zab_eq(nf kf:Nat)(y5_28:List Str)(y6_28:List Ty)(y1000_28_0:List Int)(y1000_28_1:Int)(y1000_28_2:Int):j41_Zab nf (kf+1) y5_28 y6_28 y1000_28_0 y1000_28_1 y1000_28_2=(cb (m_Zai nf y5_28 y6_28) fun r52=>some ((Ty.h r52),(y1000_28_0,y1000_28_1,y1000_28_2,()))):=by kernel_rfl
theorem m_Zab_eq(nf kf:Nat)(depth:Int)(c_b:List Int)(c_i:Int)(c_h:Int):m_Zab nf (kf+1) depth c_b c_i c_h=(br ((decide (depth<(2:Int)))==false) (cb (m_ZT nf (3:Int) c_b c_i c_h) fun r13=>mark (j5_Zab nf (kf+1) depth r13.1 r13.2.1 r13.2.2.1 r13.2.2.2.1)) (mark (j5_Zab nf (kf+1) depth true c_b c_i c_h))):=by
 conv=>lhs;unfold m_Zab
 unfold j5_Zab ir_Zab w5_Zab c10_Zab w41_Zab
 generalize c5_Zab=x0
 generalize c41_Zab=x1
 revert x0 x1
 refine id ?_
 intro x0 x1
 kernel_rfl
noncomputable def e_Zab(nf:Nat):XE:=eQ 73 [.pt 0 0,.v kI] [.o (kR 0)] [.box [.v (kL (.int .u8)),.v kI,.v kI]] [.box [.v (kL (.int .u8)),.v kI,.v kI]] (fun t u=>m_Zab nf nf t.2.1 u.1 u.2.1 u.2.2.1)
theorem gok_Zab(nf:Nat):∀kf:Nat,XT.ok Try.prog (G_Zab nf kf++B_Zab nf)
 |0=>by exact⟨o_ZT nf,o_ZV nf,o_ZX nf,o_ZO nf,o_Zai nf,trivial⟩
 |kf+1=>by
  have ih:=gok_Zab nf kf
  refine⟨?_,(by exact⟨o_ZT nf,o_ZV nf,o_ZX nf,o_ZO nf,o_Zai nf,trivial⟩)⟩
  ·refine eQ_ok fun t u x h=> ?_
   obtain⟨_,depth,_⟩:=t
   exact runQ_ok (N:=53) ih Try.func73 (by kernel_rfl) rfl rfl rfl rfl rfl h
theorem o_Zab(nf:Nat):conOK Try.prog 73 (e_Zab nf).con:=by
 have ih:=gok_Zab nf nf
 refine eQ_ok fun t u x h=> ?_
 obtain⟨_,depth,_⟩:=t
 exact runQ_ok (N:=53) ih Try.func73 (by kernel_rfl) rfl rfl rfl rfl rfl h
def c44_ZY:C:=.sq (.zb 3 1 (kL kS) (.zb 3 2 (kL (kR 0)) (.rg [.ld 51 T3 (kR 0),.st T2 T51 (kR 0)]))) .rt
def c33_ZY:C:=.sq (.sq (.rg [.mv 44 T5,.mv 45 T4,.bi 46 .lss T44 T45]) (.cd T46 .skip (.ex 1))) (.sq (.bk 2 (.rg [.ld 49 T3 (kR 0),.cv (some 50) 76 [(T49,.v (kR 0))],.st T3 T50 (kR 0)])) (.rg [.mv 47 T5,.bi 48 .add T47 (.i 1),.mv 5 T48]))
def ir_ZY:C:=.sq (.rg [.al 2 (kR 0)]) (.sq (.rg [.mv 6 T0,.cq (some 7) 73 [(T6,.q),((.i 4),.v kI)],.al 3 (kR 0),.st T3 T7 (kR 0)]) (.sq (.sq (.rg [.mv 8 T0,.cq (some 9) 49 [(T8,.q),((.i 10),.v kI)]]) (.bk 0 (.sq (.rg [.bi 11 .eql T9 (.i 0),.mv 10 T11]) (.cd T10 (.rg [.mv 12 T0,.cq (some 13) 49 [(T12,.q),((.i 7),.v kI)],.fa 14 T3 0 0 0,.st T14 T13 kI]) (.sq (.rg [.bi 16 .eql T9 (.i 1),.mv 15 T16]) (.cd T15 (.dq [0] [0,3] 21 [.fa 17 T3 0 1 1,.ld 18 T17 (kL kS),.mv 19 T0,.bf 20 kS [(.s [97]),(.s [122]),(.s [105,102])],.cq (some 21) 48 [(T19,.q),(T20,.v (kL kS))],.bf 22 kS [T21]] [.ap 23 [3,1] true kS T18 T22,.fa 24 T3 0 1 1,.st T24 T23 (kL kS)]) (.sq (.rg [.bi 26 .eql T9 (.i 2),.mv 25 T26]) (.cd T25 (.dr [29,30] [.fa 27 T3 0 2 2,.ld 28 T27 (kL (kR 0)),.ca (some 29) 74 [],.bl 30 (kR 0) [T29]] [.apl 31 [3,2] (kR 0) T28 30,.fa 32 T3 0 2 2,.st T32 T31 (kL (kR 0))]) (.sq (.rg [.bi 34 .eql T9 (.i 3),.mv 33 T34]) (.cd T33 (.zb 3 1 (kL kS) (.zb 3 2 (kL (kR 0)) (.dq [0] [0,3] 37 [.ld 35 T3 (kR 0),.mv 36 T0,.cq (some 37) 73 [(T36,.q),((.i 2),.v kI)]] [.cv (some 38) 75 [(T35,.v (kR 0)),(T37,.v (kR 0))],.st T3 T38 (kR 0)]))) (.sq (.rg [.bi 40 .eql T9 (.i 4),.mv 39 T40]) (.cd T39 (.sq (.rg [.mv 41 T0,.cq (some 42) 49 [(T41,.q),((.i 5),.v kI)],.bi 43 .add (.i 1) T42,.mv 4 T43]) (.sq (.rg [.mv 5 (.i 0)]) (.bk 1 (.zb 3 1 (kL kS) (.zb 3 2 (kL (kR 0)) (.lk [2,3,4,5] [[2],[3],[1000]] c33_ZY)))))) .skip)))))))))))) c44_ZY))
noncomputable abbrev T_ZY(nf:Nat):XT:=[e_Zab nf,e_ZO nf,e_ZU nf,e_Zaf nf,e_Zad nf,e_ZX nf]
noncomputable def m_ZY(nf:Nat)(c_b:List Int)(c_i:Int)(c_h:Int):Option ((Ty)×((List Int)×Int×Int×Unit)):=runQ (T_ZY nf) nf [.pt 0 0] [.box [.v (kL (.int .u8)),.v kI,.v kI]] [.box [.v (kL (.int .u8)),.v kI,.v kI]] [.c 2 (.v (kR 0))] ir_ZY ((),()) (c_b,c_i,c_h,())
noncomputable def X_ZY{R:Type}(nf:Nat):C->Env->(Xt->Env->Option R)->Option R:=xc (R:=R) (T_ZY nf).S nf
noncomputable def l32_ZY(nf:Nat)(m32:Nat)(r42:(Int)×((List Int)×Int×Int×Unit))(x5_32:Int)(y3_32_0:Int)(y3_32_1:List Str)(y3_32_2:List Ty):Option ((Ty)×((List Int)×Int×Int×Unit)):=xit [2,3,4,5] [[2],[3],[1000]] (X_ZY nf c33_ZY) (qB 1 (qB 0 (qS (X_ZY nf c44_ZY) (KQ [.c 2 (.v (kR 0))] [.box [.v (kL (.int .u8)),.v kI,.v kI]])))) m32 ⟨[(2,.pt [2] 0),(3,.pt [3] 0),(4,.v kI (w64 ((1:Int)+r42.1))),(5,.v kI x5_32)],[([2],.box [.v kI (0:Int),.nl kS,.nl (kR 0)]),([3],.box [.v kI y3_32_0,.v (kL kS) y3_32_1,.v (kL (kR 0)) y3_32_2]),([1000],.box [.v (kL (.int .u8)) r42.2.1,.v kI r42.2.2.1,.v kI r42.2.2.2.1])]⟩
theorem l32_ZY_eq(nf:Nat)(m32:Nat)(r42:(Int)×((List Int)×Int×Int×Unit))(x5_32:Int)(y3_32_0:Int)(y3_32_1:List Str)(y3_32_2:List Ty):l32_ZY nf (m32+1) r42 x5_32 y3_32_0 y3_32_1 y3_32_2=(br (decide (x5_32<(w64 ((1:Int)+r42.1)))) (cb (m_ZX nf (Ty.mk y3_32_0 y3_32_1 y3_32_2)) fun r50=>mark (l32_ZY nf m32 r42 (w64 (x5_32+(1:Int))) r50.kind r50.labels r50.args)) (some ((Ty.mk y3_32_0 y3_32_1 y3_32_2),(r42.2.1,r42.2.2.1,r42.2.2.2.1,())))):=by kernel_rfl
theorem m_ZY_eq(nf:Nat)(c_b:List Int)(c_i:Int)(c_h:Int):m_ZY nf c_b c_i c_h=(cb (m_Zab nf nf (4:Int) c_b c_i c_h) fun r7=>cb (m_ZO nf (10:Int) r7.2.1 r7.2.2.1 r7.2.2.2.1) fun r9=>br (r9.1==(0:Int)) (cb (m_ZO nf (7:Int) r9.2.1 r9.2.2.1 r9.2.2.2.1) fun r13=>some ((Ty.mk r13.1 r7.1.labels r7.1.args),(r13.2.1,r13.2.2.1,r13.2.2.2.1,()))) (br (r9.1==(1:Int)) (cb (m_ZU nf ([([97]:Str),([122]:Str),([105,102]:Str)]:List Str) r9.2.1 r9.2.2.1 r9.2.2.2.1) fun r21=>gg (List.length r7.1.labels+List.length ([r21.1]:List Str)<=33554432)<|some ((Ty.mk r7.1.kind (r7.1.labels++([r21.1]:List Str)) r7.1.args),(r21.2.1,r21.2.2.1,r21.2.2.2.1,()))) (br (r9.1==(2:Int)) (cb (m_Zaf nf) fun r29=>gg (List.length r7.1.args+List.length ([(Ty.h r29)]:List Ty)<=33554432)<|some ((Ty.mk r7.1.kind r7.1.labels (r7.1.args++([(Ty.h r29)]:List Ty))),(r9.2.1,r9.2.2.1,r9.2.2.2.1,()))) (br (r9.1==(3:Int)) (cb (m_Zab nf nf (2:Int) r9.2.1 r9.2.2.1 r9.2.2.2.1) fun r37=>cb (m_Zad nf (Ty.h r7.1) (Ty.h r37.1)) fun r38=>some ((Ty.h r38),(r37.2.1,r37.2.2.1,r37.2.2.2.1,()))) (br (r9.1==(4:Int)) (cb (m_ZO nf (5:Int) r9.2.1 r9.2.2.1 r9.2.2.2.1) fun r42=>mark (l32_ZY nf nf r42 (0:Int) r7.1.kind r7.1.labels r7.1.args)) (some ((Ty.h r7.1),(r9.2.1,r9.2.2.1,r9.2.2.2.1,())))))))):=by kernel_rfl
noncomputable def e_ZY(nf:Nat):XE:=eQ 34 [.pt 0 0] [.v (kR 0)] [.box [.v (kL (.int .u8)),.v kI,.v kI]] [.box [.v (kL (.int .u8)),.v kI,.v kI]] (fun t u=>m_ZY nf u.1 u.2.1 u.2.2.1)
theorem o_ZY(nf:Nat):conOK Try.prog 34 (e_ZY nf).con:=by
 have ih:XT.ok Try.prog (T_ZY nf):=by exact⟨o_Zab nf,o_ZO nf,o_ZU nf,o_Zaf nf,o_Zad nf,o_ZX nf,trivial⟩
 refine eQ_ok fun t u x h=> ?_
 obtain⟨_,_⟩:=t
 exact runQ_ok (N:=52) ih Try.func34 (by kernel_rfl) rfl rfl rfl rfl rfl h
end Go.Q
