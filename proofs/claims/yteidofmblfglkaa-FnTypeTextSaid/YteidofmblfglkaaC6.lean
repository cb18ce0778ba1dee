/- The text of a type, read: the reference's side. -/
import Derived.Test.YteidofmblfglkaaC2
import Derived.Test.YteidofmblfglkaaProg
import Derived.KernelRfl
set_option linter.unusedVariables false
set_option linter.unusedSimpArgs false
namespace Go.Q
open Go.Proofs
set_option maxRecDepth 20000
set_option maxHeartbeats 4000000
def ir_ZZ:C:=.sq (.rg [.al 0 (kR 0)]) (.sq (.rg [.bd 1 0 [(0,1,(.i 2))],.st T0 T1 (kR 0)]) .rt)
noncomputable abbrev T_ZZ(nf:Nat):XT:=[]
noncomputable def m_ZZ(nf:Nat):Option (Ty):=runF (T_ZZ nf) nf [] [.c 0 (.o (kR 0))] ir_ZZ (())
theorem m_ZZ_eq(nf:Nat):m_ZZ nf=(some (Ty.mk (2:Int) ([]:List Str) ([]:List Ty))):=by kernel_rfl
noncomputable def e_ZZ(nf:Nat):XE:=eF 97 [] [.o (kR 0)] (fun t=>m_ZZ nf)
theorem o_ZZ(nf:Nat):conOK Try.prog 97 (e_ZZ nf).con:=by
 have ih:XT.ok Try.prog (T_ZZ nf):=by exact trivial
 refine eF_ok fun t x h=> ?_
 exact runF_ok (N:=2) ih Try.func97 (by kernel_rfl) rfl h
def c10_Zal:C:=.sq (.rg [.mv 44 T0,.mv 45 T0,.nck 46 T45,.fa 47 T46 19 1 1,.ld 48 T47 kI,.mv 49 T1,.ln 50 true T49,.bi 51 .add T48 T50,.nck 52 T44,.fa 53 T52 19 1 1,.st T53 T51 kI]) (.sq (.rg [.mv 4 (.b true)]) .rt)
def c5_Zal:C:=.cd T43 (.sq (.rg [.mv 4 (.b false)]) .rt) .skip
def w5_Zal:C:=.kp [0,1,43] [[1000]] c5_Zal
def ir_Zal:C:=.sq (.rg [.mv 4 (.b false)]) (.sq (.sq (.dr [] [.mv 5 T0,.nck 6 T5,.fa 7 T6 19 2 2,.ld 8 T7 .bool,.mv 9 T8,.g 9 false (.mv 10 T0),.g 9 false (.nck 11 T10),.g 9 false (.fa 12 T11 19 1 1),.g 9 false (.ld 13 T12 kI),.g 9 false (.mv 14 T1),.g 9 false (.ln 15 true T14),.g 9 false (.bi 16 .add T13 T15),.g 9 false (.mv 17 T0),.g 9 false (.nck 18 T17),.g 9 false (.fa 19 T18 19 0 0),.g 9 false (.ld 20 T19 kS),.g 9 false (.ln 21 true T20),.g 9 false (.bi 22 .gtr T16 T21),.pk 23 T9 (.b true) T22,.mv 24 T23,.g 24 false (.mv 25 T0),.g 24 false (.nck 26 T25),.g 24 false (.fa 27 T26 19 0 0),.g 24 false (.ld 28 T27 kS),.g 24 false (.mv 29 T0),.g 24 false (.nck 30 T29),.g 24 false (.fa 31 T30 19 1 1),.g 24 false (.ld 32 T31 kI),.g 24 false (.mv 33 T0),.g 24 false (.nck 34 T33),.g 24 false (.fa 35 T34 19 1 1),.g 24 false (.ld 36 T35 kI),.g 24 false (.mv 37 T1),.g 24 false (.ln 38 true T37),.g 24 false (.bi 39 .add T36 T38),.g 24 false (.sx 40 T28 (some T32) (some T39)),.g 24 false (.mv 41 T1)] [.g 24 false (.bi 42 .neq T40 T41),.pk 43 T24 (.b true) T42]) w5_Zal) c10_Zal)
noncomputable abbrev T_Zal(nf:Nat):XT:=[]
noncomputable def m_Zal(nf:Nat)(s:Str)(r_s:Str)(r_at_:Int)(r_bad:Bool):Option ((Bool)×(Str×Int×Bool×Unit)):=runQ (T_Zal nf) nf [.pt 0 0,.v kS] [.box [.v kS,.v kI,.v .bool]] [.box [.v kS,.v kI,.v .bool]] [.t 4 (.v .bool)] ir_Zal ((),s,()) (r_s,r_at_,r_bad,())
noncomputable def X_Zal{R:Type}(nf:Nat):C->Env->(Xt->Env->Option R)->Option R:=xc (R:=R) (T_Zal nf).S nf
noncomputable def j5_Zal(nf:Nat)(s:Str)(r_s:Str)(r_at_:Int)(r_bad:Bool)(x43_5:Bool):Option ((Bool)×(Str×Int×Bool×Unit)):=X_Zal nf c5_Zal ⟨[(0,.pt [1000] 0),(1,.v kS s),(43,.v .bool x43_5)],[([1000],.box [.v kS r_s,.v kI r_at_,.v .bool r_bad])]⟩ (qS (X_Zal nf c10_Zal) (KQ [.t 4 (.v .bool)] [.box [.v kS,.v kI,.v .bool]]))
theorem j5_Zal_eq(nf:Nat)(s:Str)(r_s:Str)(r_at_:Int)(r_bad:Bool)(x43_5:Bool):j5_Zal nf s r_s r_at_ r_bad x43_5=(br x43_5 (some (false,(r_s,r_at_,r_bad,()))) (some (true,(r_s,(w64 (r_at_+(List.length s:Int))),r_bad,())))):=by kernel_rfl
theorem m_Zal_eq(nf:Nat)(s:Str)(r_s:Str)(r_at_:Int)(r_bad:Bool):m_Zal nf s r_s r_at_ r_bad=(br (r_bad==false) (br ((decide ((List.length r_s:Int)<(w64 (r_at_+(List.length s:Int)))))==false) (gg (0<=r_at_∧r_at_<=(w64 (r_at_+(List.length s:Int)))∧(w64 (r_at_+(List.length s:Int)))<=(List.length r_s:Int))<|mark (j5_Zal nf s r_s r_at_ r_bad (!((List.drop (Int.toNat r_at_) (List.take (Int.toNat (w64 (r_at_+(List.length s:Int)))) r_s))==s)))) (mark (j5_Zal nf s r_s r_at_ r_bad true))) (mark (j5_Zal nf s r_s r_at_ r_bad true))):=by
 conv=>lhs;unfold m_Zal
 unfold j5_Zal ir_Zal w5_Zal c10_Zal
 generalize c5_Zal=x0
 revert x0
 refine id ?_
 intro x0
 kernel_rfl
noncomputable def e_Zal(nf:Nat):XE:=eQ 96 [.pt 0 0,.v kS] [.v .bool] [.box [.v kS,.v kI,.v .bool]] [.box [.v kS,.v kI,.v .bool]] (fun t u=>m_Zal nf t.2.1 u.1 u.2.1 u.2.2.1)
theorem o_Zal(nf:Nat):conOK Try.prog 96 (e_Zal nf).con:=by
 have ih:XT.ok Try.prog (T_Zal nf):=by exact trivial
 refine eQ_ok fun t u x h=> ?_
 obtain⟨_,s,_⟩:=t
 exact runQ_ok (N:=54) ih Try.func96 (by kernel_rfl) rfl rfl rfl rfl rfl h
def ir_Zaj:C:=.rg [.mv 4 T0,.mv 5 T0,.nck 6 T5,.fa 7 T6 19 2 2,.ld 8 T7 .bool,.mv 9 T8,.g 9 false (.mv 10 T0),.g 9 false (.mv 11 T1),.g 9 false (.cq (some 12) 96 [(T10,.q),(T11,.v kS)]),.g 9 false (.un 13 .not T12),.pk 14 T9 (.b true) T13,.nck 15 T4,.fa 16 T15 19 2 2,.st T16 T14 .bool]
noncomputable abbrev T_Zaj(nf:Nat):XT:=[e_Zal nf]
noncomputable def m_Zaj(nf:Nat)(s:Str)(r_s:Str)(r_at_:Int)(r_bad:Bool):Option ((Unit)×(Str×Int×Bool×Unit)):=runQ (T_Zaj nf) nf [.pt 0 0,.v kS] [.box [.v kS,.v kI,.v .bool]] [.box [.v kS,.v kI,.v .bool]] [] ir_Zaj ((),s,()) (r_s,r_at_,r_bad,())
theorem m_Zaj_eq(nf:Nat)(s:Str)(r_s:Str)(r_at_:Int)(r_bad:Bool):m_Zaj nf s r_s r_at_ r_bad=(br (r_bad==false) (cb (m_Zal nf s r_s r_at_ r_bad) fun r12=>some ((),(r12.2.1,r12.2.2.1,(!r12.1),()))) (some ((),(r_s,r_at_,true,())))):=by kernel_rfl
noncomputable def e_Zaj(nf:Nat):XE:=eQ 99 [.pt 0 0,.v kS] [] [.box [.v kS,.v kI,.v .bool]] [.box [.v kS,.v kI,.v .bool]] (fun t u=>m_Zaj nf t.2.1 u.1 u.2.1 u.2.2.1)
theorem o_Zaj(nf:Nat):conOK Try.prog 99 (e_Zaj nf).con:=by
 have ih:XT.ok Try.prog (T_Zaj nf):=by exact⟨o_Zal nf,trivial⟩
 refine eQ_ok fun t u x h=> ?_
 obtain⟨_,s,_⟩:=t
 exact runQ_ok (N:=17) ih Try.func99 (by kernel_rfl) rfl rfl rfl rfl rfl h
def c15_Zao:C:=.sq (.dr [] [.mv 74 T0,.nck 75 T74,.fa 76 T75 19 0 0,.ld 77 T76 kS,.mv 78 T3,.mv 79 T0,.nck 80 T79,.fa 81 T80 19 1 1,.ld 82 T81 kI] [.sx 83 T77 (some T78) (some T82),.mv 2 T83]) .rt
def w15_Zao:C:=.kp [0,3] [[1000]] c15_Zao
def c13_Zao:C:=.bk 1 (.rg [.mv 66 T0,.mv 67 T0,.nck 68 T67,.fa 69 T68 19 1 1,.ld 70 T69 kI,.bi 71 .add T70 (.i 1),.nck 72 T66,.fa 73 T72 19 1 1,.st T73 T71 kI])
def c10_Zao:C:=.cd T65 .skip (.ex 0)
def w10_Zao:C:=.kp [0,3,65] [[1000]] c10_Zao
def c7_Zao:C:=.sq (.sq (.dr [] [.mv 8 T0,.nck 9 T8,.fa 10 T9 19 1 1,.ld 11 T10 kI,.mv 12 T0,.nck 13 T12,.fa 14 T13 19 0 0,.ld 15 T14 kS,.ln 16 true T15,.bi 17 .lss T11 T16,.mv 18 T17,.g 18 true (.mv 19 T0),.g 18 true (.nck 20 T19),.g 18 true (.fa 21 T20 19 0 0),.g 18 true (.ld 22 T21 kS),.g 18 true (.mv 23 T0),.g 18 true (.nck 24 T23),.g 18 true (.fa 25 T24 19 1 1),.g 18 true (.ld 26 T25 kI),.g 18 true (.ix 27 T22 T26),.g 18 true (.bi 28 .geq T27 (.k .u8 48)),.g 18 true (.mv 29 T28),.g 29 true (.mv 30 T0),.g 29 true (.nck 31 T30),.g 29 true (.fa 32 T31 19 0 0),.g 29 true (.ld 33 T32 kS),.g 29 true (.mv 34 T0),.g 29 true (.nck 35 T34),.g 29 true (.fa 36 T35 19 1 1),.g 29 true (.ld 37 T36 kI),.g 29 true (.ix 38 T33 T37),.g 29 true (.bi 39 .leq T38 (.k .u8 57)),.g 18 true (.pk 40 T29 T39 (.b false)),.g 18 true (.mv 41 T40),.g 41 false (.mv 42 T0),.g 41 false (.nck 43 T42),.g 41 false (.fa 44 T43 19 0 0),.g 41 false (.ld 45 T44 kS),.g 41 false (.mv 46 T0),.g 41 false (.nck 47 T46),.g 41 false (.fa 48 T47 19 1 1),.g 41 false (.ld 49 T48 kI),.g 41 false (.ix 50 T45 T49),.g 41 false (.bi 51 .geq T50 (.k .u8 97)),.g 41 false (.mv 52 T51),.g 52 true (.mv 53 T0),.g 52 true (.nck 54 T53),.g 52 true (.fa 55 T54 19 0 0),.g 52 true (.ld 56 T55 kS),.g 52 true (.mv 57 T0),.g 52 true (.nck 58 T57),.g 52 true (.fa 59 T58 19 1 1),.g 52 true (.ld 60 T59 kI)] [.g 52 true (.ix 61 T56 T60),.g 52 true (.bi 62 .leq T61 (.k .u8 122)),.g 41 false (.pk 63 T52 T62 (.b false)),.g 18 true (.pk 64 T41 (.b true) T63),.pk 65 T18 T64 (.b false)]) w10_Zao) c13_Zao
def ir_Zao:C:=.sq (.rg [.mv 2 (.s [])]) (.sq (.rg [.mv 4 T0,.nck 5 T4,.fa 6 T5 19 1 1,.ld 7 T6 kI,.mv 3 T7]) (.sq (.bk 0 (.lk [0,3] [[1000]] c7_Zao)) w15_Zao))
noncomputable abbrev T_Zao(nf:Nat):XT:=[]
noncomputable def m_Zao(nf:Nat)(r_s:Str)(r_at_:Int)(r_bad:Bool):Option ((Str)×(Str×Int×Bool×Unit)):=runQ (T_Zao nf) nf [.pt 0 0] [.box [.v kS,.v kI,.v .bool]] [.box [.v kS,.v kI,.v .bool]] [.t 2 (.v kS)] ir_Zao ((),()) (r_s,r_at_,r_bad,())
noncomputable def X_Zao{R:Type}(nf:Nat):C->Env->(Xt->Env->Option R)->Option R:=xc (R:=R) (T_Zao nf).S nf
noncomputable def j10_Zao(nf:Nat)(m6:Nat)(r_at_:Int)(r_s:Str)(y1000_6_1:Int)(r_bad:Bool)(x65_10:Bool):Option ((Str)×(Str×Int×Bool×Unit)):=X_Zao nf c10_Zao ⟨[(0,.pt [1000] 0),(3,.v kI r_at_),(65,.v .bool x65_10)],[([1000],.box [.v kS r_s,.v kI y1000_6_1,.v .bool r_bad])]⟩ (qS (X_Zao nf c13_Zao) (qM [0,3] [[1000]] (X_Zao nf c7_Zao) m6 (qB 0 (qS (X_Zao nf w15_Zao) (KQ [.t 2 (.v kS)] [.box [.v kS,.v kI,.v .bool]])))))
noncomputable def l6_Zao(nf:Nat)(m6:Nat)(r_at_:Int)(r_s:Str)(r_bad:Bool)(y1000_6_1:Int):Option ((Str)×(Str×Int×Bool×Unit)):=xit [0,3] [[1000]] (X_Zao nf c7_Zao) (qB 0 (qS (X_Zao nf w15_Zao) (KQ [.t 2 (.v kS)] [.box [.v kS,.v kI,.v .bool]]))) m6 ⟨[(0,.pt [1000] 0),(3,.v kI r_at_)],[([1000],.box [.v kS r_s,.v kI y1000_6_1,.v .bool r_bad])]⟩
noncomputable def j15_Zao(nf:Nat)(r_at_:Int)(r_s:Str)(y1000_6_1:Int)(r_bad:Bool):Option ((Str)×(Str×Int×Bool×Unit)):=X_Zao nf c15_Zao ⟨[(0,.pt [1000] 0),(3,.v kI r_at_)],[([1000],.box [.v kS r_s,.v kI y1000_6_1,.v .bool r_bad])]⟩ (KQ [.t 2 (.v kS)] [.box [.v kS,.v kI,.v .bool]])
theorem j10_Zao_eq(nf:Nat)(m6:Nat)(r_at_:Int)(r_s:Str)(y1000_6_1:Int)(r_bad:Bool)(x65_10:Bool):j10_Zao nf m6 r_at_ r_s y1000_6_1 r_bad x65_10=(br x65_10 (mark (l6_Zao nf m6 r_at_ r_s r_bad (w64 (y1000_6_1+(1:Int))))) (mark (j15_Zao nf r_at_ r_s y1000_6_1 r_bad))):=by
 unfold j10_Zao l6_Zao j15_Zao c10_Zao w15_Zao c13_Zao
 generalize c15_Zao=x0
 revert x0
 refine id ?_
 intro x0
 kernel_rfl
theorem l6_Zao_eq(nf:Nat)(m6:Nat)(r_at_:Int)(r_s:Str)(r_bad:Bool)(y1000_6_1:Int):l6_Zao nf (m6+1) r_at_ r_s r_bad y1000_6_1=(br ((decide (y1000_6_1<(List.length r_s:Int)))==true) (gg (0<=y1000_6_1∧y1000_6_1<(List.length r_s:Int))<|br ((decide ((48:Int)<=((List.getD r_s (Int.toNat y1000_6_1) 0).toNat:Int)))==true) (gg (0<=y1000_6_1∧y1000_6_1<(List.length r_s:Int))<|br ((decide (((List.getD r_s (Int.toNat y1000_6_1) 0).toNat:Int)<=(57:Int)))==false) (gg (0<=y1000_6_1∧y1000_6_1<(List.length r_s:Int))<|br ((decide ((97:Int)<=((List.getD r_s (Int.toNat y1000_6_1) 0).toNat:Int)))==true) (gg (0<=y1000_6_1∧y1000_6_1<(List.length r_s:Int))<|mark (j10_Zao nf m6 r_at_ r_s y1000_6_1 r_bad (decide (((List.getD r_s (Int.toNat y1000_6_1) 0).toNat:Int)<=(122:Int))))) (mark (j10_Zao nf m6 r_at_ r_s y1000_6_1 r_bad false))) (mark (j10_Zao nf m6 r_at_ r_s y1000_6_1 r_bad true))) (gg (0<=y1000_6_1∧y1000_6_1<(List.length r_s:Int))<|br ((decide ((97:Int)<=((List.getD r_s (Int.toNat y1000_6_1) 0).toNat:Int)))==true) (gg (0<=y1000_6_1∧y1000_6_1<(List.length r_s:Int))<|mark (j10_Zao nf m6 r_at_ r_s y1000_6_1 r_bad (decide (((List.getD r_s (Int.toNat y1000_6_1) 0).toNat:Int)<=(122:Int))))) (mark (j10_Zao nf m6 r_at_ r_s y1000_6_1 r_bad false)))) (mark (j10_Zao nf m6 r_at_ r_s y1000_6_1 r_bad false))):=by
 unfold l6_Zao j10_Zao c7_Zao w15_Zao w10_Zao c13_Zao
 generalize c15_Zao=x0
 generalize c10_Zao=x1
 revert x0 x1
 refine id ?_
 intro x0 x1
 kernel_rfl
theorem j15_Zao_eq(nf:Nat)(r_at_:Int)(r_s:Str)(y1000_6_1:Int)(r_bad:Bool):j15_Zao nf r_at_ r_s y1000_6_1 r_bad=(gg (0<=r_at_∧r_at_<=y1000_6_1∧y1000_6_1<=(List.length r_s:Int))<|some ((List.drop (Int.toNat r_at_) (List.take (Int.toNat y1000_6_1) r_s)),(r_s,y1000_6_1,r_bad,()))):=by kernel_rfl
theorem m_Zao_eq(nf:Nat)(r_s:Str)(r_at_:Int)(r_bad:Bool):m_Zao nf r_s r_at_ r_bad=(mark (l6_Zao nf nf r_at_ r_s r_bad r_at_)):=by
 conv=>lhs;unfold m_Zao
 unfold l6_Zao ir_Zao w15_Zao
 generalize c15_Zao=x0
 revert x0
 refine id ?_
 intro x0
 kernel_rfl
noncomputable def e_Zao(nf:Nat):XE:=eQ 115 [.pt 0 0] [.v kS] [.box [.v kS,.v kI,.v .bool]] [.box [.v kS,.v kI,.v .bool]] (fun t u=>m_Zao nf u.1 u.2.1 u.2.2.1)
theorem o_Zao(nf:Nat):conOK Try.prog 115 (e_Zao nf).con:=by
 have ih:XT.ok Try.prog (T_Zao nf):=by exact trivial
 refine eQ_ok fun t u x h=> ?_
 obtain⟨_,_⟩:=t
 exact runQ_ok (N:=84) ih Try.func115 (by kernel_rfl) rfl rfl rfl rfl rfl h
def c25_Zak:C:=.sq (.rg [.mv 32 T0,.cq (some 33) 99 [(T32,.q),((.s [125]),.v kS)]]) (.sq (.rg [.ld 34 T5 (kR 0),.st T4 T34 (kR 0)]) .rt)
def w25_Zak:C:=.kp [0,4,5] [[4],[5],[5,1],[5,2],[1000]] c25_Zak
def c7_Zak:C:=.sq (.sq (.rg [.mv 7 T0,.nck 8 T7,.fa 9 T8 19 2 2,.ld 10 T9 .bool,.un 11 .not T10]) (.cd T11 .skip (.ex 0))) (.bk 1 (.sq (.dq [0] [0,5] 15 [.fa 12 T5 0 1 1,.ld 13 T12 (kL kS),.mv 14 T0,.cq (some 15) 115 [(T14,.q)],.bf 16 kS [T15]] [.ap 17 [5,1] true kS T13 T16,.fa 18 T5 0 1 1,.st T18 T17 (kL kS)]) (.sq (.rg [.mv 19 T0,.cq (some 20) 99 [(T19,.q),((.s [58]),.v kS)]]) (.sq (.gb 5 2 true (kR 0) (.dl [0] [0,1,5] 25 [.fa 21 T5 0 2 2,.ld 22 T21 (kL (kR 0)),.mv 23 T0,.mv 24 T1,.cq (some 25) 66 [(T23,.q),(T24,.v kI)]] 26 (kR 0) [T25] [.apl 27 [5,2] (kR 0) T22 26,.fa 28 T5 0 2 2,.st T28 T27 (kL (kR 0))])) (.sq (.rg [.mv 29 T0,.cq (some 30) 96 [(T29,.q),((.s [44]),.v kS)],.un 31 .not T30]) (.cd T31 (.ex 0) .skip))))))
def ir_Zak:C:=.sq (.rg [.al 4 (kR 0)]) (.sq (.rg [.bd 6 0 [(0,1,(.i 3))],.al 5 (kR 0),.st T5 T6 (kR 0)]) (.sq (.bk 0 (.gb 5 1 true kS (.gb 5 2 true (kR 0) (.lk [0,1,4,5] [[4],[5],[5,1],[5,2],[1000]] c7_Zak)))) w25_Zak))
def c4_Zan:C:=.sq (.bk 0 (.sq (.rg [.mv 20 T0,.nck 21 T20,.fa 22 T21 19 2 2,.ld 23 T22 .bool,.mv 19 T23]) (.cd T19 (.sq (.rg [.bd 24 0 [],.st T4 T24 (kR 0)]) .rt) (.sq (.rg [.mv 26 T0,.cq (some 27) 96 [(T26,.q),((.s [73]),.v kS)],.mv 25 T27]) (.cd T25 (.sq (.rg [.ca (some 28) 74 [],.st T4 T28 (kR 0)]) .rt) (.sq (.rg [.mv 30 T0,.cq (some 31) 96 [(T30,.q),((.s [66]),.v kS)],.mv 29 T31]) (.cd T29 (.sq (.rg [.ca (some 32) 97 [],.st T4 T32 (kR 0)]) .rt) (.sq (.rg [.mv 34 T0,.cq (some 35) 96 [(T34,.q),((.s [123]),.v kS)],.mv 33 T35]) (.cd T33 (.sq (.rg [.mv 36 T0,.mv 37 T1,.bi 38 .add T37 (.i 1),.cq (some 39) 98 [(T36,.q),(T38,.v kI)],.st T4 T39 (kR 0)]) .rt) (.sq (.rg [.mv 41 T0,.cq (some 42) 96 [(T41,.q),((.s [91]),.v kS)],.mv 40 T42]) (.cd T40 (.sq (.rg [.mv 43 T0,.mv 44 T1,.bi 45 .add T44 (.i 1),.cq (some 46) 66 [(T43,.q),(T45,.v kI)],.bo 47 (kR 0) [T46],.bd 48 0 [(0,1,(.i 4)),(2,1,T47)],.al 5 (kR 0),.st T5 T48 (kR 0)]) (.sq (.rg [.mv 49 T0,.cq (some 50) 99 [(T49,.q),((.s [93]),.v kS)]]) (.sq (.rg [.ld 51 T5 (kR 0),.st T4 T51 (kR 0)]) .rt))) .skip))))))))))) (.sq (.rg [.mv 52 T0,.cq (some 53) 99 [(T52,.q),((.s [40]),.v kS)]]) (.sq (.sq (.rg [.mv 54 T0,.nck 55 T54,.fa 56 T55 19 2 2,.ld 57 T56 .bool]) (.cd T57 (.sq (.rg [.bd 58 0 [],.st T4 T58 (kR 0)]) .rt) .skip)) (.sq (.rg [.mv 59 T0,.mv 60 T1,.bi 61 .add T60 (.i 1),.cq (some 62) 66 [(T59,.q),(T61,.v kI)],.al 6 (kR 0),.st T6 T62 (kR 0)]) (.sq (.rg [.mv 63 T0,.cq (some 64) 99 [(T63,.q),((.s [62]),.v kS)]]) (.sq (.sq (.rg [.mv 65 T0,.nck 66 T65,.fa 67 T66 19 2 2,.ld 68 T67 .bool]) (.cd T68 (.sq (.rg [.bd 69 0 [],.st T4 T69 (kR 0)]) .rt) .skip)) (.sq (.rg [.mv 70 T0,.mv 71 T1,.bi 72 .add T71 (.i 1),.cq (some 73) 66 [(T70,.q),(T72,.v kI)],.al 7 (kR 0),.st T7 T73 (kR 0)]) (.sq (.rg [.mv 74 T0,.cq (some 75) 99 [(T74,.q),((.s [41]),.v kS)]]) (.sq (.rg [.ld 76 T6 (kR 0),.ld 77 T7 (kR 0),.bo 78 (kR 0) [T76,T77],.bd 79 0 [(0,1,(.i 5)),(2,1,T78)],.st T4 T79 (kR 0)]) .rt))))))))
def w4_Zan:C:=.kp [0,1,4] [[4],[1000]] c4_Zan
def ir_Zan:C:=.sq (.rg [.al 4 (kR 0)]) (.sq (.rg [.mv 8 T0,.mv 9 T0,.nck 10 T9,.fa 11 T10 19 2 2,.ld 12 T11 .bool,.mv 13 T12,.g 13 false (.mv 14 T1),.g 13 false (.bi 15 .gtr T14 (.i 7)),.pk 16 T13 (.b true) T15,.nck 17 T8,.fa 18 T17 19 2 2,.st T18 T16 .bool]) w4_Zan)
noncomputable def B_Zak(nf:Nat):XT:=[e_Zao nf,e_Zaj nf,e_Zal nf,e_Zaf nf,e_ZZ nf]
noncomputable def G_Zak(nf:Nat):Nat->XT
 |0=>[]
 |kf+1=>[eQ 98 [.pt 0 0,.v kI] [.o (kR 0)] [.box [.v kS,.v kI,.v .bool]] [.box [.v kS,.v kI,.v .bool]] (fun t u=>(fun(depth:Int) (r_s:Str) (r_at_:Int) (r_bad:Bool)=>runQ (G_Zak nf kf++B_Zak nf) nf [.pt 0 0,.v kI] [.box [.v kS,.v kI,.v .bool]] [.box [.v kS,.v kI,.v .bool]] [.c 4 (.o (kR 0))] ir_Zak ((),depth,()) (r_s,r_at_,r_bad,())) t.2.1 u.1 u.2.1 u.2.2.1),
  eQ 66 [.pt 0 0,.v kI] [.o (kR 0)] [.box [.v kS,.v kI,.v .bool]] [.box [.v kS,.v kI,.v .bool]] (fun t u=>(fun(depth:Int) (r_s:Str) (r_at_:Int) (r_bad:Bool)=>runQ (G_Zak nf kf++B_Zak nf) nf [.pt 0 0,.v kI] [.box [.v kS,.v kI,.v .bool]] [.box [.v kS,.v kI,.v .bool]] [.c 4 (.o (kR 0))] ir_Zan ((),depth,()) (r_s,r_at_,r_bad,())) t.2.1 u.1 u.2.1 u.2.2.1)]
noncomputable abbrev T_Zak(nf kf:Nat):XT:=G_Zak nf kf++B_Zak nf
noncomputable abbrev T_Zan(nf kf:Nat):XT:=G_Zak nf kf++B_Zak nf
noncomputable def m_Zak(nf kf:Nat)(depth:Int)(r_s:Str)(r_at_:Int)(r_bad:Bool):Option ((Ty)×(Str×Int×Bool×Unit)):=runQ (T_Zak nf kf) nf [.pt 0 0,.v kI] [.box [.v kS,.v kI,.v .bool]] [.box [.v kS,.v kI,.v .bool]] [.c 4 (.o (kR 0))] ir_Zak ((),depth,()) (r_s,r_at_,r_bad,())
noncomputable def X_Zak{R:Type}(nf kf:Nat):C->Env->(Xt->Env->Option R)->Option R:=xc (R:=R) (T_Zak nf kf).S nf
noncomputable def m_Zan(nf kf:Nat)(depth:Int)(r_s:Str)(r_at_:Int)(r_bad:Bool):Option ((Ty)×(Str×Int×Bool×Unit)):=runQ (T_Zan nf kf) nf [.pt 0 0,.v kI] [.box [.v kS,.v kI,.v .bool]] [.box [.v kS,.v kI,.v .bool]] [.c 4 (.o (kR 0))] ir_Zan ((),depth,()) (r_s,r_at_,r_bad,())
noncomputable def X_Zan{R:Type}(nf kf:Nat):C->Env->(Xt->Env->Option R)->Option R:=xc (R:=R) (T_Zan nf kf).S nf
noncomputable def l6_Zak(nf kf:Nat)(m6:Nat)(depth:Int)(y1000_6_0:Str)(y1000_6_1:Int)(y1000_6_2:Bool)(y5_1_6:List Str)(y5_2_6:List Ty):Option ((Ty)×(Str×Int×Bool×Unit)):=xit [0,1,4,5] [[4],[5],[5,1],[5,2],[1000]] (X_Zak nf kf c7_Zak) (qB 0 (qS (X_Zak nf kf w25_Zak) (KQ [.c 4 (.o (kR 0))] [.box [.v kS,.v kI,.v .bool]]))) m6 ⟨[(0,.pt [1000] 0),(1,.v kI depth),(4,.pt [4] 0),(5,.pt [5] 0)],[([4],.box [.v kI (0:Int),.nl kS,.nl (kR 0)]),([5],.box [.v kI (3:Int),.sl [5,1],.sl [5,2]]),([5,1],.row true false kS y5_1_6),([5,2],.row true false (kR 0) y5_2_6),([1000],.box [.v kS y1000_6_0,.v kI y1000_6_1,.v .bool y1000_6_2])]⟩
noncomputable def j25_Zak(nf kf:Nat)(y1000_25_0:Str)(y1000_25_1:Int)(y1000_25_2:Bool)(y5_1_25:List Str)(y5_2_25:List Ty):Option ((Ty)×(Str×Int×Bool×Unit)):=X_Zak nf kf c25_Zak ⟨[(0,.pt [1000] 0),(4,.pt [4] 0),(5,.pt [5] 0)],[([4],.box [.v kI (0:Int),.nl kS,.nl (kR 0)]),([5],.box [.v kI (3:Int),.sl [5,1],.sl [5,2]]),([5,1],.row true false kS y5_1_25),([5,2],.row true false (kR 0) y5_2_25),([1000],.box [.v kS y1000_25_0,.v kI y1000_25_1,.v .bool y1000_25_2])]⟩ (KQ [.c 4 (.o (kR 0))] [.box [.v kS,.v kI,.v .bool]])
theorem l6_Zak_eq(nf kf:Nat)(m6:Nat)(depth:Int)(y1000_6_0:Str)(y1000_6_1:Int)(y1000_6_2:Bool)(y5_1_6:List Str)(y5_2_6:List Ty):l6_Zak nf (kf+1) (m6+1) depth y1000_6_0 y1000_6_1 y1000_6_2 y5_1_6 y5_2_6=(br (!y1000_6_2) (cb (m_Zao nf y1000_6_0 y1000_6_1 y1000_6_2) fun r15=>gg (List.length y5_1_6+List.length ([r15.1]:List Str)<=33554432)<|cb (m_Zaj nf ([58]:Str) r15.2.1 r15.2.2.1 r15.2.2.2.1) fun r20=>cb (m_Zan nf kf depth r20.2.1 r20.2.2.1 r20.2.2.2.1) fun r25=>gg (List.length y5_2_6+List.length ([(Ty.h r25.1)]:List Ty)<=33554432)<|cb (m_Zal nf ([44]:Str) r25.2.1 r25.2.2.1 r25.2.2.2.1) fun r30=>br (!r30.1) (mark (j25_Zak nf (kf+1) r30.2.1 r30.2.2.1 r30.2.2.2.1 (y5_1_6++([r15.1]:List Str)) (y5_2_6++([(Ty.h r25.1)]:List Ty)))) (mark (l6_Zak nf (kf+1) m6 depth r30.2.1 r30.2.2.1 r30.2.2.2.1 (y5_1_6++([r15.1]:List Str)) (y5_2_6++([(Ty.h r25.1)]:List Ty))))) (mark (j25_Zak nf (kf+1) y1000_6_0 y1000_6_1 y1000_6_2 y5_1_6 y5_2_6))):=by
 unfold l6_Zak j25_Zak c7_Zak w25_Zak
 generalize c25_Zak=x0
 revert x0
 refine id ?_
 intro x0
 kernel_rfl
theorem j25_Zak_eq(nf kf:Nat)(y1000_25_0:Str)(y1000_25_1:Int)(y1000_25_2:Bool)(y5_1_25:List Str)(y5_2_25:List Ty):j25_Zak nf (kf+1) y1000_25_0 y1000_25_1 y1000_25_2 y5_1_25 y5_2_25=(cb (m_Zaj nf ([125]:Str) y1000_25_0 y1000_25_1 y1000_25_2) fun r33=>some ((Ty.mk (3:Int) y5_1_25 y5_2_25),(r33.2.1,r33.2.2.1,r33.2.2.2.1,()))):=by kernel_rfl
theorem m_Zak_eq(nf kf:Nat)(depth:Int)(r_s:Str)(r_at_:Int)(r_bad:Bool):m_Zak nf (kf+1) depth r_s r_at_ r_bad=(mark (l6_Zak nf (kf+1) nf depth r_s r_at_ r_bad ([]:List Str) ([]:List Ty))):=by
 conv=>lhs;unfold m_Zak
 unfold l6_Zak ir_Zak w25_Zak
 generalize c25_Zak=x0
 revert x0
 refine id ?_
 intro x0
 kernel_rfl
noncomputable def j4_Zan(nf kf:Nat)(depth:Int)(r_s:Str)(r_at_:Int)(y1000_4_2:Bool):Option ((Ty)×(Str×Int×Bool×Unit)):=X_Zan nf kf c4_Zan ⟨[(0,.pt [1000] 0),(1,.v kI depth),(4,.pt [4] 0)],[([4],.box [.v kI (0:Int),.nl kS,.nl (kR 0)]),([1000],.box [.v kS r_s,.v kI r_at_,.v .bool y1000_4_2])]⟩ (KQ [.c 4 (.o (kR 0))] [.box [.v kS,.v kI,.v .bool]])
theorem j4_Zan_eq(nf kf:Nat)(depth:Int)(r_s:Str)(r_at_:Int)(y1000_4_2:Bool):j4_Zan nf (kf+1) depth r_s r_at_ y1000_4_2=(br y1000_4_2 (some ((Ty.mk (0:Int) ([]:List Str) ([]:List Ty)),(r_s,r_at_,y1000_4_2,()))) (cb (m_Zal nf ([73]:Str) r_s r_at_ y1000_4_2) fun r27=>br r27.1 (cb (m_Zaf nf) fun r28=>some ((Ty.h r28),(r27.2.1,r27.2.2.1,r27.2.2.2.1,()))) (cb (m_Zal nf ([66]:Str) r27.2.1 r27.2.2.1 r27.2.2.2.1) fun r31=>br r31.1 (cb (m_ZZ nf) fun r32=>some ((Ty.h r32),(r31.2.1,r31.2.2.1,r31.2.2.2.1,()))) (cb (m_Zal nf ([123]:Str) r31.2.1 r31.2.2.1 r31.2.2.2.1) fun r35=>br r35.1 (cb (m_Zak nf kf (w64 (depth+(1:Int))) r35.2.1 r35.2.2.1 r35.2.2.2.1) fun r39=>some ((Ty.h r39.1),(r39.2.1,r39.2.2.1,r39.2.2.2.1,()))) (cb (m_Zal nf ([91]:Str) r35.2.1 r35.2.2.1 r35.2.2.2.1) fun r42=>br r42.1 (cb (m_Zan nf kf (w64 (depth+(1:Int))) r42.2.1 r42.2.2.1 r42.2.2.2.1) fun r46=>cb (m_Zaj nf ([93]:Str) r46.2.1 r46.2.2.1 r46.2.2.2.1) fun r50=>some ((Ty.mk (4:Int) ([]:List Str) ([(Ty.h r46.1)]:List Ty)),(r50.2.1,r50.2.2.1,r50.2.2.2.1,()))) (cb (m_Zaj nf ([40]:Str) r42.2.1 r42.2.2.1 r42.2.2.2.1) fun r53=>br r53.2.2.2.1 (some ((Ty.mk (0:Int) ([]:List Str) ([]:List Ty)),(r53.2.1,r53.2.2.1,r53.2.2.2.1,()))) (cb (m_Zan nf kf (w64 (depth+(1:Int))) r53.2.1 r53.2.2.1 r53.2.2.2.1) fun r62=>cb (m_Zaj nf ([62]:Str) r62.2.1 r62.2.2.1 r62.2.2.2.1) fun r64=>br r64.2.2.2.1 (some ((Ty.mk (0:Int) ([]:List Str) ([]:List Ty)),(r64.2.1,r64.2.2.1,r64.2.2.2.1,()))) (cb (m_Zan nf kf (w64 (depth+(1:Int))) r64.2.1 r64.2.2.1 r64.2.2.2.1) fun r73=>cb (m_Zaj nf ([41]:Str) r73.2.1 r73.2.2.1 r73.2.2.2.1) fun r75=>some ((Ty.mk (5:Int) ([]:List Str) ([(Ty.h r62.1),(Ty.h r73.1)]:List Ty)),(r75.2.1,r75.2.2.1,r75.2.2.2.1,())))))))))):=by kernel_rfl
theorem m_Zan_eq(nf kf:Nat)(depth:Int)(r_s:Str)(r_at_:Int)(r_bad:Bool):m_Zan nf (kf+1) depth r_s r_at_ r_bad=(br (r_bad==false) (mark (j4_Zan nf (kf+1) depth r_s r_at_ (decide ((7:Int)<depth)))) (mark (j4_Zan nf (kf+1) depth r_s r_at_ true))):=by
 conv=>lhs;unfold m_Zan
 unfold j4_Zan ir_Zan w4_Zan
 generalize c4_Zan=x0
 revert x0
 refine id ?_
 intro x0
 kernel_rfl
noncomputable def e_Zan(nf:Nat):XE:=eQ 66 [.pt 0 0,.v kI] [.o (kR 0)] [.box [.v kS,.v kI,.v .bool]] [.box [.v kS,.v kI,.v .bool]] (fun t u=>m_Zan nf nf t.2.1 u.1 u.2.1 u.2.2.1)
theorem gok_Zak(nf:Nat):∀kf:Nat,XT.ok Try.prog (G_Zak nf kf++B_Zak nf)
 |0=>by exact⟨o_Zao nf,o_Zaj nf,o_Zal nf,o_Zaf nf,o_ZZ nf,trivial⟩
 |kf+1=>by
  have ih:=gok_Zak nf kf
  refine⟨?_,?_,(by exact⟨o_Zao nf,o_Zaj nf,o_Zal nf,o_Zaf nf,o_ZZ nf,trivial⟩)⟩
  ·refine eQ_ok fun t u x h=> ?_
   obtain⟨_,depth,_⟩:=t
   exact runQ_ok (N:=35) ih Try.func98 (by kernel_rfl) rfl rfl rfl rfl rfl h
  ·refine eQ_ok fun t u x h=> ?_
   obtain⟨_,depth,_⟩:=t
   exact runQ_ok (N:=80) ih Try.func66 (by kernel_rfl) rfl rfl rfl rfl rfl h
theorem o_Zan(nf:Nat):conOK Try.prog 66 (e_Zan nf).con:=by
 have ih:=gok_Zak nf nf
 refine eQ_ok fun t u x h=> ?_
 obtain⟨_,depth,_⟩:=t
 exact runQ_ok (N:=80) ih Try.func66 (by kernel_rfl) rfl rfl rfl rfl rfl h
def c27_Zam:C:=.sq (.sq (.rg [.fa 35 T1 0 0 0,.ld 36 T35 kI]) (.bk 2 (.sq (.rg [.bi 38 .eql T36 (.i 1),.mv 37 T38]) (.cd T37 (.sq (.rg [.mv 2 (.s [73])]) .rt) (.sq (.rg [.bi 40 .eql T36 (.i 2),.mv 39 T40]) (.cd T39 (.sq (.rg [.mv 2 (.s [66])]) .rt) (.sq (.rg [.bi 42 .eql T36 (.i 3),.mv 41 T42]) (.cd T41 (.sq (.rg [.mv 43 T3,.cv (some 44) 56 [(T43,.v (kL kS)),((.s [44]),.v kS)],.bi 45 .add (.s [123]) T44,.bi 46 .add T45 (.s [125]),.mv 2 T46]) .rt) (.sq (.rg [.bi 48 .eql T36 (.i 4),.mv 47 T48]) (.cd T47 (.sq (.rg [.mv 49 T3,.ia 50 T49 (.i 0) kS,.ld 51 T50 kS,.bi 52 .add (.s [91]) T51,.bi 53 .add T52 (.s [93]),.mv 2 T53]) .rt) .skip)))))))))) (.sq (.rg [.mv 54 T3,.cv (some 55) 56 [(T54,.v (kL kS)),((.s [62]),.v kS)],.bi 56 .add (.s [40]) T55,.bi 57 .add T56 (.s [41]),.mv 2 T57]) .rt)
def w27_Zam:C:=.kp [1,3] [[1],[3]] c27_Zam
def c26_Zam:C:=.rg [.mv 12 T4,.bi 13 .add T12 (.i 1),.mv 4 T13]
def c25_Zam:C:=.rg [.mv 31 T3,.mv 32 T5,.bs 33 true kS [T32],.ap 34 [3] true kS T31 T33,.mv 3 T34]
def w25_Zam:C:=.gt 3 true kS (.kp [1,3,4,5] [[1],[3]] c25_Zam)
def c9_Zam:C:=.sq (.sq (.rg [.mv 7 T4,.fa 8 T1 0 2 2,.ld 9 T8 (kL (kR 0)),.ln 10 false T9,.bi 11 .lss T7 T10]) (.cd T11 .skip (.ex 0))) (.sq (.bk 1 (.sq (.rg [.fa 14 T1 0 2 2,.ld 15 T14 (kL (kR 0)),.mv 16 T4,.ia 17 T15 T16 (kR 0),.ld 18 T17 (kR 0),.cv (some 19) 61 [(T18,.v (kR 0))],.mv 5 T19]) (.sq (.sq (.rg [.fa 20 T1 0 0 0,.ld 21 T20 kI,.bi 22 .eql T21 (.i 3)]) (.cd T22 (.rg [.fa 23 T1 0 1 1,.ld 24 T23 (kL kS),.mv 25 T4,.ia 26 T24 T25 kS,.ld 27 T26 kS,.bi 28 .add T27 (.s [58]),.mv 29 T5,.bi 30 .add T28 T29,.mv 5 T30]) .skip)) w25_Zam))) c26_Zam)
def ir_Zam:C:=.sq (.rg [.bx 1 T0 (kR 0),.mv 2 (.s [])]) (.sq (.rg [.bs 6 true kS [],.mv 3 T6]) (.sq (.sq (.rg [.mv 4 (.i 0)]) (.bk 0 (.gt 3 true kS (.lk [1,3,4] [[1],[3]] c9_Zam)))) w27_Zam))
noncomputable def B_Zam(nf:Nat):XT:=[e_ZM nf]
noncomputable def G_Zam(nf:Nat):Nat->XT
 |0=>[]
 |kf+1=>[eF 61 [.v (kR 0)] [.v kS] (fun t=>(fun(t:Ty)=>runF (G_Zam nf kf++B_Zam nf) nf [.v (kR 0)] [.t 2 (.v kS)] ir_Zam (t,())) t.1)]
noncomputable abbrev T_Zam(nf kf:Nat):XT:=G_Zam nf kf++B_Zam nf
noncomputable def m_Zam(nf kf:Nat)(t:Ty):Option (Str):=runF (T_Zam nf kf) nf [.v (kR 0)] [.t 2 (.v kS)] ir_Zam (t,())
noncomputable def X_Zam{R:Type}(nf kf:Nat):C->Env->(Xt->Env->Option R)->Option R:=xc (R:=R) (T_Zam nf kf).S nf
noncomputable def j25_Zam(nf kf:Nat)(m8:Nat)(x4_8:Int)(t:Ty)(y3_8:List Str)(x5_25:Str):Option (Str):=X_Zam nf kf c25_Zam ⟨[(1,.pt [1] 0),(3,.sl [3]),(4,.v kI x4_8),(5,.v kS x5_25)],[([1],.box [.v kI t.kind,.v (kL kS) t.labels,.v (kL (kR 0)) t.args]),([3],.row true false kS y3_8)]⟩ (qB 1 (qS (X_Zam nf kf c26_Zam) (qM [1,3,4] [[1],[3]] (X_Zam nf kf c9_Zam) m8 (qB 0 (qS (X_Zam nf kf w27_Zam) (KF [.t 2 (.v kS)]))))))
noncomputable def l8_Zam(nf kf:Nat)(m8:Nat)(t:Ty)(x4_8:Int)(y3_8:List Str):Option (Str):=xit [1,3,4] [[1],[3]] (X_Zam nf kf c9_Zam) (qB 0 (qS (X_Zam nf kf w27_Zam) (KF [.t 2 (.v kS)]))) m8 ⟨[(1,.pt [1] 0),(3,.sl [3]),(4,.v kI x4_8)],[([1],.box [.v kI t.kind,.v (kL kS) t.labels,.v (kL (kR 0)) t.args]),([3],.row true false kS y3_8)]⟩
noncomputable def j27_Zam(nf kf:Nat)(t:Ty)(y3_8:List Str):Option (Str):=X_Zam nf kf c27_Zam ⟨[(1,.pt [1] 0),(3,.sl [3])],[([1],.box [.v kI t.kind,.v (kL kS) t.labels,.v (kL (kR 0)) t.args]),([3],.row true false kS y3_8)]⟩ (KF [.t 2 (.v kS)])
theorem j25_Zam_eq(nf kf:Nat)(m8:Nat)(x4_8:Int)(t:Ty)(y3_8:List Str)(x5_25:Str):j25_Zam nf (kf+1) m8 x4_8 t y3_8 x5_25=(gg (List.length y3_8+List.length ([x5_25]:List Str)<=33554432)<|mark (l8_Zam nf (kf+1) m8 t (w64 (x4_8+(1:Int))) (y3_8++([x5_25]:List Str)))):=by
 unfold j25_Zam l8_Zam c25_Zam w27_Zam c26_Zam
 generalize c27_Zam=x0
 revert x0
 refine id ?_
 intro x0
 kernel_rfl
theorem l8_Zam_eq(nf kf:Nat)(m8:Nat)(t:Ty)(x4_8:Int)(y3_8:List Str):l8_Zam nf (kf+1) (m8+1) t x4_8 y3_8=(br (decide (x4_8<(List.length t.args:Int))) (gg (0<=x4_8∧x4_8<(List.length t.args:Int))<|cb (m_Zam nf kf (gt t.args x4_8 Ty.zero)) fun r19=>br (t.kind==(3:Int)) (gg (0<=x4_8∧x4_8<(List.length t.labels:Int))<|gg (List.length (gt t.labels x4_8 ([]:Str))+List.length ([58]:Str)<=9223372036854775807)<|gg (List.length ((gt t.labels x4_8 ([]:Str))++([58]:Str))+List.length r19<=9223372036854775807)<|mark (j25_Zam nf (kf+1) m8 x4_8 t y3_8 (((gt t.labels x4_8 ([]:Str))++([58]:Str))++r19))) (mark (j25_Zam nf (kf+1) m8 x4_8 t y3_8 r19))) (mark (j27_Zam nf (kf+1) t y3_8))):=by
 unfold l8_Zam j25_Zam j27_Zam c9_Zam w27_Zam w25_Zam c26_Zam
 generalize c27_Zam=x0
 generalize c25_Zam=x1
 revert x0 x1
 refine id ?_
 intro x0 x1
 kernel_rfl
theorem j27_Zam_eq(nf kf:Nat)(t:Ty)(y3_8:List Str):j27_Zam nf (kf+1) t y3_8=(br (t.kind==(1:Int)) (some ([73]:Str)) (br (t.kind==(2:Int)) (some ([66]:Str)) (br (t.kind==(3:Int)) (cb (m_ZM nf y3_8 ([44]:Str)) fun r44=>gg (List.length ([123]:Str)+List.length r44<=9223372036854775807)<|gg (List.length (([123]:Str)++r44)+List.length ([125]:Str)<=9223372036854775807)<|some ((([123]:Str)++r44)++([125]:Str))) (br (t.kind==(4:Int)) (gg (0<=(0:Int)∧(0:Int)<(List.length y3_8:Int))<|gg (0<=(0:Int)∧(0:Int)<(List.length y3_8:Int))<|gg (List.length ([91]:Str)+List.length (gt y3_8 (0:Int) ([]:Str))<=9223372036854775807)<|gg (List.length (([91]:Str)++(gt y3_8 (0:Int) ([]:Str)))+List.length ([93]:Str)<=9223372036854775807)<|some ((([91]:Str)++(gt y3_8 (0:Int) ([]:Str)))++([93]:Str))) (cb (m_ZM nf y3_8 ([62]:Str)) fun r55=>gg (List.length ([40]:Str)+List.length r55<=9223372036854775807)<|gg (List.length (([40]:Str)++r55)+List.length ([41]:Str)<=9223372036854775807)<|some ((([40]:Str)++r55)++([41]:Str))))))):=by kernel_rfl
theorem m_Zam_eq(nf kf:Nat)(t:Ty):m_Zam nf (kf+1) t=(mark (l8_Zam nf (kf+1) nf t (0:Int) ([]:List Str))):=by
 conv=>lhs;unfold m_Zam
 unfold l8_Zam ir_Zam w27_Zam
 generalize c27_Zam=x0
 revert x0
 refine id ?_
 intro x0
 kernel_rfl
noncomputable def e_Zam(nf:Nat):XE:=eF 61 [.v (kR 0)] [.v kS] (fun t=>m_Zam nf nf t.1)
theorem gok_Zam(nf:Nat):∀kf:Nat,XT.ok Try.prog (G_Zam nf kf++B_Zam nf)
 |0=>by exact⟨o_ZM nf,trivial⟩
 |kf+1=>by
  have ih:=gok_Zam nf kf
  refine⟨?_,(by exact⟨o_ZM nf,trivial⟩)⟩
  ·refine eF_ok fun t x h=> ?_
   obtain⟨t,_⟩:=t
   exact runF_ok (N:=58) ih Try.func61 (by kernel_rfl) rfl h
theorem o_Zam(nf:Nat):conOK Try.prog 61 (e_Zam nf).con:=by
 have ih:=gok_Zam nf nf
 refine eF_ok fun t x h=> ?_
 obtain⟨t,_⟩:=t
 exact runF_ok (N:=58) ih Try.func61 (by kernel_rfl) rfl h
def ir_ZJ:C:=.sq (.rg [.bx 1 T0 (kR 0),.mv 2 (.s [])]) (.sq (.sq (.rg [.ld 3 T1 (kR 0),.cv (some 4) 28 [(T3,.v (kR 0))],.un 5 .not T4]) (.cd T5 (.sq (.rg [.mv 2 (.s [])]) .rt) .skip)) (.sq (.rg [.ld 6 T1 (kR 0),.cv (some 7) 61 [(T6,.v (kR 0))],.mv 2 T7]) .rt))
noncomputable abbrev T_ZJ(nf:Nat):XT:=[e_ZL nf,e_Zam nf]
noncomputable def m_ZJ(nf:Nat)(t:Ty):Option (Str):=runF (T_ZJ nf) nf [.v (kR 0)] [.t 2 (.v kS)] ir_ZJ (t,())
theorem m_ZJ_eq(nf:Nat)(t:Ty):m_ZJ nf t=(cb (m_ZL nf (Ty.h t)) fun r4=>br (!r4) (some ([]:Str)) (cb (m_Zam nf nf (Ty.h t)) fun r7=>some r7)):=by kernel_rfl
noncomputable def e_ZJ(nf:Nat):XE:=eF 27 [.v (kR 0)] [.v kS] (fun t=>m_ZJ nf t.1)
theorem o_ZJ(nf:Nat):conOK Try.prog 27 (e_ZJ nf).con:=by
 have ih:XT.ok Try.prog (T_ZJ nf):=by exact⟨o_ZL nf,o_Zam nf,trivial⟩
 refine eF_ok fun t x h=> ?_
 obtain⟨t,_⟩:=t
 exact runF_ok (N:=8) ih Try.func27 (by kernel_rfl) rfl h
def c14_ZN:C:=.sq (.rg [.ld 31 T5 (kR 0),.st T2 T31 (kR 0),.mv 3 (.b true)]) .rt
def c9_ZN:C:=.cd T29 (.sq (.rg [.bd 30 0 [],.st T2 T30 (kR 0),.mv 3 (.b false)]) .rt) .skip
def w9_ZN:C:=.kp [2,5,29] [[2],[5],[10,1],[10,2]] c9_ZN
def ir_ZN:C:=.sq (.rg [.al 2 (kR 0),.mv 3 (.b false)]) (.sq (.rg [.mv 6 T0,.bd 7 19 [(0,1,T6)],.bx 8 T7 (kR 19),.mv 4 T8]) (.sq (.rg [.mv 9 T4,.cq (some 10) 66 [(T9,.q),((.i 1),.v kI)],.al 5 (kR 0),.st T5 T10 (kR 0)]) (.sq (.sq (.rg [.mv 11 T4,.nck 12 T11,.fa 13 T12 19 2 2,.ld 14 T13 .bool,.mv 15 T14,.g 15 false (.mv 16 T4),.g 15 false (.nck 17 T16),.g 15 false (.fa 18 T17 19 1 1),.g 15 false (.ld 19 T18 kI),.g 15 false (.mv 20 T0),.g 15 false (.ln 21 true T20),.g 15 false (.bi 22 .neq T19 T21),.pk 23 T15 (.b true) T22,.mv 24 T23,.g 24 false (.ld 25 T5 (kR 0)),.g 24 false (.cv (some 26) 27 [(T25,.v (kR 0))]),.g 24 false (.mv 27 T0),.g 24 false (.bi 28 .neq T26 T27),.pk 29 T24 (.b true) T28]) w9_ZN) c14_ZN)))
noncomputable abbrev T_ZN(nf:Nat):XT:=[e_Zan nf,e_ZJ nf]
noncomputable def m_ZN(nf:Nat)(s:Str):Option (Ty×Bool):=runF (T_ZN nf) nf [.v kS] [.c 2 (.o (kR 0)),.t 3 (.v .bool)] ir_ZN (s,())
noncomputable def X_ZN{R:Type}(nf:Nat):C->Env->(Xt->Env->Option R)->Option R:=xc (R:=R) (T_ZN nf).S nf
noncomputable def j9_ZN(nf:Nat)(r10:(Ty)×(Str×Int×Bool×Unit))(x29_9:Bool):Option (Ty×Bool):=X_ZN nf c9_ZN ⟨[(2,.pt [2] 0),(5,.pt [5] 0),(29,.v .bool x29_9)],[([2],.box [.v kI (0:Int),.nl kS,.nl (kR 0)]),([5],.box [.v kI r10.1.kind,.sl [10,1],.sl [10,2]]),([10,1],.row true false kS r10.1.labels),([10,2],.row true false (kR 0) r10.1.args)]⟩ (qS (X_ZN nf c14_ZN) (KF [.c 2 (.o (kR 0)),.t 3 (.v .bool)]))
theorem j9_ZN_eq(nf:Nat)(r10:(Ty)×(Str×Int×Bool×Unit))(x29_9:Bool):j9_ZN nf r10 x29_9=(br x29_9 (some ((Ty.mk (0:Int) ([]:List Str) ([]:List Ty)),false)) (some ((Ty.h r10.1),true))):=by kernel_rfl
theorem m_ZN_eq(nf:Nat)(s:Str):m_ZN nf s=(cb (m_Zan nf nf (1:Int) s (0:Int) false) fun r10=>br (r10.2.2.2.1==false) (br ((!(r10.2.2.1==(List.length s:Int)))==false) (cb (m_ZJ nf (Ty.h r10.1)) fun r26=>mark (j9_ZN nf r10 (!(r26==s)))) (mark (j9_ZN nf r10 true))) (mark (j9_ZN nf r10 true))):=by
 conv=>lhs;unfold m_ZN
 unfold j9_ZN ir_ZN w9_ZN c14_ZN
 generalize c9_ZN=x0
 revert x0
 refine id ?_
 intro x0
 kernel_rfl
noncomputable def e_ZN(nf:Nat):XE:=eF 30 [.v kS] [.o (kR 0),.v .bool] (fun t=>m_ZN nf t.1)
theorem o_ZN(nf:Nat):conOK Try.prog 30 (e_ZN nf).con:=by
 have ih:XT.ok Try.prog (T_ZN nf):=by exact⟨o_Zan nf,o_ZJ nf,trivial⟩
 refine eF_ok fun t x h=> ?_
 obtain⟨s,_⟩:=t
 exact runF_ok (N:=32) ih Try.func30 (by kernel_rfl) rfl h
end Go.Q
