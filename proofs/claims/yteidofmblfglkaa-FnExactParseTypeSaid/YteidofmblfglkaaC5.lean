/- The law's families: equal types, marks, what is held. -/
import Derived.Test.YteidofmblfglkaaQe
import Derived.Test.YteidofmblfglkaaProg
import Derived.KernelRfl
set_option linter.unusedVariables false
set_option linter.unusedSimpArgs false
namespace Go.Q
open Go.Proofs
set_option maxRecDepth 20000
set_option maxHeartbeats 4000000
def c31_ZB:C:=.sq (.rg [.mv 4 (.b true)]) .rt
def c15_ZB:C:=.sq (.sq (.rg [.mv 11 T5,.mv 12 T0,.ln 13 false T12,.bi 14 .lss T11 T13]) (.cd T14 .skip (.ex 0))) (.sq (.bk 1 (.sq (.dr [] [.mv 17 T0,.mv 18 T5,.ia 19 T17 T18 kS,.ld 20 T19 kS,.mv 21 T1,.mv 22 T5,.ia 23 T21 T22 kS,.ld 24 T23 kS] [.bi 25 .neq T20 T24]) (.cd T25 (.sq (.rg [.mv 4 (.b false)]) .rt) .skip))) (.rg [.mv 15 T5,.bi 16 .add T15 (.i 1),.mv 5 T16]))
def ir_ZB:C:=.sq (.rg [.mv 4 (.b false)]) (.sq (.sq (.rg [.mv 6 T0,.ln 7 false T6,.mv 8 T1,.ln 9 false T8,.bi 10 .neq T7 T9]) (.cd T10 (.sq (.rg [.mv 4 (.b false)]) .rt) .skip)) (.sq (.sq (.rg [.mv 5 (.i 0)]) (.bk 0 (.lk [0,1,5] [] c15_ZB))) c31_ZB))
noncomputable abbrev T_ZB(nf:Nat):XT:=[]
noncomputable def m_ZB(nf:Nat)(a:List Str)(b:List Str):Option (Bool):=runF (T_ZB nf) nf [.v (kL kS),.v (kL kS)] [.t 4 (.v .bool)] ir_ZB (a,b,())
noncomputable def X_ZB{R:Type}(nf:Nat):C->Env->(Xt->Env->Option R)->Option R:=xc (R:=R) (T_ZB nf).S nf
noncomputable def l14_ZB(nf:Nat)(m14:Nat)(a:List Str)(b:List Str)(x5_14:Int):Option (Bool):=xit [0,1,5] [] (X_ZB nf c15_ZB) (qB 0 (qS (X_ZB nf c31_ZB) (KF [.t 4 (.v .bool)]))) m14 ⟨[(0,.v (kL kS) a),(1,.v (kL kS) b),(5,.v kI x5_14)],[]⟩
theorem l14_ZB_eq(nf:Nat)(m14:Nat)(a:List Str)(b:List Str)(x5_14:Int):l14_ZB nf (m14+1) a b x5_14=(br (decide (x5_14<(List.length a:Int))) (gg (0<=x5_14∧x5_14<(List.length a:Int))<|gg (0<=x5_14∧x5_14<(List.length b:Int))<|br (!((gt a x5_14 ([]:Str))==(gt b x5_14 ([]:Str)))) (some false) (mark (l14_ZB nf m14 a b (w64 (x5_14+(1:Int)))))) (some true)):=by kernel_rfl
theorem m_ZB_eq(nf:Nat)(a:List Str)(b:List Str):m_ZB nf a b=(br (!((List.length a:Int)==(List.length b:Int))) (some false) (mark (l14_ZB nf nf a b (0:Int)))):=by kernel_rfl
noncomputable def e_ZB(nf:Nat):XE:=eF 67 [.v (kL kS),.v (kL kS)] [.v .bool] (fun t=>m_ZB nf t.1 t.2.1)
theorem o_ZB(nf:Nat):conOK Try.prog 67 (e_ZB nf).con:=by
 have ih:XT.ok Try.prog (T_ZB nf):=by exact trivial
 refine eF_ok fun t x h=> ?_
 obtain⟨a,b,_⟩:=t
 exact runF_ok (N:=26) ih Try.func67 (by kernel_rfl) rfl h
def c31_ZD:C:=.sq (.rg [.mv 4 (.b true)]) .rt
def c15_ZD:C:=.sq (.sq (.rg [.mv 11 T5,.mv 12 T0,.ln 13 false T12,.bi 14 .lss T11 T13]) (.cd T14 .skip (.ex 0))) (.sq (.bk 1 (.sq (.dr [] [.mv 17 T0,.mv 18 T5,.ia 19 T17 T18 (kR 0),.ld 20 T19 (kR 0),.mv 21 T1,.mv 22 T5,.ia 23 T21 T22 (kR 0),.ld 24 T23 (kR 0)] [.cv (some 25) 31 [(T20,.v (kR 0)),(T24,.v (kR 0))],.un 26 .not T25]) (.cd T26 (.sq (.rg [.mv 4 (.b false)]) .rt) .skip))) (.rg [.mv 15 T5,.bi 16 .add T15 (.i 1),.mv 5 T16]))
def ir_ZD:C:=.sq (.rg [.mv 4 (.b false)]) (.sq (.sq (.rg [.mv 6 T0,.ln 7 false T6,.mv 8 T1,.ln 9 false T8,.bi 10 .neq T7 T9]) (.cd T10 (.sq (.rg [.mv 4 (.b false)]) .rt) .skip)) (.sq (.sq (.rg [.mv 5 (.i 0)]) (.bk 0 (.lk [0,1,5] [] c15_ZD))) c31_ZD))
def ir_ZC:C:=.sq (.rg [.bx 2 T0 (kR 0),.bx 3 T1 (kR 0),.mv 4 (.b false)]) (.sq (.sq (.rg [.fa 5 T2 0 0 0,.ld 6 T5 kI,.fa 7 T3 0 0 0,.ld 8 T7 kI,.bi 9 .neq T6 T8]) (.cd T9 (.sq (.rg [.mv 4 (.b false)]) .rt) .skip)) (.sq (.sq (.rg [.fa 10 T2 0 1 1,.ld 11 T10 (kL kS),.fa 12 T3 0 1 1,.ld 13 T12 (kL kS),.cv (some 14) 67 [(T11,.v (kL kS)),(T13,.v (kL kS))],.un 15 .not T14]) (.cd T15 (.sq (.rg [.mv 4 (.b false)]) .rt) .skip)) (.sq (.sq (.rg [.fa 16 T2 0 2 2,.ld 17 T16 (kL (kR 0)),.fa 18 T3 0 2 2,.ld 19 T18 (kL (kR 0)),.cv (some 20) 68 [(T17,.v (kL (kR 0))),(T19,.v (kL (kR 0)))],.un 21 .not T20]) (.cd T21 (.sq (.rg [.mv 4 (.b false)]) .rt) .skip)) (.sq (.rg [.mv 4 (.b true)]) .rt))))
noncomputable def B_ZD(nf:Nat):XT:=[e_ZB nf]
noncomputable def G_ZD(nf:Nat):Nat->XT
 |0=>[]
 |kf+1=>[eF 68 [.v (kL (kR 0)),.v (kL (kR 0))] [.v .bool] (fun t=>(fun(a:List Ty) (b:List Ty)=>runF (G_ZD nf kf++B_ZD nf) nf [.v (kL (kR 0)),.v (kL (kR 0))] [.t 4 (.v .bool)] ir_ZD (a,b,())) t.1 t.2.1),
  eF 31 [.v (kR 0),.v (kR 0)] [.v .bool] (fun t=>(fun(a:Ty) (b:Ty)=>runF (G_ZD nf kf++B_ZD nf) nf [.v (kR 0),.v (kR 0)] [.t 4 (.v .bool)] ir_ZC (a,b,())) t.1 t.2.1)]
noncomputable abbrev T_ZD(nf kf:Nat):XT:=G_ZD nf kf++B_ZD nf
noncomputable abbrev T_ZC(nf kf:Nat):XT:=G_ZD nf kf++B_ZD nf
noncomputable def m_ZD(nf kf:Nat)(a:List Ty)(b:List Ty):Option (Bool):=runF (T_ZD nf kf) nf [.v (kL (kR 0)),.v (kL (kR 0))] [.t 4 (.v .bool)] ir_ZD (a,b,())
noncomputable def X_ZD{R:Type}(nf kf:Nat):C->Env->(Xt->Env->Option R)->Option R:=xc (R:=R) (T_ZD nf kf).S nf
noncomputable def m_ZC(nf kf:Nat)(a:Ty)(b:Ty):Option (Bool):=runF (T_ZC nf kf) nf [.v (kR 0),.v (kR 0)] [.t 4 (.v .bool)] ir_ZC (a,b,())
noncomputable def l14_ZD(nf kf:Nat)(m14:Nat)(a:List Ty)(b:List Ty)(x5_14:Int):Option (Bool):=xit [0,1,5] [] (X_ZD nf kf c15_ZD) (qB 0 (qS (X_ZD nf kf c31_ZD) (KF [.t 4 (.v .bool)]))) m14 ⟨[(0,.v (kL (kR 0)) a),(1,.v (kL (kR 0)) b),(5,.v kI x5_14)],[]⟩
theorem l14_ZD_eq(nf kf:Nat)(m14:Nat)(a:List Ty)(b:List Ty)(x5_14:Int):l14_ZD nf (kf+1) (m14+1) a b x5_14=(br (decide (x5_14<(List.length a:Int))) (gg (0<=x5_14∧x5_14<(List.length a:Int))<|gg (0<=x5_14∧x5_14<(List.length b:Int))<|cb (m_ZC nf kf (gt a x5_14 Ty.zero) (gt b x5_14 Ty.zero)) fun r25=>br (!r25) (some false) (mark (l14_ZD nf (kf+1) m14 a b (w64 (x5_14+(1:Int)))))) (some true)):=by kernel_rfl
theorem m_ZD_eq(nf kf:Nat)(a:List Ty)(b:List Ty):m_ZD nf (kf+1) a b=(br (!((List.length a:Int)==(List.length b:Int))) (some false) (mark (l14_ZD nf (kf+1) nf a b (0:Int)))):=by kernel_rfl
theorem m_ZC_eq(nf kf:Nat)(a:Ty)(b:Ty):m_ZC nf (kf+1) a b=(br (!(a.kind==b.kind)) (some false) (cb (m_ZB nf a.labels b.labels) fun r14=>br (!r14) (some false) (cb (m_ZD nf kf a.args b.args) fun r20=>br (!r20) (some false) (some true)))):=by kernel_rfl
noncomputable def e_ZC(nf:Nat):XE:=eF 31 [.v (kR 0),.v (kR 0)] [.v .bool] (fun t=>m_ZC nf nf t.1 t.2.1)
theorem gok_ZD(nf:Nat):∀kf:Nat,XT.ok Try.prog (G_ZD nf kf++B_ZD nf)
 |0=>by exact⟨o_ZB nf,trivial⟩
 |kf+1=>by
  have ih:=gok_ZD nf kf
  refine⟨?_,?_,(by exact⟨o_ZB nf,trivial⟩)⟩
  ·refine eF_ok fun t x h=> ?_
   obtain⟨a,b,_⟩:=t
   exact runF_ok (N:=27) ih Try.func68 (by kernel_rfl) rfl h
  ·refine eF_ok fun t x h=> ?_
   obtain⟨a,b,_⟩:=t
   exact runF_ok (N:=22) ih Try.func31 (by kernel_rfl) rfl h
theorem o_ZC(nf:Nat):conOK Try.prog 31 (e_ZC nf).con:=by
 have ih:=gok_ZD nf nf
 refine eF_ok fun t x h=> ?_
 obtain⟨a,b,_⟩:=t
 exact runF_ok (N:=22) ih Try.func31 (by kernel_rfl) rfl h
def c25_ZI:C:=.sq (.rg [.mv 18 T3,.bi 19 .add (.s [109]) T18,.mv 2 T19]) .rt
def c15_ZI:C:=.sq (.sq (.rg [.mv 6 T0,.bi 7 .gtr T6 (.i 0)]) (.cd T7 .skip (.ex 0))) (.bk 1 (.sq (.rg [.mv 8 T0,.bi 9 .rem T8 (.i 10),.bi 10 .add (.i 48) T9,.ci 11 .u8 T10,.bs 12 true (.int .u8) [T11],.cs 13 T12,.mv 14 T3,.bi 15 .add T13 T14,.mv 3 T15]) (.rg [.mv 16 T0,.bi 17 .quo T16 (.i 10),.mv 0 T17])))
def ir_ZI:C:=.sq (.rg [.mv 2 (.s [])]) (.sq (.sq (.rg [.mv 4 T0,.bi 5 .leq T4 (.i 0)]) (.cd T5 (.sq (.rg [.mv 2 (.s [109,48])]) .rt) .skip)) (.sq (.rg [.mv 3 (.s [])]) (.sq (.bk 0 (.lk [0,3] [] c15_ZI)) c25_ZI)))
noncomputable abbrev T_ZI(nf:Nat):XT:=[]
noncomputable def m_ZI(nf:Nat)(k:Int):Option (Str):=runF (T_ZI nf) nf [.v kI] [.t 2 (.v kS)] ir_ZI (k,())
noncomputable def X_ZI{R:Type}(nf:Nat):C->Env->(Xt->Env->Option R)->Option R:=xc (R:=R) (T_ZI nf).S nf
noncomputable def l14_ZI(nf:Nat)(m14:Nat)(x0_14:Int)(x3_14:Str):Option (Str):=xit [0,3] [] (X_ZI nf c15_ZI) (qB 0 (qS (X_ZI nf c25_ZI) (KF [.t 2 (.v kS)]))) m14 ⟨[(0,.v kI x0_14),(3,.v kS x3_14)],[]⟩
theorem l14_ZI_eq(nf:Nat)(m14:Nat)(x0_14:Int)(x3_14:Str):l14_ZI nf (m14+1) x0_14 x3_14=(br (decide ((0:Int)<x0_14)) (gg ((10:Int)≠0)<|gg (List.length (bytesOf ([(IntKind.u8.wrap (w64 ((48:Int)+(w64 (Int.tmod x0_14 (10:Int))))))]:List Int))+List.length x3_14<=9223372036854775807)<|gg ((10:Int)≠0)<|mark (l14_ZI nf m14 (w64 (Int.tdiv x0_14 (10:Int))) ((bytesOf ([(IntKind.u8.wrap (w64 ((48:Int)+(w64 (Int.tmod x0_14 (10:Int))))))]:List Int))++x3_14))) (gg (List.length ([109]:Str)+List.length x3_14<=9223372036854775807)<|some (([109]:Str)++x3_14))):=by kernel_rfl
theorem m_ZI_eq(nf:Nat)(k:Int):m_ZI nf k=(br (decide (k<=(0:Int))) (some ([109,48]:Str)) (mark (l14_ZI nf nf k ([]:Str)))):=by kernel_rfl
noncomputable def e_ZI(nf:Nat):XE:=eF 100 [.v kI] [.v kS] (fun t=>m_ZI nf t.1)
theorem o_ZI(nf:Nat):conOK Try.prog 100 (e_ZI nf).con:=by
 have ih:XT.ok Try.prog (T_ZI nf):=by exact trivial
 refine eF_ok fun t x h=> ?_
 obtain⟨k,_⟩:=t
 exact runF_ok (N:=20) ih Try.func100 (by kernel_rfl) rfl h
def c19_ZH:C:=.sq (.rg [.mv 19 T1,.mv 4 T19]) .rt
def c7_ZH:C:=.sq (.sq (.rg [.mv 6 T5,.mv 7 T0,.ln 8 false T7,.bi 9 .lss T6 T8]) (.cd T9 .skip (.ex 0))) (.sq (.bk 1 (.sq (.rg [.mv 12 T0,.mv 13 T5,.mv 14 T1,.cv (some 15) 100 [(T14,.v kI)],.ia 16 T12 T13 kS,.st T16 T15 kS]) (.rg [.mv 17 T1,.bi 18 .add T17 (.i 1),.mv 1 T18]))) (.rg [.mv 10 T5,.bi 11 .add T10 (.i 1),.mv 5 T11]))
def ir_ZH:C:=.sq (.rg [.mv 4 (.i 0)]) (.sq (.sq (.rg [.mv 5 (.i 0)]) (.bk 0 (.lk [0,1,5] [[20]] c7_ZH))) c19_ZH)
noncomputable abbrev T_ZH(nf:Nat):XT:=[e_ZI nf]
noncomputable def m_ZH(nf:Nat)(a:List Str)(k:Int):Option (List Str×Int):=runW (T_ZH nf) nf 20 4 kS ir_ZH a k
noncomputable def X_ZH{R:Type}(nf:Nat):C->Env->(Xt->Env->Option R)->Option R:=xc (R:=R) (T_ZH nf).S nf
noncomputable def l6_ZH(nf:Nat)(m6:Nat)(x1_6:Int)(x5_6:Int)(y20_6:List Str):Option (List Str×Int):=xit [0,1,5] [[20]] (X_ZH nf c7_ZH) (qB 0 (qS (X_ZH nf c19_ZH) (KW 4 20 kS))) m6 ⟨[(0,.sl [20]),(1,.v kI x1_6),(5,.v kI x5_6)],[([20],.row true true kS y20_6)]⟩
theorem l6_ZH_eq(nf:Nat)(m6:Nat)(x1_6:Int)(x5_6:Int)(y20_6:List Str):l6_ZH nf (m6+1) x1_6 x5_6 y20_6=(br (decide (x5_6<(List.length y20_6:Int))) (cb (m_ZI nf x1_6) fun r15=>gg (0<=x5_6∧x5_6<(List.length y20_6:Int))<|gg (0<=x5_6∧x5_6<(List.length y20_6:Int))<|mark (l6_ZH nf m6 (w64 (x1_6+(1:Int))) (w64 (x5_6+(1:Int))) (List.set y20_6 (Int.toNat x5_6) r15))) (some (y20_6,x1_6))):=by kernel_rfl
theorem m_ZH_eq(nf:Nat)(a:List Str)(k:Int):m_ZH nf a k=(mark (l6_ZH nf nf k (0:Int) a)):=by kernel_rfl
noncomputable def e_ZH(nf:Nat):XE:=eW 69 kS (fun a j=>m_ZH nf a j)
theorem o_ZH(nf:Nat):conOK Try.prog 69 (e_ZH nf).con:=by
 have ih:XT.ok Try.prog (T_ZH nf):=by exact⟨o_ZI nf,trivial⟩
 refine eW_ok fun a j x h=> ?_
 exact runW_ok (N:=20) ih Try.func69 (by kernel_rfl) rfl h
def c23_ZK:C:=.sq (.rg [.mv 33 T1,.mv 4 T33]) .rt
def c22_ZK:C:=.rg [.mv 10 T5,.bi 11 .add T10 (.i 1),.mv 5 T11]
def c21_ZK:C:=.rl [.mv 26 T0,.mv 27 T5,.ia 28 T26 T27 (kR 0),.fa 29 T28 0 2 2] 30 T29 31 T1 32 70 (kR 0) [.mv 1 T32]
def w21_ZK:C:=.kp [0,1,5] [[34]] c21_ZK
def c7_ZK:C:=.sq (.sq (.rg [.mv 6 T5,.mv 7 T0,.ln 8 false T7,.bi 9 .lss T6 T8]) (.cd T9 .skip (.ex 0))) (.sq (.bk 1 (.sq (.rg [.mv 12 T0,.mv 13 T5,.mv 14 T1,.ia 15 T12 T13 (kR 0),.fa 16 T15 0 0 0,.sf T16 T14 kI]) (.sq (.rg [.mv 17 T1,.bi 18 .add T17 (.i 1),.mv 1 T18]) (.sq (.rl [.mv 19 T0,.mv 20 T5,.ia 21 T19 T20 (kR 0),.fa 22 T21 0 1 1] 23 T22 24 T1 25 69 kS [.mv 1 T25]) w21_ZK)))) c22_ZK)
def ir_ZK:C:=.sq (.rg [.mv 4 (.i 0)]) (.sq (.sq (.rg [.mv 5 (.i 0)]) (.bk 0 (.lk [0,1,5] [[34]] c7_ZK))) c23_ZK)
noncomputable def B_ZK(nf:Nat):XT:=[e_ZH nf]
noncomputable def G_ZK(nf:Nat):Nat->XT
 |0=>[]
 |kf+1=>[eW 70 (kR 0) (fun a j=>(fun(a:List Ty) (k:Int)=>runW (G_ZK nf kf++B_ZK nf) nf 34 4 (kR 0) ir_ZK a k) a j)]
noncomputable abbrev T_ZK(nf kf:Nat):XT:=G_ZK nf kf++B_ZK nf
noncomputable def m_ZK(nf kf:Nat)(a:List Ty)(k:Int):Option (List Ty×Int):=runW (T_ZK nf kf) nf 34 4 (kR 0) ir_ZK a k
noncomputable def X_ZK{R:Type}(nf kf:Nat):C->Env->(Xt->Env->Option R)->Option R:=xc (R:=R) (T_ZK nf kf).S nf
noncomputable def j21_ZK(nf kf:Nat)(m6:Nat)(r25:List Str×Int)(x5_6:Int)(y34_21:List Ty):Option (List Ty×Int):=X_ZK nf kf c21_ZK ⟨[(0,.sl [34]),(1,.v kI r25.2),(5,.v kI x5_6)],[([34],.row true true (kR 0) y34_21)]⟩ (qB 1 (qS (X_ZK nf kf c22_ZK) (qM [0,1,5] [[34]] (X_ZK nf kf c7_ZK) m6 (qB 0 (qS (X_ZK nf kf c23_ZK) (KW 4 34 (kR 0)))))))
noncomputable def l6_ZK(nf kf:Nat)(m6:Nat)(x1_6:Int)(x5_6:Int)(y34_6:List Ty):Option (List Ty×Int):=xit [0,1,5] [[34]] (X_ZK nf kf c7_ZK) (qB 0 (qS (X_ZK nf kf c23_ZK) (KW 4 34 (kR 0)))) m6 ⟨[(0,.sl [34]),(1,.v kI x1_6),(5,.v kI x5_6)],[([34],.row true true (kR 0) y34_6)]⟩
theorem j21_ZK_eq(nf kf:Nat)(m6:Nat)(r25:List Str×Int)(x5_6:Int)(y34_21:List Ty):j21_ZK nf (kf+1) m6 r25 x5_6 y34_21=(gg (0<=x5_6∧x5_6<(List.length y34_21:Int))<|gg (0<=x5_6∧x5_6<(List.length y34_21:Int))<|cb (m_ZK nf kf ((gt y34_21 x5_6 Ty.zero).args) r25.2) fun r32=>mark (l6_ZK nf (kf+1) m6 r32.2 (w64 (x5_6+(1:Int))) (List.set y34_21 (Int.toNat x5_6) (Ty.mk ((gt y34_21 x5_6 Ty.zero).kind) ((gt y34_21 x5_6 Ty.zero).labels) r32.1)))):=by kernel_rfl
theorem l6_ZK_eq(nf kf:Nat)(m6:Nat)(x1_6:Int)(x5_6:Int)(y34_6:List Ty):l6_ZK nf (kf+1) (m6+1) x1_6 x5_6 y34_6=(br (decide (x5_6<(List.length y34_6:Int))) (gg (0<=x5_6∧x5_6<(List.length y34_6:Int))<|gg (0<=x5_6∧x5_6<(List.length y34_6:Int))<|gg (0<=x5_6∧x5_6<(List.length (List.set y34_6 (Int.toNat x5_6) (Ty.mk x1_6 ((gt y34_6 x5_6 Ty.zero).labels) ((gt y34_6 x5_6 Ty.zero).args))):Int))<|gg (0<=x5_6∧x5_6<(List.length (List.set y34_6 (Int.toNat x5_6) (Ty.mk x1_6 ((gt y34_6 x5_6 Ty.zero).labels) ((gt y34_6 x5_6 Ty.zero).args))):Int))<|cb (m_ZH nf ((gt (List.set y34_6 (Int.toNat x5_6) (Ty.mk x1_6 ((gt y34_6 x5_6 Ty.zero).labels) ((gt y34_6 x5_6 Ty.zero).args))) x5_6 Ty.zero).labels) (w64 (x1_6+(1:Int)))) fun r25=>mark (j21_ZK nf (kf+1) m6 r25 x5_6 (List.set (List.set y34_6 (Int.toNat x5_6) (Ty.mk x1_6 ((gt y34_6 x5_6 Ty.zero).labels) ((gt y34_6 x5_6 Ty.zero).args))) (Int.toNat x5_6) (Ty.mk ((gt (List.set y34_6 (Int.toNat x5_6) (Ty.mk x1_6 ((gt y34_6 x5_6 Ty.zero).labels) ((gt y34_6 x5_6 Ty.zero).args))) x5_6 Ty.zero).kind) r25.1 ((gt (List.set y34_6 (Int.toNat x5_6) (Ty.mk x1_6 ((gt y34_6 x5_6 Ty.zero).labels) ((gt y34_6 x5_6 Ty.zero).args))) x5_6 Ty.zero).args))))) (some (y34_6,x1_6))):=by
 unfold l6_ZK j21_ZK c7_ZK c23_ZK w21_ZK c22_ZK
 generalize c21_ZK=x0
 revert x0
 refine id ?_
 intro x0
 kernel_rfl
theorem m_ZK_eq(nf kf:Nat)(a:List Ty)(k:Int):m_ZK nf (kf+1) a k=(mark (l6_ZK nf (kf+1) nf k (0:Int) a)):=by kernel_rfl
noncomputable def e_ZK(nf:Nat):XE:=eW 70 (kR 0) (fun a j=>m_ZK nf nf a j)
theorem gok_ZK(nf:Nat):∀kf:Nat,XT.ok Try.prog (G_ZK nf kf++B_ZK nf)
 |0=>by exact⟨o_ZH nf,trivial⟩
 |kf+1=>by
  have ih:=gok_ZK nf kf
  refine⟨?_,(by exact⟨o_ZH nf,trivial⟩)⟩
  ·refine eW_ok fun a j x h=> ?_
   exact runW_ok (N:=34) ih Try.func70 (by kernel_rfl) rfl h
theorem o_ZK(nf:Nat):conOK Try.prog 70 (e_ZK nf).con:=by
 have ih:=gok_ZK nf nf
 refine eW_ok fun a j x h=> ?_
 exact runW_ok (N:=34) ih Try.func70 (by kernel_rfl) rfl h
def ir_ZJ:C:=.sq (.rg [.bx 2 T0 (kR 0),.mv 4 (.i 0)]) (.sq (.rg [.fa 5 T2 0 1 1,.ld 6 T5 (kL kS),.mv 7 T1,.cw (some 8) 69 kS T6 T7,.mv 1 T8]) (.sq (.rg [.fa 9 T2 0 2 2,.ld 10 T9 (kL (kR 0)),.mv 11 T1,.cw (some 12) 70 (kR 0) T10 T11,.mv 1 T12]) (.sq (.rg [.mv 13 T1,.mv 4 T13]) .rt)))
noncomputable abbrev T_ZJ(nf:Nat):XT:=[e_ZH nf,e_ZK nf]
noncomputable def m_ZJ(nf:Nat)(a_kind:Int)(k:Int)(a_labels:List Str)(a_args:List Ty):Option ((Int)×(List Str)×(List Ty)):=runQ (T_ZJ nf) nf [.ag 0 [.v kI,.sl 0,.sl 1],.v kI] [.row true kS,.row true (kR 0)] [.row true kS,.row true (kR 0)] [.t 4 (.v kI)] ir_ZJ ((a_kind,(),(),()),k,()) (a_labels,a_args)
theorem m_ZJ_eq(nf:Nat)(a_kind:Int)(k:Int)(a_labels:List Str)(a_args:List Ty):m_ZJ nf a_kind k a_labels a_args=(cb (m_ZH nf a_labels k) fun r8=>cb (m_ZK nf nf a_args r8.2) fun r12=>some (r12.2,(r8.1,r12.1))):=by kernel_rfl
noncomputable def e_ZJ(nf:Nat):XE:=eQ 32 [.ag 0 [.v kI,.sl 0,.sl 1],.v kI] [.v kI] [.row true kS,.row true (kR 0)] [.row true kS,.row true (kR 0)] (fun t u=>m_ZJ nf t.1.1 t.2.1 u.1 u.2)
theorem o_ZJ(nf:Nat):conOK Try.prog 32 (e_ZJ nf).con:=by
 have ih:XT.ok Try.prog (T_ZJ nf):=by exact⟨o_ZH nf,o_ZK nf,trivial⟩
 refine eQ_ok fun t u x h=> ?_
 obtain⟨⟨a_kind,_,_,_⟩,k,_⟩:=t
 exact runQ_ok (N:=14) ih Try.func32 (by kernel_rfl) rfl rfl rfl rfl rfl h
def c25_ZE:C:=.sq (.rg [.mv 21 T1,.mv 4 T21]) .rt
def c7_ZE:C:=.sq (.sq (.rg [.mv 6 T5,.mv 7 T0,.ln 8 false T7,.bi 9 .lss T6 T8]) (.cd T9 .skip (.ex 0))) (.sq (.bk 1 (.sq (.sq (.dr [] [.mv 12 T0,.mv 13 T5,.ia 14 T12 T13 kS,.ld 15 T14 kS,.mv 16 T1,.cv (some 17) 100 [(T16,.v kI)]] [.bi 18 .neq T15 T17]) (.cd T18 (.sq (.rg [.mv 4 (.i (-1))]) .rt) .skip)) (.rg [.mv 19 T1,.bi 20 .add T19 (.i 1),.mv 1 T20]))) (.rg [.mv 10 T5,.bi 11 .add T10 (.i 1),.mv 5 T11]))
def ir_ZE:C:=.sq (.rg [.mv 4 (.i 0)]) (.sq (.sq (.rg [.mv 5 (.i 0)]) (.bk 0 (.lk [0,1,5] [] c7_ZE))) c25_ZE)
noncomputable abbrev T_ZE(nf:Nat):XT:=[e_ZI nf]
noncomputable def m_ZE(nf:Nat)(a:List Str)(k:Int):Option (Int):=runF (T_ZE nf) nf [.v (kL kS),.v kI] [.t 4 (.v kI)] ir_ZE (a,k,())
noncomputable def X_ZE{R:Type}(nf:Nat):C->Env->(Xt->Env->Option R)->Option R:=xc (R:=R) (T_ZE nf).S nf
noncomputable def l6_ZE(nf:Nat)(m6:Nat)(a:List Str)(x1_6:Int)(x5_6:Int):Option (Int):=xit [0,1,5] [] (X_ZE nf c7_ZE) (qB 0 (qS (X_ZE nf c25_ZE) (KF [.t 4 (.v kI)]))) m6 ⟨[(0,.v (kL kS) a),(1,.v kI x1_6),(5,.v kI x5_6)],[]⟩
theorem l6_ZE_eq(nf:Nat)(m6:Nat)(a:List Str)(x1_6:Int)(x5_6:Int):l6_ZE nf (m6+1) a x1_6 x5_6=(br (decide (x5_6<(List.length a:Int))) (gg (0<=x5_6∧x5_6<(List.length a:Int))<|cb (m_ZI nf x1_6) fun r17=>br (!((gt a x5_6 ([]:Str))==r17)) (some (-1:Int)) (mark (l6_ZE nf m6 a (w64 (x1_6+(1:Int))) (w64 (x5_6+(1:Int)))))) (some x1_6)):=by kernel_rfl
theorem m_ZE_eq(nf:Nat)(a:List Str)(k:Int):m_ZE nf a k=(mark (l6_ZE nf nf a k (0:Int))):=by kernel_rfl
noncomputable def e_ZE(nf:Nat):XE:=eF 71 [.v (kL kS),.v kI] [.v kI] (fun t=>m_ZE nf t.1 t.2.1)
theorem o_ZE(nf:Nat):conOK Try.prog 71 (e_ZE nf).con:=by
 have ih:XT.ok Try.prog (T_ZE nf):=by exact⟨o_ZI nf,trivial⟩
 refine eF_ok fun t x h=> ?_
 obtain⟨a,k,_⟩:=t
 exact runF_ok (N:=22) ih Try.func71 (by kernel_rfl) rfl h
def c45_ZG:C:=.sq (.rg [.mv 39 T1,.mv 4 T39]) .rt
def c7_ZG:C:=.sq (.sq (.rg [.mv 6 T5,.mv 7 T0,.ln 8 false T7,.bi 9 .lss T6 T8]) (.cd T9 .skip (.ex 0))) (.sq (.bk 1 (.sq (.sq (.rg [.mv 12 T0,.mv 13 T5,.ia 14 T12 T13 (kR 0),.fa 15 T14 0 0 0,.ld 16 T15 kI,.mv 17 T1,.bi 18 .neq T16 T17]) (.cd T18 (.sq (.rg [.mv 4 (.i (-1))]) .rt) .skip)) (.sq (.rg [.mv 19 T1,.bi 20 .add T19 (.i 1),.mv 1 T20]) (.sq (.rg [.mv 21 T0,.mv 22 T5,.ia 23 T21 T22 (kR 0),.fa 24 T23 0 1 1,.ld 25 T24 (kL kS),.mv 26 T1,.cv (some 27) 71 [(T25,.v (kL kS)),(T26,.v kI)],.mv 1 T27]) (.sq (.sq (.rg [.mv 28 T1,.bi 29 .lss T28 (.i 0)]) (.cd T29 (.sq (.rg [.mv 4 (.i (-1))]) .rt) .skip)) (.sq (.rg [.mv 30 T0,.mv 31 T5,.ia 32 T30 T31 (kR 0),.fa 33 T32 0 2 2,.ld 34 T33 (kL (kR 0)),.mv 35 T1,.cv (some 36) 72 [(T34,.v (kL (kR 0))),(T35,.v kI)],.mv 1 T36]) (.sq (.rg [.mv 37 T1,.bi 38 .lss T37 (.i 0)]) (.cd T38 (.sq (.rg [.mv 4 (.i (-1))]) .rt) .skip)))))))) (.rg [.mv 10 T5,.bi 11 .add T10 (.i 1),.mv 5 T11]))
def ir_ZG:C:=.sq (.rg [.mv 4 (.i 0)]) (.sq (.sq (.rg [.mv 5 (.i 0)]) (.bk 0 (.lk [0,1,5] [] c7_ZG))) c45_ZG)
noncomputable def B_ZG(nf:Nat):XT:=[e_ZE nf]
noncomputable def G_ZG(nf:Nat):Nat->XT
 |0=>[]
 |kf+1=>[eF 72 [.v (kL (kR 0)),.v kI] [.v kI] (fun t=>(fun(a:List Ty) (k:Int)=>runF (G_ZG nf kf++B_ZG nf) nf [.v (kL (kR 0)),.v kI] [.t 4 (.v kI)] ir_ZG (a,k,())) t.1 t.2.1)]
noncomputable abbrev T_ZG(nf kf:Nat):XT:=G_ZG nf kf++B_ZG nf
noncomputable def m_ZG(nf kf:Nat)(a:List Ty)(k:Int):Option (Int):=runF (T_ZG nf kf) nf [.v (kL (kR 0)),.v kI] [.t 4 (.v kI)] ir_ZG (a,k,())
noncomputable def X_ZG{R:Type}(nf kf:Nat):C->Env->(Xt->Env->Option R)->Option R:=xc (R:=R) (T_ZG nf kf).S nf
noncomputable def l6_ZG(nf kf:Nat)(m6:Nat)(a:List Ty)(x1_6:Int)(x5_6:Int):Option (Int):=xit [0,1,5] [] (X_ZG nf kf c7_ZG) (qB 0 (qS (X_ZG nf kf c45_ZG) (KF [.t 4 (.v kI)]))) m6 ⟨[(0,.v (kL (kR 0)) a),(1,.v kI x1_6),(5,.v kI x5_6)],[]⟩
theorem l6_ZG_eq(nf kf:Nat)(m6:Nat)(a:List Ty)(x1_6:Int)(x5_6:Int):l6_ZG nf (kf+1) (m6+1) a x1_6 x5_6=(br (decide (x5_6<(List.length a:Int))) (gg (0<=x5_6∧x5_6<(List.length a:Int))<|br (!(((gt a x5_6 Ty.zero).kind)==x1_6)) (some (-1:Int)) (gg (0<=x5_6∧x5_6<(List.length a:Int))<|cb (m_ZE nf ((gt a x5_6 Ty.zero).labels) (w64 (x1_6+(1:Int)))) fun r27=>br (decide (r27<(0:Int))) (some (-1:Int)) (gg (0<=x5_6∧x5_6<(List.length a:Int))<|cb (m_ZG nf kf ((gt a x5_6 Ty.zero).args) r27) fun r36=>br (decide (r36<(0:Int))) (some (-1:Int)) (mark (l6_ZG nf (kf+1) m6 a r36 (w64 (x5_6+(1:Int)))))))) (some x1_6)):=by kernel_rfl
theorem m_ZG_eq(nf kf:Nat)(a:List Ty)(k:Int):m_ZG nf (kf+1) a k=(mark (l6_ZG nf (kf+1) nf a k (0:Int))):=by kernel_rfl
noncomputable def e_ZG(nf:Nat):XE:=eF 72 [.v (kL (kR 0)),.v kI] [.v kI] (fun t=>m_ZG nf nf t.1 t.2.1)
theorem gok_ZG(nf:Nat):∀kf:Nat,XT.ok Try.prog (G_ZG nf kf++B_ZG nf)
 |0=>by exact⟨o_ZE nf,trivial⟩
 |kf+1=>by
  have ih:=gok_ZG nf kf
  refine⟨?_,(by exact⟨o_ZE nf,trivial⟩)⟩
  ·refine eF_ok fun t x h=> ?_
   obtain⟨a,k,_⟩:=t
   exact runF_ok (N:=40) ih Try.func72 (by kernel_rfl) rfl h
theorem o_ZG(nf:Nat):conOK Try.prog 72 (e_ZG nf).con:=by
 have ih:=gok_ZG nf nf
 refine eF_ok fun t x h=> ?_
 obtain⟨a,k,_⟩:=t
 exact runF_ok (N:=40) ih Try.func72 (by kernel_rfl) rfl h
def ir_ZF:C:=.sq (.rg [.bx 2 T0 (kR 0),.mv 4 (.i 0)]) (.sq (.rg [.fa 5 T2 0 1 1,.ld 6 T5 (kL kS),.mv 7 T1,.cv (some 8) 71 [(T6,.v (kL kS)),(T7,.v kI)],.mv 1 T8]) (.sq (.sq (.rg [.mv 9 T1,.bi 10 .lss T9 (.i 0)]) (.cd T10 (.sq (.rg [.mv 4 (.i (-1))]) .rt) .skip)) (.sq (.rg [.fa 11 T2 0 2 2,.ld 12 T11 (kL (kR 0)),.mv 13 T1,.cv (some 14) 72 [(T12,.v (kL (kR 0))),(T13,.v kI)],.mv 1 T14]) (.sq (.sq (.rg [.mv 15 T1,.bi 16 .lss T15 (.i 0)]) (.cd T16 (.sq (.rg [.mv 4 (.i (-1))]) .rt) .skip)) (.sq (.rg [.mv 17 T1,.mv 4 T17]) .rt)))))
noncomputable abbrev T_ZF(nf:Nat):XT:=[e_ZE nf,e_ZG nf]
noncomputable def m_ZF(nf:Nat)(a:Ty)(k:Int):Option (Int):=runF (T_ZF nf) nf [.v (kR 0),.v kI] [.t 4 (.v kI)] ir_ZF (a,k,())
theorem m_ZF_eq(nf:Nat)(a:Ty)(k:Int):m_ZF nf a k=(cb (m_ZE nf a.labels k) fun r8=>br (decide (r8<(0:Int))) (some (-1:Int)) (cb (m_ZG nf nf a.args r8) fun r14=>br (decide (r14<(0:Int))) (some (-1:Int)) (some r14))):=by kernel_rfl
noncomputable def e_ZF(nf:Nat):XE:=eF 33 [.v (kR 0),.v kI] [.v kI] (fun t=>m_ZF nf t.1 t.2.1)
theorem o_ZF(nf:Nat):conOK Try.prog 33 (e_ZF nf).con:=by
 have ih:XT.ok Try.prog (T_ZF nf):=by exact⟨o_ZE nf,o_ZG nf,trivial⟩
 refine eF_ok fun t x h=> ?_
 obtain⟨a,k,_⟩:=t
 exact runF_ok (N:=18) ih Try.func33 (by kernel_rfl) rfl h
end Go.Q
