/- Types and their paths: the reference's side. -/
import Derived.Test.YteidofmblfglkaaC1
import Derived.Test.YteidofmblfglkaaProg
import Derived.KernelRfl
set_option linter.unusedVariables false
set_option linter.unusedSimpArgs false
namespace Go.Q
open Go.Proofs
set_option maxRecDepth 20000
set_option maxHeartbeats 4000000
def ir_Zac:C:=.sq (.rg [.mv 6 (.b false)]) (.sq (.rg [.mv 7 T0,.mv 8 T1,.bi 9 .geq T7 T8,.mv 10 T9,.g 10 true (.mv 11 T0),.g 10 true (.mv 12 T2),.g 10 true (.bi 13 .leq T11 T12),.pk 14 T10 T13 (.b false),.mv 6 T14]) .rt)
noncomputable abbrev T_Zac(nf:Nat):XT:=[]
noncomputable def m_Zac(nf:Nat)(x:Int)(lo:Int)(hi:Int):Option (Bool):=runF (T_Zac nf) nf [.v kI,.v kI,.v kI] [.t 6 (.v .bool)] ir_Zac (x,lo,hi,())
theorem m_Zac_eq(nf:Nat)(x:Int)(lo:Int)(hi:Int):m_Zac nf x lo hi=(br ((decide (lo<=x))==true) (some (decide (x<=hi))) (some false)):=by kernel_rfl
noncomputable def e_Zac(nf:Nat):XE:=eF 113 [.v kI,.v kI,.v kI] [.v .bool] (fun t=>m_Zac nf t.1 t.2.1 t.2.2.1)
theorem o_Zac(nf:Nat):conOK Try.prog 113 (e_Zac nf).con:=by
 have ih:XT.ok Try.prog (T_Zac nf):=by exact trivial
 refine eF_ok fun t x h=> ?_
 obtain⟨x,lo,hi,_⟩:=t
 exact runF_ok (N:=15) ih Try.func113 (by kernel_rfl) rfl h
def ir_Zad:C:=.sq (.rg [.mv 4 (.i 0)]) (.sq (.sq (.rg [.mv 5 T0,.mv 6 T1,.bi 7 .gtr T5 T6]) (.cd T7 (.sq (.rg [.mv 8 T0,.mv 4 T8]) .rt) .skip)) (.sq (.rg [.mv 9 T1,.mv 4 T9]) .rt))
noncomputable abbrev T_Zad(nf:Nat):XT:=[]
noncomputable def m_Zad(nf:Nat)(a:Int)(b:Int):Option (Int):=runF (T_Zad nf) nf [.v kI,.v kI] [.t 4 (.v kI)] ir_Zad (a,b,())
theorem m_Zad_eq(nf:Nat)(a:Int)(b:Int):m_Zad nf a b=(br (decide (b<a)) (some a) (some b)):=by kernel_rfl
noncomputable def e_Zad(nf:Nat):XE:=eF 94 [.v kI,.v kI] [.v kI] (fun t=>m_Zad nf t.1 t.2.1)
theorem o_Zad(nf:Nat):conOK Try.prog 94 (e_Zad nf).con:=by
 have ih:XT.ok Try.prog (T_Zad nf):=by exact trivial
 refine eF_ok fun t x h=> ?_
 obtain⟨a,b,_⟩:=t
 exact runF_ok (N:=10) ih Try.func94 (by kernel_rfl) rfl h
def c23_ZG:C:=.sq (.rg [.mv 2 (.b true)]) .rt
def c7_ZG:C:=.sq (.sq (.rg [.mv 4 T3,.mv 5 T0,.ln 6 false T5,.bi 7 .lss T4 T6]) (.cd T7 .skip (.ex 0))) (.sq (.bk 1 (.sq (.dr [] [.mv 10 T0,.mv 11 T3,.bi 12 .sub T11 (.i 1),.ia 13 T10 T12 kS,.ld 14 T13 kS,.mv 15 T0,.mv 16 T3,.ia 17 T15 T16 kS,.ld 18 T17 kS] [.bi 19 .geq T14 T18]) (.cd T19 (.sq (.rg [.mv 2 (.b false)]) .rt) .skip))) (.rg [.mv 8 T3,.bi 9 .add T8 (.i 1),.mv 3 T9]))
def ir_ZG:C:=.sq (.rg [.mv 2 (.b false)]) (.sq (.sq (.rg [.mv 3 (.i 1)]) (.bk 0 (.lk [0,3] [] c7_ZG))) c23_ZG)
noncomputable abbrev T_ZG(nf:Nat):XT:=[]
noncomputable def m_ZG(nf:Nat)(list:List Str):Option (Bool):=runF (T_ZG nf) nf [.v (kL kS)] [.t 2 (.v .bool)] ir_ZG (list,())
noncomputable def X_ZG{R:Type}(nf:Nat):C->Env->(Xt->Env->Option R)->Option R:=xc (R:=R) (T_ZG nf).S nf
noncomputable def l6_ZG(nf:Nat)(m6:Nat)(list:List Str)(x3_6:Int):Option (Bool):=xit [0,3] [] (X_ZG nf c7_ZG) (qB 0 (qS (X_ZG nf c23_ZG) (KF [.t 2 (.v .bool)]))) m6 ⟨[(0,.v (kL kS) list),(3,.v kI x3_6)],[]⟩
theorem l6_ZG_eq(nf:Nat)(m6:Nat)(list:List Str)(x3_6:Int):l6_ZG nf (m6+1) list x3_6=(br (decide (x3_6<(List.length list:Int))) (gg (0<=(w64 (x3_6-(1:Int)))∧(w64 (x3_6-(1:Int)))<(List.length list:Int))<|gg (0<=x3_6∧x3_6<(List.length list:Int))<|br (!(Op.bytesLess (gt list (w64 (x3_6-(1:Int))) ([]:Str)) (gt list x3_6 ([]:Str)))) (some false) (mark (l6_ZG nf m6 list (w64 (x3_6+(1:Int)))))) (some true)):=by kernel_rfl
theorem m_ZG_eq(nf:Nat)(list:List Str):m_ZG nf list=(mark (l6_ZG nf nf list (1:Int))):=by kernel_rfl
noncomputable def e_ZG(nf:Nat):XE:=eF 114 [.v (kL kS)] [.v .bool] (fun t=>m_ZG nf t.1)
theorem o_ZG(nf:Nat):conOK Try.prog 114 (e_ZG nf).con:=by
 have ih:XT.ok Try.prog (T_ZG nf):=by exact trivial
 refine eF_ok fun t x h=> ?_
 obtain⟨list,_⟩:=t
 exact runF_ok (N:=20) ih Try.func114 (by kernel_rfl) rfl h
def c25_ZQ:C:=.sq (.rg [.mv 39 T0,.ln 40 true T39,.cv (some 41) 113 [(T40,.v kI),((.i 1),.v kI),((.i 4),.v kI)],.mv 42 T41,.g 42 true (.mv 43 T0),.g 42 true (.bi 44 .neq T43 (.s [105,102])),.pk 45 T42 T44 (.b false),.mv 46 T45,.g 46 true (.mv 47 T0),.g 46 true (.bi 48 .neq T47 (.s [102,111,114])),.pk 49 T46 T48 (.b false),.mv 2 T49]) .rt
def w25_ZQ:C:=.kp [0] [] c25_ZQ
def c24_ZQ:C:=.rg [.mv 9 T3,.bi 10 .add T9 (.i 1),.mv 3 T10]
def c19_ZQ:C:=.cd T38 (.sq (.rg [.mv 2 (.b false)]) .rt) .skip
def w19_ZQ:C:=.kp [0,3,38] [] c19_ZQ
def c17_ZQ:C:=.sq (.rg [.mv 21 T4,.un 22 .not T21,.mv 23 T22,.g 23 true (.mv 24 T3),.g 23 true (.bi 25 .eql T24 (.i 0)),.g 23 true (.mv 26 T25),.g 26 false (.mv 27 T0),.g 26 false (.mv 28 T3),.g 26 false (.ix 29 T27 T28),.g 26 false (.bi 30 .lss T29 (.k .u8 48)),.g 23 true (.pk 31 T26 (.b true) T30),.g 23 true (.mv 32 T31),.g 32 false (.mv 33 T0),.g 32 false (.mv 34 T3),.g 32 false (.ix 35 T33 T34),.g 32 false (.bi 36 .gtr T35 (.k .u8 57)),.g 23 true (.pk 37 T32 (.b true) T36),.pk 38 T23 T37 (.b false)]) w19_ZQ
def w17_ZQ:C:=.kp [0,3,4] [] c17_ZQ
def c7_ZQ:C:=.sq (.sq (.rg [.mv 5 T3,.mv 6 T0,.ln 7 true T6,.bi 8 .lss T5 T7]) (.cd T8 .skip (.ex 0))) (.sq (.bk 1 (.sq (.rg [.mv 11 T0,.mv 12 T3,.ix 13 T11 T12,.bi 14 .geq T13 (.k .u8 97),.mv 15 T14,.g 15 true (.mv 16 T0),.g 15 true (.mv 17 T3),.g 15 true (.ix 18 T16 T17),.g 15 true (.bi 19 .leq T18 (.k .u8 122)),.pk 20 T15 T19 (.b false),.mv 4 T20]) w17_ZQ)) c24_ZQ)
def ir_ZQ:C:=.sq (.rg [.mv 2 (.b false)]) (.sq (.sq (.rg [.mv 3 (.i 0)]) (.bk 0 (.lk [0,3] [] c7_ZQ))) w25_ZQ)
noncomputable abbrev T_ZQ(nf:Nat):XT:=[e_Zac nf]
noncomputable def m_ZQ(nf:Nat)(s:Str):Option (Bool):=runF (T_ZQ nf) nf [.v kS] [.t 2 (.v .bool)] ir_ZQ (s,())
noncomputable def X_ZQ{R:Type}(nf:Nat):C->Env->(Xt->Env->Option R)->Option R:=xc (R:=R) (T_ZQ nf).S nf
noncomputable def j19_ZQ(nf:Nat)(m6:Nat)(s:Str)(x3_6:Int)(x38_19:Bool):Option (Bool):=X_ZQ nf c19_ZQ ⟨[(0,.v kS s),(3,.v kI x3_6),(38,.v .bool x38_19)],[]⟩ (qB 1 (qS (X_ZQ nf c24_ZQ) (qM [0,3] [] (X_ZQ nf c7_ZQ) m6 (qB 0 (qS (X_ZQ nf w25_ZQ) (KF [.t 2 (.v .bool)]))))))
noncomputable def j17_ZQ(nf:Nat)(m6:Nat)(s:Str)(x3_6:Int)(x4_17:Bool):Option (Bool):=X_ZQ nf c17_ZQ ⟨[(0,.v kS s),(3,.v kI x3_6),(4,.v .bool x4_17)],[]⟩ (qB 1 (qS (X_ZQ nf c24_ZQ) (qM [0,3] [] (X_ZQ nf c7_ZQ) m6 (qB 0 (qS (X_ZQ nf w25_ZQ) (KF [.t 2 (.v .bool)]))))))
noncomputable def l6_ZQ(nf:Nat)(m6:Nat)(s:Str)(x3_6:Int):Option (Bool):=xit [0,3] [] (X_ZQ nf c7_ZQ) (qB 0 (qS (X_ZQ nf w25_ZQ) (KF [.t 2 (.v .bool)]))) m6 ⟨[(0,.v kS s),(3,.v kI x3_6)],[]⟩
noncomputable def j25_ZQ(nf:Nat)(s:Str):Option (Bool):=X_ZQ nf c25_ZQ ⟨[(0,.v kS s)],[]⟩ (KF [.t 2 (.v .bool)])
theorem j19_ZQ_eq(nf:Nat)(m6:Nat)(s:Str)(x3_6:Int)(x38_19:Bool):j19_ZQ nf m6 s x3_6 x38_19=(br x38_19 (some false) (mark (l6_ZQ nf m6 s (w64 (x3_6+(1:Int)))))):=by
 unfold j19_ZQ l6_ZQ c19_ZQ w25_ZQ c24_ZQ
 generalize c25_ZQ=x0
 revert x0
 refine id ?_
 intro x0
 kernel_rfl
theorem j17_ZQ_eq(nf:Nat)(m6:Nat)(s:Str)(x3_6:Int)(x4_17:Bool):j17_ZQ nf m6 s x3_6 x4_17=(br ((!x4_17)==true) (br ((x3_6==(0:Int))==false) (gg (0<=x3_6∧x3_6<(List.length s:Int))<|br ((decide (((List.getD s (Int.toNat x3_6) 0).toNat:Int)<(48:Int)))==false) (gg (0<=x3_6∧x3_6<(List.length s:Int))<|mark (j19_ZQ nf m6 s x3_6 (decide ((57:Int)<((List.getD s (Int.toNat x3_6) 0).toNat:Int))))) (mark (j19_ZQ nf m6 s x3_6 true))) (mark (j19_ZQ nf m6 s x3_6 true))) (mark (j19_ZQ nf m6 s x3_6 false))):=by
 unfold j17_ZQ j19_ZQ c17_ZQ w25_ZQ c24_ZQ w19_ZQ
 generalize c25_ZQ=x0
 generalize c19_ZQ=x1
 revert x0 x1
 refine id ?_
 intro x0 x1
 kernel_rfl
theorem l6_ZQ_eq(nf:Nat)(m6:Nat)(s:Str)(x3_6:Int):l6_ZQ nf (m6+1) s x3_6=(br (decide (x3_6<(List.length s:Int))) (gg (0<=x3_6∧x3_6<(List.length s:Int))<|br ((decide ((97:Int)<=((List.getD s (Int.toNat x3_6) 0).toNat:Int)))==true) (gg (0<=x3_6∧x3_6<(List.length s:Int))<|mark (j17_ZQ nf m6 s x3_6 (decide (((List.getD s (Int.toNat x3_6) 0).toNat:Int)<=(122:Int))))) (mark (j17_ZQ nf m6 s x3_6 false))) (mark (j25_ZQ nf s))):=by
 unfold l6_ZQ j17_ZQ j25_ZQ c7_ZQ w25_ZQ w17_ZQ c24_ZQ
 generalize c25_ZQ=x0
 generalize c17_ZQ=x1
 revert x0 x1
 refine id ?_
 intro x0 x1
 kernel_rfl
theorem j25_ZQ_eq(nf:Nat)(s:Str):j25_ZQ nf s=(cb (m_Zac nf (List.length s:Int) (1:Int) (4:Int)) fun r41=>br (r41==true) (br ((!(s==([105,102]:Str)))==true) (some (!(s==([102,111,114]:Str)))) (some false)) (some false)):=by kernel_rfl
theorem m_ZQ_eq(nf:Nat)(s:Str):m_ZQ nf s=(mark (l6_ZQ nf nf s (0:Int))):=by
 unfold m_ZQ l6_ZQ ir_ZQ w25_ZQ
 generalize c25_ZQ=x0
 revert x0
 refine id ?_
 intro x0
 kernel_rfl
noncomputable def e_ZQ(nf:Nat):XE:=eF 112 [.v kS] [.v .bool] (fun t=>m_ZQ nf t.1)
theorem o_ZQ(nf:Nat):conOK Try.prog 112 (e_ZQ nf).con:=by
 have ih:XT.ok Try.prog (T_ZQ nf):=by exact⟨o_Zac nf,trivial⟩
 refine eF_ok fun t x h=> ?_
 obtain⟨s,_⟩:=t
 exact runF_ok (N:=50) ih Try.func112 (by kernel_rfl) rfl h
def c23_ZO:C:=.sq (.rg [.mv 4 (.i (-1))]) .rt
def c7_ZO:C:=.sq (.sq (.rg [.mv 6 T5,.mv 7 T0,.ln 8 false T7,.bi 9 .lss T6 T8]) (.cd T9 .skip (.ex 0))) (.sq (.bk 1 (.sq (.rg [.mv 12 T0,.mv 13 T5,.ia 14 T12 T13 kS,.ld 15 T14 kS,.mv 16 T1,.bi 17 .eql T15 T16]) (.cd T17 (.sq (.rg [.mv 18 T5,.mv 4 T18]) .rt) .skip))) (.rg [.mv 10 T5,.bi 11 .add T10 (.i 1),.mv 5 T11]))
def ir_ZO:C:=.sq (.rg [.mv 4 (.i 0)]) (.sq (.sq (.rg [.mv 5 (.i 0)]) (.bk 0 (.lk [0,1,5] [] c7_ZO))) c23_ZO)
noncomputable abbrev T_ZO(nf:Nat):XT:=[]
noncomputable def m_ZO(nf:Nat)(list:List Str)(s:Str):Option (Int):=runF (T_ZO nf) nf [.v (kL kS),.v kS] [.t 4 (.v kI)] ir_ZO (list,s,())
noncomputable def X_ZO{R:Type}(nf:Nat):C->Env->(Xt->Env->Option R)->Option R:=xc (R:=R) (T_ZO nf).S nf
noncomputable def l6_ZO(nf:Nat)(m6:Nat)(list:List Str)(s:Str)(x5_6:Int):Option (Int):=xit [0,1,5] [] (X_ZO nf c7_ZO) (qB 0 (qS (X_ZO nf c23_ZO) (KF [.t 4 (.v kI)]))) m6 ⟨[(0,.v (kL kS) list),(1,.v kS s),(5,.v kI x5_6)],[]⟩
theorem l6_ZO_eq(nf:Nat)(m6:Nat)(list:List Str)(s:Str)(x5_6:Int):l6_ZO nf (m6+1) list s x5_6=(br (decide (x5_6<(List.length list:Int))) (gg (0<=x5_6∧x5_6<(List.length list:Int))<|br ((gt list x5_6 ([]:Str))==s) (some x5_6) (mark (l6_ZO nf m6 list s (w64 (x5_6+(1:Int)))))) (some (-1:Int))):=by kernel_rfl
theorem m_ZO_eq(nf:Nat)(list:List Str)(s:Str):m_ZO nf list s=(mark (l6_ZO nf nf list s (0:Int))):=by kernel_rfl
noncomputable def e_ZO(nf:Nat):XE:=eF 50 [.v (kL kS),.v kS] [.v kI] (fun t=>m_ZO nf t.1 t.2.1)
theorem o_ZO(nf:Nat):conOK Try.prog 50 (e_ZO nf).con:=by
 have ih:XT.ok Try.prog (T_ZO nf):=by exact trivial
 refine eF_ok fun t x h=> ?_
 obtain⟨list,s,_⟩:=t
 exact runF_ok (N:=19) ih Try.func50 (by kernel_rfl) rfl h
def c23_Zar:C:=.sq (.rg [.mv 16 T0,.ln 17 false T16,.cv (some 18) 113 [(T17,.v kI),((.i 1),.v kI),((.i 4),.v kI)],.mv 19 T18,.g 19 true (.mv 20 T0),.g 19 true (.cv (some 21) 114 [(T20,.v (kL kS))]),.pk 22 T19 T21 (.b false),.mv 2 T22]) .rt
def w23_Zar:C:=.kp [0] [] c23_Zar
def c7_Zar:C:=.sq (.sq (.rg [.mv 4 T3,.mv 5 T0,.ln 6 false T5,.bi 7 .lss T4 T6]) (.cd T7 .skip (.ex 0))) (.sq (.bk 1 (.sq (.rg [.mv 10 T0,.mv 11 T3,.ia 12 T10 T11 kS,.ld 13 T12 kS,.cv (some 14) 112 [(T13,.v kS)],.un 15 .not T14]) (.cd T15 (.sq (.rg [.mv 2 (.b false)]) .rt) .skip))) (.rg [.mv 8 T3,.bi 9 .add T8 (.i 1),.mv 3 T9]))
def ir_Zar:C:=.sq (.rg [.mv 2 (.b false)]) (.sq (.sq (.rg [.mv 3 (.i 0)]) (.bk 0 (.lk [0,3] [] c7_Zar))) w23_Zar)
noncomputable abbrev T_Zar(nf:Nat):XT:=[e_ZQ nf,e_Zac nf,e_ZG nf]
noncomputable def m_Zar(nf:Nat)(list:List Str):Option (Bool):=runF (T_Zar nf) nf [.v (kL kS)] [.t 2 (.v .bool)] ir_Zar (list,())
noncomputable def X_Zar{R:Type}(nf:Nat):C->Env->(Xt->Env->Option R)->Option R:=xc (R:=R) (T_Zar nf).S nf
noncomputable def l6_Zar(nf:Nat)(m6:Nat)(list:List Str)(x3_6:Int):Option (Bool):=xit [0,3] [] (X_Zar nf c7_Zar) (qB 0 (qS (X_Zar nf w23_Zar) (KF [.t 2 (.v .bool)]))) m6 ⟨[(0,.v (kL kS) list),(3,.v kI x3_6)],[]⟩
noncomputable def j23_Zar(nf:Nat)(list:List Str):Option (Bool):=X_Zar nf c23_Zar ⟨[(0,.v (kL kS) list)],[]⟩ (KF [.t 2 (.v .bool)])
theorem l6_Zar_eq(nf:Nat)(m6:Nat)(list:List Str)(x3_6:Int):l6_Zar nf (m6+1) list x3_6=(br (decide (x3_6<(List.length list:Int))) (gg (0<=x3_6∧x3_6<(List.length list:Int))<|cb (m_ZQ nf (gt list x3_6 ([]:Str))) fun r14=>br (!r14) (some false) (mark (l6_Zar nf m6 list (w64 (x3_6+(1:Int)))))) (mark (j23_Zar nf list))):=by
 unfold l6_Zar j23_Zar c7_Zar w23_Zar
 generalize c23_Zar=x0
 revert x0
 refine id ?_
 intro x0
 kernel_rfl
theorem j23_Zar_eq(nf:Nat)(list:List Str):j23_Zar nf list=(cb (m_Zac nf (List.length list:Int) (1:Int) (4:Int)) fun r18=>br (r18==true) (cb (m_ZG nf list) fun r21=>some r21) (some false)):=by kernel_rfl
theorem m_Zar_eq(nf:Nat)(list:List Str):m_Zar nf list=(mark (l6_Zar nf nf list (0:Int))):=by
 unfold m_Zar l6_Zar ir_Zar w23_Zar
 generalize c23_Zar=x0
 revert x0
 refine id ?_
 intro x0
 kernel_rfl
noncomputable def e_Zar(nf:Nat):XE:=eF 95 [.v (kL kS)] [.v .bool] (fun t=>m_Zar nf t.1)
theorem o_Zar(nf:Nat):conOK Try.prog 95 (e_Zar nf).con:=by
 have ih:XT.ok Try.prog (T_Zar nf):=by exact⟨o_ZQ nf,o_Zac nf,o_ZG nf,trivial⟩
 refine eF_ok fun t x h=> ?_
 obtain⟨list,_⟩:=t
 exact runF_ok (N:=23) ih Try.func95 (by kernel_rfl) rfl h
def c23_Zap:C:=.sq (.rg [.fa 20 T2 0 0 0,.ld 21 T20 kI,.mv 22 T1,.bi 23 .eql T21 T22,.mv 4 T23]) .rt
def c7_Zap:C:=.sq (.sq (.rg [.mv 6 T5,.fa 7 T2 0 2 2,.ld 8 T7 (kL (kR 0)),.ln 9 false T8,.bi 10 .lss T6 T9]) (.cd T10 .skip (.ex 0))) (.sq (.bk 1 (.sq (.rg [.fa 13 T2 0 2 2,.ld 14 T13 (kL (kR 0)),.mv 15 T5,.ia 16 T14 T15 (kR 0),.ld 17 T16 (kR 0),.mv 18 T1,.cv (some 19) 42 [(T17,.v (kR 0)),(T18,.v kI)]]) (.cd T19 (.sq (.rg [.mv 4 (.b true)]) .rt) .skip))) (.rg [.mv 11 T5,.bi 12 .add T11 (.i 1),.mv 5 T12]))
def ir_Zap:C:=.sq (.rg [.bx 2 T0 (kR 0),.mv 4 (.b false)]) (.sq (.sq (.rg [.mv 5 (.i 0)]) (.bk 0 (.lk [1,2,5] [[2]] c7_Zap))) c23_Zap)
noncomputable def B_Zap(nf:Nat):XT:=[]
noncomputable def G_Zap(nf:Nat):Nat->XT
 |0=>[]
 |kf+1=>[eF 42 [.v (kR 0),.v kI] [.v .bool] (fun t=>(fun(t:Ty) (kind:Int)=>runF (G_Zap nf kf++B_Zap nf) nf [.v (kR 0),.v kI] [.t 4 (.v .bool)] ir_Zap (t,kind,())) t.1 t.2.1)]
noncomputable abbrev T_Zap(nf kf:Nat):XT:=G_Zap nf kf++B_Zap nf
noncomputable def m_Zap(nf kf:Nat)(t:Ty)(kind:Int):Option (Bool):=runF (T_Zap nf kf) nf [.v (kR 0),.v kI] [.t 4 (.v .bool)] ir_Zap (t,kind,())
noncomputable def X_Zap{R:Type}(nf kf:Nat):C->Env->(Xt->Env->Option R)->Option R:=xc (R:=R) (T_Zap nf kf).S nf
noncomputable def l6_Zap(nf kf:Nat)(m6:Nat)(kind:Int)(t:Ty)(x5_6:Int):Option (Bool):=xit [1,2,5] [[2]] (X_Zap nf kf c7_Zap) (qB 0 (qS (X_Zap nf kf c23_Zap) (KF [.t 4 (.v .bool)]))) m6 ⟨[(1,.v kI kind),(2,.pt [2] 0),(5,.v kI x5_6)],[([2],.box [.v kI t.kind,.v (kL kS) t.labels,.v (kL (kR 0)) t.args])]⟩
theorem l6_Zap_eq(nf kf:Nat)(m6:Nat)(kind:Int)(t:Ty)(x5_6:Int):l6_Zap nf (kf+1) (m6+1) kind t x5_6=(br (decide (x5_6<(List.length t.args:Int))) (gg (0<=x5_6∧x5_6<(List.length t.args:Int))<|cb (m_Zap nf kf (gt t.args x5_6 Ty.zero) kind) fun r19=>br r19 (some true) (mark (l6_Zap nf (kf+1) m6 kind t (w64 (x5_6+(1:Int)))))) (some (t.kind==kind))):=by kernel_rfl
theorem m_Zap_eq(nf kf:Nat)(t:Ty)(kind:Int):m_Zap nf (kf+1) t kind=(mark (l6_Zap nf (kf+1) nf kind t (0:Int))):=by kernel_rfl
noncomputable def e_Zap(nf:Nat):XE:=eF 42 [.v (kR 0),.v kI] [.v .bool] (fun t=>m_Zap nf nf t.1 t.2.1)
theorem gok_Zap(nf:Nat):∀kf:Nat,XT.ok Try.prog (G_Zap nf kf++B_Zap nf)
 |0=>by exact trivial
 |kf+1=>by
  have ih:=gok_Zap nf kf
  refine⟨?_,(by exact trivial)⟩
  ·refine eF_ok fun t x h=> ?_
   obtain⟨t,kind,_⟩:=t
   exact runF_ok (N:=24) ih Try.func42 (by kernel_rfl) rfl h
theorem o_Zap(nf:Nat):conOK Try.prog 42 (e_Zap nf).con:=by
 have ih:=gok_Zap nf nf
 refine eF_ok fun t x h=> ?_
 obtain⟨t,kind,_⟩:=t
 exact runF_ok (N:=24) ih Try.func42 (by kernel_rfl) rfl h
def c19_Zas:C:=.sq (.rg [.mv 26 T1,.mv 4 T26]) .rt
def c15_Zas:C:=.sq (.bk 1 (.rg [.fa 19 T2 0 2 2,.ld 20 T19 (kL (kR 0)),.mv 21 T5,.ia 22 T20 T21 (kR 0),.ld 23 T22 (kR 0),.mv 24 T1,.cv (some 25) 62 [(T23,.v (kR 0)),(T24,.v kI)],.mv 1 T25])) (.rg [.mv 17 T5,.bi 18 .add T17 (.i 1),.mv 5 T18])
def c12_Zas:C:=.cd T16 .skip (.ex 0)
def w12_Zas:C:=.kp [1,2,5,16] [[2]] c12_Zas
def c9_Zas:C:=.sq (.sq (.rg [.mv 8 T5,.fa 9 T2 0 2 2,.ld 10 T9 (kL (kR 0)),.ln 11 false T10,.bi 12 .lss T8 T11,.mv 13 T12,.g 13 true (.mv 14 T1),.g 13 true (.bi 15 .geq T14 (.i 0)),.pk 16 T13 T15 (.b false)]) w12_Zas) c15_Zas
def ir_Zas:C:=.sq (.rg [.bx 2 T0 (kR 0),.mv 4 (.i 0)]) (.sq (.rg [.mv 6 T1,.bi 7 .sub T6 (.i 1),.mv 1 T7]) (.sq (.sq (.rg [.mv 5 (.i 0)]) (.bk 0 (.lk [1,2,5] [[2]] c9_Zas))) c19_Zas))
noncomputable def B_Zas(nf:Nat):XT:=[]
noncomputable def G_Zas(nf:Nat):Nat->XT
 |0=>[]
 |kf+1=>[eF 62 [.v (kR 0),.v kI] [.v kI] (fun t=>(fun(t:Ty) (left:Int)=>runF (G_Zas nf kf++B_Zas nf) nf [.v (kR 0),.v kI] [.t 4 (.v kI)] ir_Zas (t,left,())) t.1 t.2.1)]
noncomputable abbrev T_Zas(nf kf:Nat):XT:=G_Zas nf kf++B_Zas nf
noncomputable def m_Zas(nf kf:Nat)(t:Ty)(left:Int):Option (Int):=runF (T_Zas nf kf) nf [.v (kR 0),.v kI] [.t 4 (.v kI)] ir_Zas (t,left,())
noncomputable def X_Zas{R:Type}(nf kf:Nat):C->Env->(Xt->Env->Option R)->Option R:=xc (R:=R) (T_Zas nf kf).S nf
noncomputable def j12_Zas(nf kf:Nat)(m8:Nat)(x1_8:Int)(x5_8:Int)(t:Ty)(x16_12:Bool):Option (Int):=X_Zas nf kf c12_Zas ⟨[(1,.v kI x1_8),(2,.pt [2] 0),(5,.v kI x5_8),(16,.v .bool x16_12)],[([2],.box [.v kI t.kind,.v (kL kS) t.labels,.v (kL (kR 0)) t.args])]⟩ (qS (X_Zas nf kf c15_Zas) (qM [1,2,5] [[2]] (X_Zas nf kf c9_Zas) m8 (qB 0 (qS (X_Zas nf kf c19_Zas) (KF [.t 4 (.v kI)])))))
noncomputable def l8_Zas(nf kf:Nat)(m8:Nat)(t:Ty)(x1_8:Int)(x5_8:Int):Option (Int):=xit [1,2,5] [[2]] (X_Zas nf kf c9_Zas) (qB 0 (qS (X_Zas nf kf c19_Zas) (KF [.t 4 (.v kI)]))) m8 ⟨[(1,.v kI x1_8),(2,.pt [2] 0),(5,.v kI x5_8)],[([2],.box [.v kI t.kind,.v (kL kS) t.labels,.v (kL (kR 0)) t.args])]⟩
theorem j12_Zas_eq(nf kf:Nat)(m8:Nat)(x1_8:Int)(x5_8:Int)(t:Ty)(x16_12:Bool):j12_Zas nf (kf+1) m8 x1_8 x5_8 t x16_12=(br x16_12 (gg (0<=x5_8∧x5_8<(List.length t.args:Int))<|cb (m_Zas nf kf (gt t.args x5_8 Ty.zero) x1_8) fun r25=>mark (l8_Zas nf (kf+1) m8 t r25 (w64 (x5_8+(1:Int))))) (some x1_8)):=by kernel_rfl
theorem l8_Zas_eq(nf kf:Nat)(m8:Nat)(t:Ty)(x1_8:Int)(x5_8:Int):l8_Zas nf (kf+1) (m8+1) t x1_8 x5_8=(br ((decide (x5_8<(List.length t.args:Int)))==true) (mark (j12_Zas nf (kf+1) m8 x1_8 x5_8 t (decide ((0:Int)<=x1_8)))) (mark (j12_Zas nf (kf+1) m8 x1_8 x5_8 t false))):=by
 unfold l8_Zas j12_Zas c9_Zas c19_Zas w12_Zas c15_Zas
 generalize c12_Zas=x0
 revert x0
 refine id ?_
 intro x0
 kernel_rfl
theorem m_Zas_eq(nf kf:Nat)(t:Ty)(left:Int):m_Zas nf (kf+1) t left=(mark (l8_Zas nf (kf+1) nf t (w64 (left-(1:Int))) (0:Int))):=by kernel_rfl
noncomputable def e_Zas(nf:Nat):XE:=eF 62 [.v (kR 0),.v kI] [.v kI] (fun t=>m_Zas nf nf t.1 t.2.1)
theorem gok_Zas(nf:Nat):∀kf:Nat,XT.ok Try.prog (G_Zas nf kf++B_Zas nf)
 |0=>by exact trivial
 |kf+1=>by
  have ih:=gok_Zas nf kf
  refine⟨?_,(by exact trivial)⟩
  ·refine eF_ok fun t x h=> ?_
   obtain⟨t,left,_⟩:=t
   exact runF_ok (N:=27) ih Try.func62 (by kernel_rfl) rfl h
theorem o_Zas(nf:Nat):conOK Try.prog 62 (e_Zas nf).con:=by
 have ih:=gok_Zas nf nf
 refine eF_ok fun t x h=> ?_
 obtain⟨t,left,_⟩:=t
 exact runF_ok (N:=27) ih Try.func62 (by kernel_rfl) rfl h
def c19_ZJ:C:=.sq (.rg [.mv 20 T3,.bi 21 .add T20 (.i 1),.mv 2 T21]) .rt
def c9_ZJ:C:=.sq (.sq (.rg [.mv 5 T4,.fa 6 T1 0 2 2,.ld 7 T6 (kL (kR 0)),.ln 8 false T7,.bi 9 .lss T5 T8]) (.cd T9 .skip (.ex 0))) (.sq (.bk 1 (.rg [.mv 12 T3,.fa 13 T1 0 2 2,.ld 14 T13 (kL (kR 0)),.mv 15 T4,.ia 16 T14 T15 (kR 0),.ld 17 T16 (kR 0),.cv (some 18) 63 [(T17,.v (kR 0))],.cv (some 19) 94 [(T12,.v kI),(T18,.v kI)],.mv 3 T19])) (.rg [.mv 10 T4,.bi 11 .add T10 (.i 1),.mv 4 T11]))
def ir_ZJ:C:=.sq (.rg [.bx 1 T0 (kR 0),.mv 2 (.i 0)]) (.sq (.rg [.mv 3 (.i 0)]) (.sq (.sq (.rg [.mv 4 (.i 0)]) (.bk 0 (.lk [1,3,4] [[1]] c9_ZJ))) c19_ZJ))
noncomputable def B_ZJ(nf:Nat):XT:=[e_Zad nf]
noncomputable def G_ZJ(nf:Nat):Nat->XT
 |0=>[]
 |kf+1=>[eF 63 [.v (kR 0)] [.v kI] (fun t=>(fun(t:Ty)=>runF (G_ZJ nf kf++B_ZJ nf) nf [.v (kR 0)] [.t 2 (.v kI)] ir_ZJ (t,())) t.1)]
noncomputable abbrev T_ZJ(nf kf:Nat):XT:=G_ZJ nf kf++B_ZJ nf
noncomputable def m_ZJ(nf kf:Nat)(t:Ty):Option (Int):=runF (T_ZJ nf kf) nf [.v (kR 0)] [.t 2 (.v kI)] ir_ZJ (t,())
noncomputable def X_ZJ{R:Type}(nf kf:Nat):C->Env->(Xt->Env->Option R)->Option R:=xc (R:=R) (T_ZJ nf kf).S nf
noncomputable def l8_ZJ(nf kf:Nat)(m8:Nat)(t:Ty)(x3_8:Int)(x4_8:Int):Option (Int):=xit [1,3,4] [[1]] (X_ZJ nf kf c9_ZJ) (qB 0 (qS (X_ZJ nf kf c19_ZJ) (KF [.t 2 (.v kI)]))) m8 ⟨[(1,.pt [1] 0),(3,.v kI x3_8),(4,.v kI x4_8)],[([1],.box [.v kI t.kind,.v (kL kS) t.labels,.v (kL (kR 0)) t.args])]⟩
theorem l8_ZJ_eq(nf kf:Nat)(m8:Nat)(t:Ty)(x3_8:Int)(x4_8:Int):l8_ZJ nf (kf+1) (m8+1) t x3_8 x4_8=(br (decide (x4_8<(List.length t.args:Int))) (gg (0<=x4_8∧x4_8<(List.length t.args:Int))<|cb (m_ZJ nf kf (gt t.args x4_8 Ty.zero)) fun r18=>cb (m_Zad nf x3_8 r18) fun r19=>mark (l8_ZJ nf (kf+1) m8 t r19 (w64 (x4_8+(1:Int))))) (some (w64 (x3_8+(1:Int))))):=by kernel_rfl
theorem m_ZJ_eq(nf kf:Nat)(t:Ty):m_ZJ nf (kf+1) t=(mark (l8_ZJ nf (kf+1) nf t (0:Int) (0:Int))):=by kernel_rfl
noncomputable def e_ZJ(nf:Nat):XE:=eF 63 [.v (kR 0)] [.v kI] (fun t=>m_ZJ nf nf t.1)
theorem gok_ZJ(nf:Nat):∀kf:Nat,XT.ok Try.prog (G_ZJ nf kf++B_ZJ nf)
 |0=>by exact⟨o_Zad nf,trivial⟩
 |kf+1=>by
  have ih:=gok_ZJ nf kf
  refine⟨?_,(by exact⟨o_Zad nf,trivial⟩)⟩
  ·refine eF_ok fun t x h=> ?_
   obtain⟨t,_⟩:=t
   exact runF_ok (N:=22) ih Try.func63 (by kernel_rfl) rfl h
theorem o_ZJ(nf:Nat):conOK Try.prog 63 (e_ZJ nf).con:=by
 have ih:=gok_ZJ nf nf
 refine eF_ok fun t x h=> ?_
 obtain⟨t,_⟩:=t
 exact runF_ok (N:=22) ih Try.func63 (by kernel_rfl) rfl h
def c62_Zan:C:=.sq (.rg [.fa 64 T1 0 1 1,.ld 65 T64 (kL kS),.ln 66 false T65,.bi 67 .eql T66 (.i 0),.mv 68 T67,.g 68 true (.fa 69 T1 0 2 2),.g 68 true (.ld 70 T69 (kL (kR 0))),.g 68 true (.ln 71 false T70),.g 68 true (.mv 72 T4),.g 68 true (.bi 73 .eql T71 T72),.pk 74 T68 T73 (.b false),.mv 2 T74]) .rt
def w62_Zan:C:=.kp [1,4] [[1]] c62_Zan
def c51_Zan:C:=.cd T57 (.rg [.mv 4 (.i 0)]) (.sq (.rg [.bi 61 .eql T56 (.i 4),.mv 60 T61]) (.cd T60 (.rg [.mv 4 (.i 1)]) (.sq (.rg [.bi 63 .eql T56 (.i 5),.mv 62 T63]) (.cd T62 (.rg [.mv 4 (.i 2)]) .skip))))
def w51_Zan:C:=.kp [1,4,56,57] [[1]] c51_Zan
def c39_Zan:C:=.sq (.rg [.mv 4 (.i (-1))]) (.sq (.sq (.rg [.fa 55 T1 0 0 0,.ld 56 T55 kI]) (.bk 2 (.sq (.sq (.rg [.bi 58 .eql T56 (.i 1),.mv 57 T58]) (.cd T57 .skip (.rg [.bi 59 .eql T56 (.i 2),.mv 57 T59]))) w51_Zan))) w62_Zan)
def c34_Zan:C:=.cd T54 (.sq (.rg [.mv 2 (.b false)]) .rt) .skip
def w34_Zan:C:=.kp [1,54] [[1]] c34_Zan
def c31_Zan:C:=.sq (.sq (.rg [.fa 39 T1 0 0 0,.ld 40 T39 kI,.bi 41 .eql T40 (.i 4),.mv 42 T41,.g 42 true (.fa 43 T1 0 2 2),.g 42 true (.ld 44 T43 (kL (kR 0))),.g 42 true (.ln 45 false T44),.g 42 true (.bi 46 .eql T45 (.i 1)),.pk 47 T42 T46 (.b false),.mv 48 T47,.g 48 true (.fa 49 T1 0 2 2),.g 48 true (.ld 50 T49 (kL (kR 0))),.g 48 true (.ia 51 T50 (.i 0) (kR 0)),.g 48 true (.ld 52 T51 (kR 0)),.g 48 true (.cv (some 53) 42 [(T52,.v (kR 0)),((.i 5),.v kI)]),.pk 54 T48 T53 (.b false)]) w34_Zan) c39_Zan
def c29_Zan:C:=.rt
def w29_Zan:C:=.kp [2] [] c29_Zan
def c23_Zan:C:=.sq (.sq (.rg [.fa 19 T1 0 0 0,.ld 20 T19 kI,.bi 21 .eql T20 (.i 3)]) (.cd T21 (.sq (.rg [.fa 22 T1 0 2 2,.ld 23 T22 (kL (kR 0)),.ln 24 false T23,.fa 25 T1 0 1 1,.ld 26 T25 (kL kS),.ln 27 false T26,.bi 28 .eql T24 T27,.mv 29 T28,.g 29 true (.fa 30 T1 0 1 1),.g 29 true (.ld 31 T30 (kL kS)),.g 29 true (.cv (some 32) 95 [(T31,.v (kL kS))]),.pk 33 T29 T32 (.b false),.mv 34 T33,.g 34 true (.ld 35 T1 (kR 0)),.g 34 true (.cv (some 36) 42 [(T35,.v (kR 0)),((.i 5),.v kI)]),.g 34 true (.un 37 .not T36),.pk 38 T34 T37 (.b false),.mv 2 T38]) w29_Zan) .skip)) c31_Zan
def w23_Zan:C:=.kp [1] [[1]] c23_Zan
def c7_Zan:C:=.sq (.sq (.rg [.mv 5 T3,.fa 6 T1 0 2 2,.ld 7 T6 (kL (kR 0)),.ln 8 false T7,.bi 9 .lss T5 T8]) (.cd T9 .skip (.ex 0))) (.sq (.bk 1 (.sq (.rg [.fa 12 T1 0 2 2,.ld 13 T12 (kL (kR 0)),.mv 14 T3,.ia 15 T13 T14 (kR 0),.ld 16 T15 (kR 0),.cv (some 17) 64 [(T16,.v (kR 0))],.un 18 .not T17]) (.cd T18 (.sq (.rg [.mv 2 (.b false)]) .rt) .skip))) (.rg [.mv 10 T3,.bi 11 .add T10 (.i 1),.mv 3 T11]))
def ir_Zan:C:=.sq (.rg [.bx 1 T0 (kR 0),.mv 2 (.b false)]) (.sq (.sq (.rg [.mv 3 (.i 0)]) (.bk 0 (.lk [1,3] [[1]] c7_Zan))) w23_Zan)
noncomputable def B_Zan(nf:Nat):XT:=[e_Zar nf,e_Zap nf]
noncomputable def G_Zan(nf:Nat):Nat->XT
 |0=>[]
 |kf+1=>[eF 64 [.v (kR 0)] [.v .bool] (fun t=>(fun(t:Ty)=>runF (G_Zan nf kf++B_Zan nf) nf [.v (kR 0)] [.t 2 (.v .bool)] ir_Zan (t,())) t.1)]
noncomputable abbrev T_Zan(nf kf:Nat):XT:=G_Zan nf kf++B_Zan nf
noncomputable def m_Zan(nf kf:Nat)(t:Ty):Option (Bool):=runF (T_Zan nf kf) nf [.v (kR 0)] [.t 2 (.v .bool)] ir_Zan (t,())
noncomputable def X_Zan{R:Type}(nf kf:Nat):C->Env->(Xt->Env->Option R)->Option R:=xc (R:=R) (T_Zan nf kf).S nf
noncomputable def l6_Zan(nf kf:Nat)(m6:Nat)(t:Ty)(x3_6:Int):Option (Bool):=xit [1,3] [[1]] (X_Zan nf kf c7_Zan) (qB 0 (qS (X_Zan nf kf w23_Zan) (KF [.t 2 (.v .bool)]))) m6 ⟨[(1,.pt [1] 0),(3,.v kI x3_6)],[([1],.box [.v kI t.kind,.v (kL kS) t.labels,.v (kL (kR 0)) t.args])]⟩
noncomputable def j29_Zan(nf kf:Nat)(x2_29:Bool):Option (Bool):=X_Zan nf kf c29_Zan ⟨[(2,.v .bool x2_29)],[]⟩ (qS (X_Zan nf kf c31_Zan) (KF [.t 2 (.v .bool)]))
noncomputable def j34_Zan(nf kf:Nat)(t:Ty)(x54_34:Bool):Option (Bool):=X_Zan nf kf c34_Zan ⟨[(1,.pt [1] 0),(54,.v .bool x54_34)],[([1],.box [.v kI t.kind,.v (kL kS) t.labels,.v (kL (kR 0)) t.args])]⟩ (qS (X_Zan nf kf c39_Zan) (KF [.t 2 (.v .bool)]))
noncomputable def j51_Zan(nf kf:Nat)(t:Ty)(x57_51:Bool):Option (Bool):=X_Zan nf kf c51_Zan ⟨[(1,.pt [1] 0),(4,.v kI (-1:Int)),(56,.v kI t.kind),(57,.v .bool x57_51)],[([1],.box [.v kI t.kind,.v (kL kS) t.labels,.v (kL (kR 0)) t.args])]⟩ (qB 2 (qS (X_Zan nf kf w62_Zan) (KF [.t 2 (.v .bool)])))
noncomputable def j62_Zan(nf kf:Nat)(t:Ty)(x4_62:Int):Option (Bool):=X_Zan nf kf c62_Zan ⟨[(1,.pt [1] 0),(4,.v kI x4_62)],[([1],.box [.v kI t.kind,.v (kL kS) t.labels,.v (kL (kR 0)) t.args])]⟩ (KF [.t 2 (.v .bool)])
noncomputable def j23_Zan(nf kf:Nat)(t:Ty):Option (Bool):=X_Zan nf kf c23_Zan ⟨[(1,.pt [1] 0)],[([1],.box [.v kI t.kind,.v (kL kS) t.labels,.v (kL (kR 0)) t.args])]⟩ (KF [.t 2 (.v .bool)])
theorem l6_Zan_eq(nf kf:Nat)(m6:Nat)(t:Ty)(x3_6:Int):l6_Zan nf (kf+1) (m6+1) t x3_6=(br (decide (x3_6<(List.length t.args:Int))) (gg (0<=x3_6∧x3_6<(List.length t.args:Int))<|cb (m_Zan nf kf (gt t.args x3_6 Ty.zero)) fun r17=>br (!r17) (some false) (mark (l6_Zan nf (kf+1) m6 t (w64 (x3_6+(1:Int)))))) (mark (j23_Zan nf (kf+1) t))):=by
 unfold l6_Zan j23_Zan c7_Zan w23_Zan
 generalize c23_Zan=x0
 revert x0
 refine id ?_
 intro x0
 kernel_rfl
theorem j29_Zan_eq(nf kf:Nat)(x2_29:Bool):j29_Zan nf (kf+1) x2_29=(some x2_29):=by
 unfold j29_Zan c29_Zan c31_Zan w34_Zan c39_Zan w51_Zan w62_Zan
 generalize c34_Zan=x0
 generalize c51_Zan=x1
 generalize c62_Zan=x2
 revert x0 x1 x2
 refine id ?_
 intro x0 x1 x2
 kernel_rfl
theorem j34_Zan_eq(nf kf:Nat)(t:Ty)(x54_34:Bool):j34_Zan nf (kf+1) t x54_34=(br x54_34 (some false) (br (t.kind==(1:Int)) (mark (j51_Zan nf (kf+1) t (t.kind==(1:Int)))) (mark (j51_Zan nf (kf+1) t (t.kind==(2:Int)))))):=by
 unfold j34_Zan j51_Zan c34_Zan c39_Zan w51_Zan w62_Zan
 generalize c51_Zan=x0
 generalize c62_Zan=x1
 revert x0 x1
 refine id ?_
 intro x0 x1
 kernel_rfl
theorem j51_Zan_eq(nf kf:Nat)(t:Ty)(x57_51:Bool):j51_Zan nf (kf+1) t x57_51=(br x57_51 (mark (j62_Zan nf (kf+1) t (0:Int))) (br (t.kind==(4:Int)) (mark (j62_Zan nf (kf+1) t (1:Int))) (br (t.kind==(5:Int)) (mark (j62_Zan nf (kf+1) t (2:Int))) (mark (j62_Zan nf (kf+1) t (-1:Int)))))):=by
 unfold j51_Zan j62_Zan c51_Zan w62_Zan
 generalize c62_Zan=x0
 revert x0
 refine id ?_
 intro x0
 kernel_rfl
theorem j62_Zan_eq(nf kf:Nat)(t:Ty)(x4_62:Int):j62_Zan nf (kf+1) t x4_62=(br (((List.length t.labels:Int)==(0:Int))==true) (some ((List.length t.args:Int)==x4_62)) (some false)):=by kernel_rfl
theorem j23_Zan_eq(nf kf:Nat)(t:Ty):j23_Zan nf (kf+1) t=(br (t.kind==(3:Int)) (br (((List.length t.args:Int)==(List.length t.labels:Int))==true) (cb (m_Zar nf t.labels) fun r32=>br (r32==true) (cb (m_Zap nf nf (Ty.h t) (5:Int)) fun r36=>mark (j29_Zan nf (kf+1) (!r36))) (mark (j29_Zan nf (kf+1) false))) (mark (j29_Zan nf (kf+1) false))) (br ((t.kind==(4:Int))==true) (br (((List.length t.args:Int)==(1:Int))==true) (gg (0<=(0:Int)∧(0:Int)<(List.length t.args:Int))<|cb (m_Zap nf nf (gt t.args (0:Int) Ty.zero) (5:Int)) fun r53=>mark (j34_Zan nf (kf+1) t r53)) (mark (j34_Zan nf (kf+1) t false))) (mark (j34_Zan nf (kf+1) t false)))):=by
 unfold j23_Zan j29_Zan j34_Zan c23_Zan w29_Zan c31_Zan w34_Zan c39_Zan w51_Zan w62_Zan
 generalize c29_Zan=x0
 generalize c34_Zan=x1
 generalize c51_Zan=x2
 generalize c62_Zan=x3
 revert x0 x1 x2 x3
 refine id ?_
 intro x0 x1 x2 x3
 kernel_rfl
theorem m_Zan_eq(nf kf:Nat)(t:Ty):m_Zan nf (kf+1) t=(mark (l6_Zan nf (kf+1) nf t (0:Int))):=by
 unfold m_Zan l6_Zan ir_Zan w23_Zan
 generalize c23_Zan=x0
 revert x0
 refine id ?_
 intro x0
 kernel_rfl
noncomputable def e_Zan(nf:Nat):XE:=eF 64 [.v (kR 0)] [.v .bool] (fun t=>m_Zan nf nf t.1)
theorem gok_Zan(nf:Nat):∀kf:Nat,XT.ok Try.prog (G_Zan nf kf++B_Zan nf)
 |0=>by exact⟨o_Zar nf,o_Zap nf,trivial⟩
 |kf+1=>by
  have ih:=gok_Zan nf kf
  refine⟨?_,(by exact⟨o_Zar nf,o_Zap nf,trivial⟩)⟩
  ·refine eF_ok fun t x h=> ?_
   obtain⟨t,_⟩:=t
   exact runF_ok (N:=75) ih Try.func64 (by kernel_rfl) rfl h
theorem o_Zan(nf:Nat):conOK Try.prog 64 (e_Zan nf).con:=by
 have ih:=gok_Zan nf nf
 refine eF_ok fun t x h=> ?_
 obtain⟨t,_⟩:=t
 exact runF_ok (N:=75) ih Try.func64 (by kernel_rfl) rfl h
def ir_ZR:C:=.sq (.rg [.bx 1 T0 (kR 0),.mv 2 (.b false)]) (.sq (.rg [.ld 3 T1 (kR 0),.cv (some 4) 62 [(T3,.v (kR 0)),((.i 24),.v kI)],.bi 5 .geq T4 (.i 0),.mv 6 T5,.g 6 true (.ld 7 T1 (kR 0)),.g 6 true (.cv (some 8) 63 [(T7,.v (kR 0))]),.g 6 true (.bi 9 .leq T8 (.i 7)),.pk 10 T6 T9 (.b false),.mv 11 T10,.g 11 true (.ld 12 T1 (kR 0)),.g 11 true (.cv (some 13) 64 [(T12,.v (kR 0))]),.pk 14 T11 T13 (.b false),.mv 2 T14]) .rt)
noncomputable abbrev T_ZR(nf:Nat):XT:=[e_Zas nf,e_ZJ nf,e_Zan nf]
noncomputable def m_ZR(nf:Nat)(t:Ty):Option (Bool):=runF (T_ZR nf) nf [.v (kR 0)] [.t 2 (.v .bool)] ir_ZR (t,())
theorem m_ZR_eq(nf:Nat)(t:Ty):m_ZR nf t=(cb (m_Zas nf nf (Ty.h t) (24:Int)) fun r4=>br ((decide ((0:Int)<=r4))==true) (cb (m_ZJ nf nf (Ty.h t)) fun r8=>br ((decide (r8<=(7:Int)))==true) (cb (m_Zan nf nf (Ty.h t)) fun r13=>some r13) (some false)) (some false)):=by kernel_rfl
noncomputable def e_ZR(nf:Nat):XE:=eF 28 [.v (kR 0)] [.v .bool] (fun t=>m_ZR nf t.1)
theorem o_ZR(nf:Nat):conOK Try.prog 28 (e_ZR nf).con:=by
 have ih:XT.ok Try.prog (T_ZR nf):=by exact⟨o_Zas nf,o_ZJ nf,o_Zan nf,trivial⟩
 refine eF_ok fun t x h=> ?_
 obtain⟨t,_⟩:=t
 exact runF_ok (N:=15) ih Try.func28 (by kernel_rfl) rfl h
def ir_ZP:C:=.sq (.rg [.bx 1 T0 (kR 0),.mv 2 (.b false)]) (.sq (.rg [.ld 3 T1 (kR 0),.cv (some 4) 28 [(T3,.v (kR 0))],.mv 5 T4,.g 5 true (.ld 6 T1 (kR 0)),.g 5 true (.cv (some 7) 42 [(T6,.v (kR 0)),((.i 5),.v kI)]),.g 5 true (.un 8 .not T7),.pk 9 T5 T8 (.b false),.mv 2 T9]) .rt)
noncomputable abbrev T_ZP(nf:Nat):XT:=[e_ZR nf,e_Zap nf]
noncomputable def m_ZP(nf:Nat)(t:Ty):Option (Bool):=runF (T_ZP nf) nf [.v (kR 0)] [.t 2 (.v .bool)] ir_ZP (t,())
theorem m_ZP_eq(nf:Nat)(t:Ty):m_ZP nf t=(cb (m_ZR nf (Ty.h t)) fun r4=>br (r4==true) (cb (m_Zap nf nf (Ty.h t) (5:Int)) fun r7=>some (!r7)) (some false)):=by kernel_rfl
noncomputable def e_ZP(nf:Nat):XE:=eF 13 [.v (kR 0)] [.v .bool] (fun t=>m_ZP nf t.1)
theorem o_ZP(nf:Nat):conOK Try.prog 13 (e_ZP nf).con:=by
 have ih:XT.ok Try.prog (T_ZP nf):=by exact⟨o_ZR nf,o_Zap nf,trivial⟩
 refine eF_ok fun t x h=> ?_
 obtain⟨t,_⟩:=t
 exact runF_ok (N:=10) ih Try.func13 (by kernel_rfl) rfl h
def ir_ZY:C:=.sq (.rg [.mv 4 (.nl kS)]) (.sq (.rg [.bs 5 true kS [],.mv 6 T0,.an 7 true kS T5 T6,.mv 8 T1,.bs 9 true kS [T8],.ap 10 [4] true kS T7 T9,.mv 4 T10]) .rt)
noncomputable abbrev T_ZY(nf:Nat):XT:=[]
noncomputable def m_ZY(nf:Nat)(path:List Str)(step:Str):Option (List Str):=runF (T_ZY nf) nf [.v (kL kS),.v kS] [.t 4 (.o (kL kS))] ir_ZY (path,step,())
theorem m_ZY_eq(nf:Nat)(path:List Str)(step:Str):m_ZY nf path step=(gg (List.length path<=33554432)<|gg (List.length path+List.length ([step]:List Str)<=33554432)<|some (path++([step]:List Str))):=by kernel_rfl
noncomputable def e_ZY(nf:Nat):XE:=eF 81 [.v (kL kS),.v kS] [.o (kL kS)] (fun t=>m_ZY nf t.1 t.2.1)
theorem o_ZY(nf:Nat):conOK Try.prog 81 (e_ZY nf).con:=by
 have ih:XT.ok Try.prog (T_ZY nf):=by exact trivial
 refine eF_ok fun t x h=> ?_
 obtain⟨path,step,_⟩:=t
 exact runF_ok (N:=11) ih Try.func81 (by kernel_rfl) rfl h
def c34_ZW:C:=.sq (.rg [.mv 51 T5,.mv 4 T51]) .rt
def c23_ZW:C:=.sq (.sq (.rg [.mv 29 T6,.fa 30 T2 0 2 2,.ld 31 T30 (kL (kR 0)),.ln 32 false T31,.bi 33 .lss T29 T32]) (.cd T33 .skip (.ex 1))) (.sq (.bk 2 (.gt 5 true (kL kS) (.dr [49] [.mv 36 T5,.fa 37 T2 0 2 2,.ld 38 T37 (kL (kR 0)),.mv 39 T6,.ia 40 T38 T39 (kR 0),.ld 41 T40 (kR 0),.mv 42 T1,.fa 43 T2 0 1 1,.ld 44 T43 (kL kS),.mv 45 T6,.ia 46 T44 T45 kS,.ld 47 T46 kS,.cv (some 48) 81 [(T42,.v (kL kS)),(T47,.v kS)],.ca (some 49) 40 [(T41,.v (kR 0)),(T48,.v (kL kS))]] [.ap 50 [5] true (kL kS) T36 T49,.mv 5 T50]))) (.rg [.mv 34 T6,.bi 35 .add T34 (.i 1),.mv 6 T35]))
def ir_ZW:C:=.sq (.rg [.bx 2 T0 (kR 0),.mv 4 (.nl (kL kS))]) (.sq (.rg [.bs 7 true (kL kS) [],.mv 5 T7]) (.sq (.sq (.rg [.fa 8 T2 0 0 0,.ld 9 T8 kI]) (.bk 0 (.sq (.rg [.bi 11 .eql T9 (.i 4),.mv 10 T11]) (.cd T10 (.sq (.gt 5 true (kL kS) (.rg [.mv 12 T5,.bs 13 true kS [],.mv 14 T1,.an 15 true kS T13 T14,.bl 16 (kL kS) [T15],.apl 17 [5] (kL kS) T12 16,.mv 5 T17])) (.sq (.dr [25] [.mv 18 T5,.fa 19 T2 0 2 2,.ld 20 T19 (kL (kR 0)),.ia 21 T20 (.i 0) (kR 0),.ld 22 T21 (kR 0),.mv 23 T1,.cv (some 24) 81 [(T23,.v (kL kS)),((.s [33]),.v kS)],.ca (some 25) 40 [(T22,.v (kR 0)),(T24,.v (kL kS))]] [.ap 26 [4] true (kL kS) T18 T25,.mv 4 T26]) .rt)) (.sq (.rg [.bi 28 .eql T9 (.i 3),.mv 27 T28]) (.cd T27 (.sq (.rg [.mv 6 (.i 0)]) (.bk 1 (.gt 5 true (kL kS) (.lk [1,2,5,6] [[2],[5]] c23_ZW)))) .skip)))))) c34_ZW))
noncomputable def B_ZW(nf:Nat):XT:=[e_ZY nf]
noncomputable def G_ZW(nf:Nat):Nat->XT
 |0=>[]
 |kf+1=>[eF 40 [.v (kR 0),.v (kL kS)] [.o (kL (kL kS))] (fun t=>(fun(t:Ty) (path:List Str)=>runF (G_ZW nf kf++B_ZW nf) nf [.v (kR 0),.v (kL kS)] [.t 4 (.o (kL (kL kS)))] ir_ZW (t,path,())) t.1 t.2.1)]
noncomputable abbrev T_ZW(nf kf:Nat):XT:=G_ZW nf kf++B_ZW nf
noncomputable def m_ZW(nf kf:Nat)(t:Ty)(path:List Str):Option (List (List Str)):=runF (T_ZW nf kf) nf [.v (kR 0),.v (kL kS)] [.t 4 (.o (kL (kL kS)))] ir_ZW (t,path,())
noncomputable def X_ZW{R:Type}(nf kf:Nat):C->Env->(Xt->Env->Option R)->Option R:=xc (R:=R) (T_ZW nf kf).S nf
noncomputable def l22_ZW(nf kf:Nat)(m22:Nat)(path:List Str)(t:Ty)(x6_22:Int)(y5_22:List (List Str)):Option (List (List Str)):=xit [1,2,5,6] [[2],[5]] (X_ZW nf kf c23_ZW) (qB 1 (qB 0 (qS (X_ZW nf kf c34_ZW) (KF [.t 4 (.o (kL (kL kS)))])))) m22 ⟨[(1,.v (kL kS) path),(2,.pt [2] 0),(5,.sl [5]),(6,.v kI x6_22)],[([2],.box [.v kI t.kind,.v (kL kS) t.labels,.v (kL (kR 0)) t.args]),([5],.row true false (kL kS) y5_22)]⟩
theorem l22_ZW_eq(nf kf:Nat)(m22:Nat)(path:List Str)(t:Ty)(x6_22:Int)(y5_22:List (List Str)):l22_ZW nf (kf+1) (m22+1) path t x6_22 y5_22=(br (decide (x6_22<(List.length t.args:Int))) (gg (0<=x6_22∧x6_22<(List.length t.args:Int))<|gg (0<=x6_22∧x6_22<(List.length t.labels:Int))<|cb (m_ZY nf path (gt t.labels x6_22 ([]:Str))) fun r48=>cb (m_ZW nf kf (gt t.args x6_22 Ty.zero) r48) fun r49=>gg (List.length y5_22+List.length r49<=33554432)<|mark (l22_ZW nf (kf+1) m22 path t (w64 (x6_22+(1:Int))) (y5_22++r49))) (some y5_22)):=by kernel_rfl
theorem m_ZW_eq(nf kf:Nat)(t:Ty)(path:List Str):m_ZW nf (kf+1) t path=(br (t.kind==(4:Int)) (gg (List.length path<=33554432)<|gg (List.length ([]:List (List Str))+List.length ([path]:List (List Str))<=33554432)<|gg (0<=(0:Int)∧(0:Int)<(List.length t.args:Int))<|cb (m_ZY nf path ([33]:Str)) fun r24=>cb (m_ZW nf kf (gt t.args (0:Int) Ty.zero) r24) fun r25=>gg (List.length (([]:List (List Str))++([path]:List (List Str)))+List.length r25<=33554432)<|some ((([]:List (List Str))++([path]:List (List Str)))++r25)) (br (t.kind==(3:Int)) (mark (l22_ZW nf (kf+1) nf path t (0:Int) ([]:List (List Str)))) (some ([]:List (List Str))))):=by kernel_rfl
noncomputable def e_ZW(nf:Nat):XE:=eF 40 [.v (kR 0),.v (kL kS)] [.o (kL (kL kS))] (fun t=>m_ZW nf nf t.1 t.2.1)
theorem gok_ZW(nf:Nat):∀kf:Nat,XT.ok Try.prog (G_ZW nf kf++B_ZW nf)
 |0=>by exact⟨o_ZY nf,trivial⟩
 |kf+1=>by
  have ih:=gok_ZW nf kf
  refine⟨?_,(by exact⟨o_ZY nf,trivial⟩)⟩
  ·refine eF_ok fun t x h=> ?_
   obtain⟨t,path,_⟩:=t
   exact runF_ok (N:=52) ih Try.func40 (by kernel_rfl) rfl h
theorem o_ZW(nf:Nat):conOK Try.prog 40 (e_ZW nf).con:=by
 have ih:=gok_ZW nf nf
 refine eF_ok fun t x h=> ?_
 obtain⟨t,path,_⟩:=t
 exact runF_ok (N:=52) ih Try.func40 (by kernel_rfl) rfl h
def ir_ZH:C:=.sq (.rg [.bx 1 T0 (kR 0),.mv 2 (.nl (kL kS))]) (.sq (.sq (.rg [.ld 3 T1 (kR 0),.cv (some 4) 13 [(T3,.v (kR 0))],.un 5 .not T4]) (.cd T5 (.sq (.rg [.bs 6 true (kL kS) [],.mv 2 T6]) .rt) .skip)) (.sq (.rg [.ld 7 T1 (kR 0),.bs 8 true kS [],.ca (some 9) 40 [(T7,.v (kR 0)),(T8,.v (kL kS))],.mv 2 T9]) .rt))
noncomputable abbrev T_ZH(nf:Nat):XT:=[e_ZP nf,e_ZW nf]
noncomputable def m_ZH(nf:Nat)(t:Ty):Option (List (List Str)):=runF (T_ZH nf) nf [.v (kR 0)] [.t 2 (.o (kL (kL kS)))] ir_ZH (t,())
theorem m_ZH_eq(nf:Nat)(t:Ty):m_ZH nf t=(cb (m_ZP nf (Ty.h t)) fun r4=>br (!r4) (some ([]:List (List Str))) (cb (m_ZW nf nf (Ty.h t) ([]:List Str)) fun r9=>some r9)):=by kernel_rfl
noncomputable def e_ZH(nf:Nat):XE:=eF 11 [.v (kR 0)] [.o (kL (kL kS))] (fun t=>m_ZH nf t.1)
theorem o_ZH(nf:Nat):conOK Try.prog 11 (e_ZH nf).con:=by
 have ih:XT.ok Try.prog (T_ZH nf):=by exact⟨o_ZP nf,o_ZW nf,trivial⟩
 refine eF_ok fun t x h=> ?_
 obtain⟨t,_⟩:=t
 exact runF_ok (N:=10) ih Try.func11 (by kernel_rfl) rfl h
def c27_ZX:C:=.sq (.rg [.mv 39 T5,.mv 4 T39]) .rt
def c17_ZX:C:=.sq (.sq (.rg [.mv 17 T6,.fa 18 T2 0 2 2,.ld 19 T18 (kL (kR 0)),.ln 20 false T19,.bi 21 .lss T17 T20]) (.cd T21 .skip (.ex 0))) (.sq (.bk 1 (.gt 5 true (kL kS) (.dr [37] [.mv 24 T5,.fa 25 T2 0 2 2,.ld 26 T25 (kL (kR 0)),.mv 27 T6,.ia 28 T26 T27 (kR 0),.ld 29 T28 (kR 0),.mv 30 T1,.fa 31 T2 0 1 1,.ld 32 T31 (kL kS),.mv 33 T6,.ia 34 T32 T33 kS,.ld 35 T34 kS,.cv (some 36) 81 [(T30,.v (kL kS)),(T35,.v kS)],.ca (some 37) 41 [(T29,.v (kR 0)),(T36,.v (kL kS))]] [.ap 38 [5] true (kL kS) T24 T37,.mv 5 T38]))) (.rg [.mv 22 T6,.bi 23 .add T22 (.i 1),.mv 6 T23]))
def ir_ZX:C:=.sq (.rg [.bx 2 T0 (kR 0),.mv 4 (.nl (kL kS))]) (.sq (.rg [.bs 7 true (kL kS) [],.mv 5 T7]) (.sq (.sq (.rg [.fa 8 T2 0 0 0,.ld 9 T8 kI,.bi 10 .neq T9 (.i 3)]) (.cd T10 (.sq (.gt 5 true (kL kS) (.rg [.mv 11 T5,.bs 12 true kS [],.mv 13 T1,.an 14 true kS T12 T13,.bl 15 (kL kS) [T14],.apl 16 [4] (kL kS) T11 15,.mv 4 T16])) .rt) .skip)) (.sq (.sq (.rg [.mv 6 (.i 0)]) (.bk 0 (.gt 5 true (kL kS) (.lk [1,2,5,6] [[2],[5]] c17_ZX)))) c27_ZX)))
noncomputable def B_ZX(nf:Nat):XT:=[e_ZY nf]
noncomputable def G_ZX(nf:Nat):Nat->XT
 |0=>[]
 |kf+1=>[eF 41 [.v (kR 0),.v (kL kS)] [.o (kL (kL kS))] (fun t=>(fun(t:Ty) (path:List Str)=>runF (G_ZX nf kf++B_ZX nf) nf [.v (kR 0),.v (kL kS)] [.t 4 (.o (kL (kL kS)))] ir_ZX (t,path,())) t.1 t.2.1)]
noncomputable abbrev T_ZX(nf kf:Nat):XT:=G_ZX nf kf++B_ZX nf
noncomputable def m_ZX(nf kf:Nat)(t:Ty)(path:List Str):Option (List (List Str)):=runF (T_ZX nf kf) nf [.v (kR 0),.v (kL kS)] [.t 4 (.o (kL (kL kS)))] ir_ZX (t,path,())
noncomputable def X_ZX{R:Type}(nf kf:Nat):C->Env->(Xt->Env->Option R)->Option R:=xc (R:=R) (T_ZX nf kf).S nf
noncomputable def l16_ZX(nf kf:Nat)(m16:Nat)(path:List Str)(t:Ty)(x6_16:Int)(y5_16:List (List Str)):Option (List (List Str)):=xit [1,2,5,6] [[2],[5]] (X_ZX nf kf c17_ZX) (qB 0 (qS (X_ZX nf kf c27_ZX) (KF [.t 4 (.o (kL (kL kS)))]))) m16 ⟨[(1,.v (kL kS) path),(2,.pt [2] 0),(5,.sl [5]),(6,.v kI x6_16)],[([2],.box [.v kI t.kind,.v (kL kS) t.labels,.v (kL (kR 0)) t.args]),([5],.row true false (kL kS) y5_16)]⟩
theorem l16_ZX_eq(nf kf:Nat)(m16:Nat)(path:List Str)(t:Ty)(x6_16:Int)(y5_16:List (List Str)):l16_ZX nf (kf+1) (m16+1) path t x6_16 y5_16=(br (decide (x6_16<(List.length t.args:Int))) (gg (0<=x6_16∧x6_16<(List.length t.args:Int))<|gg (0<=x6_16∧x6_16<(List.length t.labels:Int))<|cb (m_ZY nf path (gt t.labels x6_16 ([]:Str))) fun r36=>cb (m_ZX nf kf (gt t.args x6_16 Ty.zero) r36) fun r37=>gg (List.length y5_16+List.length r37<=33554432)<|mark (l16_ZX nf (kf+1) m16 path t (w64 (x6_16+(1:Int))) (y5_16++r37))) (some y5_16)):=by kernel_rfl
theorem m_ZX_eq(nf kf:Nat)(t:Ty)(path:List Str):m_ZX nf (kf+1) t path=(br (!(t.kind==(3:Int))) (gg (List.length path<=33554432)<|gg (List.length ([]:List (List Str))+List.length ([path]:List (List Str))<=33554432)<|some (([]:List (List Str))++([path]:List (List Str)))) (mark (l16_ZX nf (kf+1) nf path t (0:Int) ([]:List (List Str))))):=by kernel_rfl
noncomputable def e_ZX(nf:Nat):XE:=eF 41 [.v (kR 0),.v (kL kS)] [.o (kL (kL kS))] (fun t=>m_ZX nf nf t.1 t.2.1)
theorem gok_ZX(nf:Nat):∀kf:Nat,XT.ok Try.prog (G_ZX nf kf++B_ZX nf)
 |0=>by exact⟨o_ZY nf,trivial⟩
 |kf+1=>by
  have ih:=gok_ZX nf kf
  refine⟨?_,(by exact⟨o_ZY nf,trivial⟩)⟩
  ·refine eF_ok fun t x h=> ?_
   obtain⟨t,path,_⟩:=t
   exact runF_ok (N:=40) ih Try.func41 (by kernel_rfl) rfl h
theorem o_ZX(nf:Nat):conOK Try.prog 41 (e_ZX nf).con:=by
 have ih:=gok_ZX nf nf
 refine eF_ok fun t x h=> ?_
 obtain⟨t,path,_⟩:=t
 exact runF_ok (N:=40) ih Try.func41 (by kernel_rfl) rfl h
def ir_ZT:C:=.sq (.rg [.bx 1 T0 (kR 0),.mv 2 (.nl (kL kS))]) (.sq (.sq (.rg [.ld 3 T1 (kR 0),.cv (some 4) 13 [(T3,.v (kR 0))],.un 5 .not T4]) (.cd T5 (.sq (.rg [.bs 6 true (kL kS) [],.mv 2 T6]) .rt) .skip)) (.sq (.rg [.ld 7 T1 (kR 0),.bs 8 true kS [],.ca (some 9) 41 [(T7,.v (kR 0)),(T8,.v (kL kS))],.mv 2 T9]) .rt))
noncomputable abbrev T_ZT(nf:Nat):XT:=[e_ZP nf,e_ZX nf]
noncomputable def m_ZT(nf:Nat)(t:Ty):Option (List (List Str)):=runF (T_ZT nf) nf [.v (kR 0)] [.t 2 (.o (kL (kL kS)))] ir_ZT (t,())
theorem m_ZT_eq(nf:Nat)(t:Ty):m_ZT nf t=(cb (m_ZP nf (Ty.h t)) fun r4=>br (!r4) (some ([]:List (List Str))) (cb (m_ZX nf nf (Ty.h t) ([]:List Str)) fun r9=>some r9)):=by kernel_rfl
noncomputable def e_ZT(nf:Nat):XE:=eF 12 [.v (kR 0)] [.o (kL (kL kS))] (fun t=>m_ZT nf t.1)
theorem o_ZT(nf:Nat):conOK Try.prog 12 (e_ZT nf).con:=by
 have ih:XT.ok Try.prog (T_ZT nf):=by exact⟨o_ZP nf,o_ZX nf,trivial⟩
 refine eF_ok fun t x h=> ?_
 obtain⟨t,_⟩:=t
 exact runF_ok (N:=10) ih Try.func12 (by kernel_rfl) rfl h
def ir_Zaa:C:=.sq (.rg [.mv 2 (.i 0)]) (.sq (.sq (.rg [.mv 3 T0]) (.cd T3 (.sq (.rg [.mv 2 (.i 1)]) .rt) .skip)) (.sq (.rg [.mv 2 (.i 0)]) .rt))
noncomputable abbrev T_Zaa(nf:Nat):XT:=[]
noncomputable def m_Zaa(nf:Nat)(b:Bool):Option (Int):=runF (T_Zaa nf) nf [.v .bool] [.t 2 (.v kI)] ir_Zaa (b,())
theorem m_Zaa_eq(nf:Nat)(b:Bool):m_Zaa nf b=(br b (some (1:Int)) (some (0:Int))):=by kernel_rfl
noncomputable def e_Zaa(nf:Nat):XE:=eF 43 [.v .bool] [.v kI] (fun t=>m_Zaa nf t.1)
theorem o_Zaa(nf:Nat):conOK Try.prog 43 (e_Zaa nf).con:=by
 have ih:XT.ok Try.prog (T_Zaa nf):=by exact trivial
 refine eF_ok fun t x h=> ?_
 obtain⟨b,_⟩:=t
 exact runF_ok (N:=4) ih Try.func43 (by kernel_rfl) rfl h
def c19_ZI:C:=.sq (.rg [.mv 24 T3,.mv 2 T24]) .rt
def c9_ZI:C:=.sq (.sq (.rg [.mv 9 T4,.fa 10 T1 0 2 2,.ld 11 T10 (kL (kR 0)),.ln 12 false T11,.bi 13 .lss T9 T12]) (.cd T13 .skip (.ex 0))) (.sq (.bk 1 (.rg [.mv 16 T3,.fa 17 T1 0 2 2,.ld 18 T17 (kL (kR 0)),.mv 19 T4,.ia 20 T18 T19 (kR 0),.ld 21 T20 (kR 0),.cv (some 22) 14 [(T21,.v (kR 0))],.bi 23 .add T16 T22,.mv 3 T23])) (.rg [.mv 14 T4,.bi 15 .add T14 (.i 1),.mv 4 T15]))
def ir_ZI:C:=.sq (.rg [.bx 1 T0 (kR 0),.mv 2 (.i 0)]) (.sq (.rg [.fa 5 T1 0 0 0,.ld 6 T5 kI,.bi 7 .eql T6 (.i 4),.cv (some 8) 43 [(T7,.v .bool)],.mv 3 T8]) (.sq (.sq (.rg [.mv 4 (.i 0)]) (.bk 0 (.lk [1,3,4] [[1]] c9_ZI))) c19_ZI))
noncomputable def B_ZI(nf:Nat):XT:=[e_Zaa nf]
noncomputable def G_ZI(nf:Nat):Nat->XT
 |0=>[]
 |kf+1=>[eF 14 [.v (kR 0)] [.v kI] (fun t=>(fun(t:Ty)=>runF (G_ZI nf kf++B_ZI nf) nf [.v (kR 0)] [.t 2 (.v kI)] ir_ZI (t,())) t.1)]
noncomputable abbrev T_ZI(nf kf:Nat):XT:=G_ZI nf kf++B_ZI nf
noncomputable def m_ZI(nf kf:Nat)(t:Ty):Option (Int):=runF (T_ZI nf kf) nf [.v (kR 0)] [.t 2 (.v kI)] ir_ZI (t,())
noncomputable def X_ZI{R:Type}(nf kf:Nat):C->Env->(Xt->Env->Option R)->Option R:=xc (R:=R) (T_ZI nf kf).S nf
noncomputable def l8_ZI(nf kf:Nat)(m8:Nat)(t:Ty)(x3_8:Int)(x4_8:Int):Option (Int):=xit [1,3,4] [[1]] (X_ZI nf kf c9_ZI) (qB 0 (qS (X_ZI nf kf c19_ZI) (KF [.t 2 (.v kI)]))) m8 ⟨[(1,.pt [1] 0),(3,.v kI x3_8),(4,.v kI x4_8)],[([1],.box [.v kI t.kind,.v (kL kS) t.labels,.v (kL (kR 0)) t.args])]⟩
theorem l8_ZI_eq(nf kf:Nat)(m8:Nat)(t:Ty)(x3_8:Int)(x4_8:Int):l8_ZI nf (kf+1) (m8+1) t x3_8 x4_8=(br (decide (x4_8<(List.length t.args:Int))) (gg (0<=x4_8∧x4_8<(List.length t.args:Int))<|cb (m_ZI nf kf (gt t.args x4_8 Ty.zero)) fun r22=>mark (l8_ZI nf (kf+1) m8 t (w64 (x3_8+r22)) (w64 (x4_8+(1:Int))))) (some x3_8)):=by kernel_rfl
theorem m_ZI_eq(nf kf:Nat)(t:Ty):m_ZI nf (kf+1) t=(cb (m_Zaa nf (t.kind==(4:Int))) fun r8=>mark (l8_ZI nf (kf+1) nf t r8 (0:Int))):=by kernel_rfl
noncomputable def e_ZI(nf:Nat):XE:=eF 14 [.v (kR 0)] [.v kI] (fun t=>m_ZI nf nf t.1)
theorem gok_ZI(nf:Nat):∀kf:Nat,XT.ok Try.prog (G_ZI nf kf++B_ZI nf)
 |0=>by exact⟨o_Zaa nf,trivial⟩
 |kf+1=>by
  have ih:=gok_ZI nf kf
  refine⟨?_,(by exact⟨o_Zaa nf,trivial⟩)⟩
  ·refine eF_ok fun t x h=> ?_
   obtain⟨t,_⟩:=t
   exact runF_ok (N:=25) ih Try.func14 (by kernel_rfl) rfl h
theorem o_ZI(nf:Nat):conOK Try.prog 14 (e_ZI nf).con:=by
 have ih:=gok_ZI nf nf
 refine eF_ok fun t x h=> ?_
 obtain⟨t,_⟩:=t
 exact runF_ok (N:=25) ih Try.func14 (by kernel_rfl) rfl h
def c38_ZV:C:=.sq (.rg [.ld 54 T2 (kR 0),.cv (some 55) 51 [(T54,.v (kR 0))],.st T4 T55 (kR 0),.mv 5 (.b true)]) .rt
def w38_ZV:C:=.kp [2,4] [[2],[4]] c38_ZV
def c37_ZV:C:=.rg [.mv 16 T6,.bi 17 .add T16 (.i 1),.mv 6 T17]
def c32_ZV:C:=.cd T41 (.rg [.fa 49 T2 0 2 2,.ld 50 T49 (kL (kR 0)),.mv 51 T7,.ia 52 T50 T51 (kR 0),.ld 53 T52 (kR 0),.st T2 T53 (kR 0)]) (.sq (.rg [.bd 25 0 [],.st T4 T25 (kR 0),.mv 5 (.b false)]) .rt)
def w32_ZV:C:=.kp [1,2,4,6,7,41] [[2],[4]] c32_ZV
def c28_ZV:C:=.cd T26 (.rg [.fa 37 T2 0 2 2,.ld 38 T37 (kL (kR 0)),.ia 39 T38 (.i 0) (kR 0),.ld 40 T39 (kR 0),.st T2 T40 (kR 0)]) (.sq (.rg [.fa 42 T2 0 0 0,.ld 43 T42 kI,.bi 44 .eql T43 (.i 3),.mv 45 T44,.g 45 true (.mv 46 T7),.g 45 true (.bi 47 .geq T46 (.i 0)),.pk 48 T45 T47 (.b false),.mv 41 T48]) w32_ZV)
def w28_ZV:C:=.kp [1,2,4,6,7,26] [[2],[4]] c28_ZV
def c15_ZV:C:=.sq (.sq (.rg [.mv 12 T6,.mv 13 T1,.ln 14 false T13,.bi 15 .lss T12 T14]) (.cd T15 .skip (.ex 0))) (.sq (.bk 1 (.sq (.dr [] [.fa 18 T2 0 1 1,.ld 19 T18 (kL kS),.mv 20 T1,.mv 21 T6,.ia 22 T20 T21 kS,.ld 23 T22 kS] [.cv (some 24) 50 [(T19,.v (kL kS)),(T23,.v kS)],.mv 7 T24]) (.bk 2 (.sq (.rg [.fa 27 T2 0 0 0,.ld 28 T27 kI,.bi 29 .eql T28 (.i 4),.mv 30 T29,.g 30 true (.mv 31 T1),.g 30 true (.mv 32 T6),.g 30 true (.ia 33 T31 T32 kS),.g 30 true (.ld 34 T33 kS),.g 30 true (.bi 35 .eql T34 (.s [33])),.pk 36 T30 T35 (.b false),.mv 26 T36]) w28_ZV)))) c37_ZV)
def ir_ZV:C:=.sq (.rg [.bx 2 T0 (kR 0),.al 4 (kR 0),.mv 5 (.b false)]) (.sq (.sq (.rg [.ld 8 T2 (kR 0),.cv (some 9) 28 [(T8,.v (kR 0))],.un 10 .not T9]) (.cd T10 (.sq (.rg [.bd 11 0 [],.st T4 T11 (kR 0),.mv 5 (.b false)]) .rt) .skip)) (.sq (.sq (.rg [.mv 6 (.i 0)]) (.bk 0 (.lk [1,2,4,6] [[2],[4]] c15_ZV))) w38_ZV))
noncomputable abbrev T_ZV(nf:Nat):XT:=[e_ZR nf,e_ZO nf,e_Zal nf]
noncomputable def m_ZV(nf:Nat)(t:Ty)(path:List Str):Option (Ty×Bool):=runF (T_ZV nf) nf [.v (kR 0),.v (kL kS)] [.c 4 (.v (kR 0)),.t 5 (.v .bool)] ir_ZV (t,path,())
noncomputable def X_ZV{R:Type}(nf:Nat):C->Env->(Xt->Env->Option R)->Option R:=xc (R:=R) (T_ZV nf).S nf
noncomputable def j32_ZV(nf:Nat)(m14:Nat)(path:List Str)(x6_14:Int)(r24:Int)(y2_14_0:Int)(y2_14_1:List Str)(y2_14_2:List Ty)(x41_32:Bool):Option (Ty×Bool):=X_ZV nf c32_ZV ⟨[(1,.v (kL kS) path),(2,.pt [2] 0),(4,.pt [4] 0),(6,.v kI x6_14),(7,.v kI r24),(41,.v .bool x41_32)],[([2],.box [.v kI y2_14_0,.v (kL kS) y2_14_1,.v (kL (kR 0)) y2_14_2]),([4],.box [.v kI (0:Int),.nl kS,.nl (kR 0)])]⟩ (qB 2 (qB 1 (qS (X_ZV nf c37_ZV) (qM [1,2,4,6] [[2],[4]] (X_ZV nf c15_ZV) m14 (qB 0 (qS (X_ZV nf w38_ZV) (KF [.c 4 (.v (kR 0)),.t 5 (.v .bool)])))))))
noncomputable def j28_ZV(nf:Nat)(m14:Nat)(path:List Str)(x6_14:Int)(r24:Int)(y2_14_0:Int)(y2_14_1:List Str)(y2_14_2:List Ty)(x26_28:Bool):Option (Ty×Bool):=X_ZV nf c28_ZV ⟨[(1,.v (kL kS) path),(2,.pt [2] 0),(4,.pt [4] 0),(6,.v kI x6_14),(7,.v kI r24),(26,.v .bool x26_28)],[([2],.box [.v kI y2_14_0,.v (kL kS) y2_14_1,.v (kL (kR 0)) y2_14_2]),([4],.box [.v kI (0:Int),.nl kS,.nl (kR 0)])]⟩ (qB 2 (qB 1 (qS (X_ZV nf c37_ZV) (qM [1,2,4,6] [[2],[4]] (X_ZV nf c15_ZV) m14 (qB 0 (qS (X_ZV nf w38_ZV) (KF [.c 4 (.v (kR 0)),.t 5 (.v .bool)])))))))
noncomputable def l14_ZV(nf:Nat)(m14:Nat)(path:List Str)(x6_14:Int)(y2_14_0:Int)(y2_14_1:List Str)(y2_14_2:List Ty):Option (Ty×Bool):=xit [1,2,4,6] [[2],[4]] (X_ZV nf c15_ZV) (qB 0 (qS (X_ZV nf w38_ZV) (KF [.c 4 (.v (kR 0)),.t 5 (.v .bool)]))) m14 ⟨[(1,.v (kL kS) path),(2,.pt [2] 0),(4,.pt [4] 0),(6,.v kI x6_14)],[([2],.box [.v kI y2_14_0,.v (kL kS) y2_14_1,.v (kL (kR 0)) y2_14_2]),([4],.box [.v kI (0:Int),.nl kS,.nl (kR 0)])]⟩
noncomputable def j38_ZV(nf:Nat)(y2_14_0:Int)(y2_14_1:List Str)(y2_14_2:List Ty):Option (Ty×Bool):=X_ZV nf c38_ZV ⟨[(2,.pt [2] 0),(4,.pt [4] 0)],[([2],.box [.v kI y2_14_0,.v (kL kS) y2_14_1,.v (kL (kR 0)) y2_14_2]),([4],.box [.v kI (0:Int),.nl kS,.nl (kR 0)])]⟩ (KF [.c 4 (.v (kR 0)),.t 5 (.v .bool)])
theorem j32_ZV_eq(nf:Nat)(m14:Nat)(path:List Str)(x6_14:Int)(r24:Int)(y2_14_0:Int)(y2_14_1:List Str)(y2_14_2:List Ty)(x41_32:Bool):j32_ZV nf m14 path x6_14 r24 y2_14_0 y2_14_1 y2_14_2 x41_32=(br x41_32 (gg (0<=r24∧r24<(List.length y2_14_2:Int))<|mark (l14_ZV nf m14 path (w64 (x6_14+(1:Int))) ((gt y2_14_2 r24 Ty.zero).kind) ((gt y2_14_2 r24 Ty.zero).labels) ((gt y2_14_2 r24 Ty.zero).args))) (some ((Ty.mk (0:Int) ([]:List Str) ([]:List Ty)),false))):=by
 unfold j32_ZV l14_ZV c32_ZV w38_ZV c37_ZV
 generalize c38_ZV=x0
 revert x0
 refine id ?_
 intro x0
 kernel_rfl
theorem j28_ZV_eq(nf:Nat)(m14:Nat)(path:List Str)(x6_14:Int)(r24:Int)(y2_14_0:Int)(y2_14_1:List Str)(y2_14_2:List Ty)(x26_28:Bool):j28_ZV nf m14 path x6_14 r24 y2_14_0 y2_14_1 y2_14_2 x26_28=(br x26_28 (gg (0<=(0:Int)∧(0:Int)<(List.length y2_14_2:Int))<|mark (l14_ZV nf m14 path (w64 (x6_14+(1:Int))) ((gt y2_14_2 (0:Int) Ty.zero).kind) ((gt y2_14_2 (0:Int) Ty.zero).labels) ((gt y2_14_2 (0:Int) Ty.zero).args))) (br ((y2_14_0==(3:Int))==true) (mark (j32_ZV nf m14 path x6_14 r24 y2_14_0 y2_14_1 y2_14_2 (decide ((0:Int)<=r24)))) (mark (j32_ZV nf m14 path x6_14 r24 y2_14_0 y2_14_1 y2_14_2 false)))):=by
 unfold j28_ZV l14_ZV j32_ZV c28_ZV w38_ZV c37_ZV w32_ZV
 generalize c38_ZV=x0
 generalize c32_ZV=x1
 revert x0 x1
 refine id ?_
 intro x0 x1
 kernel_rfl
theorem l14_ZV_eq(nf:Nat)(m14:Nat)(path:List Str)(x6_14:Int)(y2_14_0:Int)(y2_14_1:List Str)(y2_14_2:List Ty):l14_ZV nf (m14+1) path x6_14 y2_14_0 y2_14_1 y2_14_2=(br (decide (x6_14<(List.length path:Int))) (gg (0<=x6_14∧x6_14<(List.length path:Int))<|cb (m_ZO nf y2_14_1 (gt path x6_14 ([]:Str))) fun r24=>br ((y2_14_0==(4:Int))==true) (gg (0<=x6_14∧x6_14<(List.length path:Int))<|mark (j28_ZV nf m14 path x6_14 r24 y2_14_0 y2_14_1 y2_14_2 ((gt path x6_14 ([]:Str))==([33]:Str)))) (mark (j28_ZV nf m14 path x6_14 r24 y2_14_0 y2_14_1 y2_14_2 false))) (mark (j38_ZV nf y2_14_0 y2_14_1 y2_14_2))):=by
 unfold l14_ZV j28_ZV j38_ZV c15_ZV w38_ZV w28_ZV c37_ZV
 generalize c38_ZV=x0
 generalize c28_ZV=x1
 revert x0 x1
 refine id ?_
 intro x0 x1
 kernel_rfl
theorem j38_ZV_eq(nf:Nat)(y2_14_0:Int)(y2_14_1:List Str)(y2_14_2:List Ty):j38_ZV nf y2_14_0 y2_14_1 y2_14_2=(cb (m_Zal nf nf (Ty.mk y2_14_0 y2_14_1 y2_14_2)) fun r55=>some ((Ty.h r55),true)):=by kernel_rfl
theorem m_ZV_eq(nf:Nat)(t:Ty)(path:List Str):m_ZV nf t path=(cb (m_ZR nf (Ty.h t)) fun r9=>br (!r9) (some ((Ty.mk (0:Int) ([]:List Str) ([]:List Ty)),false)) (mark (l14_ZV nf nf path (0:Int) t.kind t.labels t.args))):=by
 unfold m_ZV l14_ZV ir_ZV w38_ZV
 generalize c38_ZV=x0
 revert x0
 refine id ?_
 intro x0
 kernel_rfl
noncomputable def e_ZV(nf:Nat):XE:=eF 17 [.v (kR 0),.v (kL kS)] [.v (kR 0),.v .bool] (fun t=>m_ZV nf t.1 t.2.1)
theorem o_ZV(nf:Nat):conOK Try.prog 17 (e_ZV nf).con:=by
 have ih:XT.ok Try.prog (T_ZV nf):=by exact⟨o_ZR nf,o_ZO nf,o_Zal nf,trivial⟩
 refine eF_ok fun t x h=> ?_
 obtain⟨t,path,_⟩:=t
 exact runF_ok (N:=56) ih Try.func17 (by kernel_rfl) rfl h
def c16_ZM:C:=.sq (.gz 6 (kL (kL kS)) (.dv [4] [4,5,6] 33 [.ld 28 T5 (kR 0),.mv 29 T6,.mv 30 T4,.mv 31 T6,.ln 32 false T31,.cq (some 33) 49 [(T30,.q),(T32,.v kI)],.ia 34 T29 T33 (kL kS),.ld 35 T34 (kL kS)] 2 T28 (kR 0) [6,29,33,34] [.mv 3 T35])) .rt
def c11_ZM:C:=.cd T22 (.sq (.dv [4] [4,5] 26 [.ld 23 T5 (kR 0),.mv 24 T4,.bf 25 kS [(.s [33]),(.s [97]),(.s [113])],.cq (some 26) 48 [(T24,.q),(T25,.v (kL kS))],.bf 27 kS [T26]] 2 T23 (kR 0) [26] [.mv 3 T27]) .rt) .skip
def w11_ZM:C:=.kp [2,4,5,6,22] [[2],[5],[6],[8]] c11_ZM
def ir_ZM:C:=.sq (.rg [.al 2 (kR 0),.mv 3 (.nl kS)]) (.sq (.rg [.mv 7 T0,.ca (some 8) 35 [(T7,.v (kL (.int .u8)))],.mv 4 T8]) (.sq (.rg [.mv 9 T4,.cq (some 10) 34 [(T9,.q)],.al 5 (kR 0),.st T5 T10 (kR 0)]) (.sq (.dr [12] [.ld 11 T5 (kR 0),.ca (some 12) 11 [(T11,.v (kR 0))],.ld 13 T5 (kR 0)] [.ca (some 14) 12 [(T13,.v (kR 0))],.ap 15 [6] true (kL kS) T12 T14,.mv 6 T15]) (.sq (.sq (.rg [.mv 16 T6,.ln 17 false T16,.bi 18 .eql T17 (.i 0),.mv 19 T18,.g 19 false (.mv 20 T4),.g 19 false (.cq (some 21) 47 [(T20,.q),((.i 4),.v kI)]),.pk 22 T19 (.b true) T21]) w11_ZM) c16_ZM))))
noncomputable abbrev T_ZM(nf:Nat):XT:=[e_Zae nf,e_Zak nf,e_ZH nf,e_ZT nf,e_Zaf nf,e_Zag nf,e_ZZ nf]
noncomputable def m_ZM(nf:Nat)(code:List Int):Option (Ty×(List Str)):=runF (T_ZM nf) nf [.v (kL (.int .u8))] [.c 2 (.v (kR 0)),.t 3 (.v (kL kS))] ir_ZM (code,())
noncomputable def X_ZM{R:Type}(nf:Nat):C->Env->(Xt->Env->Option R)->Option R:=xc (R:=R) (T_ZM nf).S nf
noncomputable def j11_ZM(nf:Nat)(r10:(Ty)×((List Int)×Int×Int×Unit))(r12:(List (List Str)))(r14:(List (List Str)))(x22_11:Bool)(y8_11_0:List Int)(y8_11_1:Int)(y8_11_2:Int):Option (Ty×(List Str)):=X_ZM nf c11_ZM ⟨[(2,.pt [2] 0),(4,.pt [8] 0),(5,.pt [5] 0),(6,.sl [6]),(22,.v .bool x22_11)],[([2],.box [.v kI (0:Int),.nl kS,.nl (kR 0)]),([5],.box [.v kI r10.1.kind,.v (kL kS) r10.1.labels,.v (kL (kR 0)) r10.1.args]),([6],.row true false (kL kS) (r12++r14)),([8],.box [.v (kL (.int .u8)) y8_11_0,.v kI y8_11_1,.v kI y8_11_2])]⟩ (qS (X_ZM nf c16_ZM) (KF [.c 2 (.v (kR 0)),.t 3 (.v (kL kS))]))
theorem j11_ZM_eq(nf:Nat)(r10:(Ty)×((List Int)×Int×Int×Unit))(r12:(List (List Str)))(r14:(List (List Str)))(x22_11:Bool)(y8_11_0:List Int)(y8_11_1:Int)(y8_11_2:Int):j11_ZM nf r10 r12 r14 x22_11 y8_11_0 y8_11_1 y8_11_2=(br x22_11 (cb (m_Zag nf ([([33]:Str),([97]:Str),([113]:Str)]:List Str) y8_11_0 y8_11_1 y8_11_2) fun r26=>some ((Ty.h r10.1),([r26.1]:List Str))) (cb (m_ZZ nf (List.length (r12++r14):Int) y8_11_0 y8_11_1 y8_11_2) fun r33=>gg (0<=r33.1∧r33.1<(List.length (r12++r14):Int))<|some ((Ty.h r10.1),(gt (r12++r14) r33.1 ([]:List Str))))):=by kernel_rfl
theorem m_ZM_eq(nf:Nat)(code:List Int):m_ZM nf code=(cb (m_Zae nf code) fun r8=>cb (m_Zak nf r8.b r8.i r8.h) fun r10=>cb (m_ZH nf (Ty.h r10.1)) fun r12=>cb (m_ZT nf (Ty.h r10.1)) fun r14=>gg (List.length r12+List.length r14<=33554432)<|br (((List.length (r12++r14):Int)==(0:Int))==false) (cb (m_Zaf nf (4:Int) r10.2.1 r10.2.2.1 r10.2.2.2.1) fun r21=>mark (j11_ZM nf r10 r12 r14 r21.1 r21.2.1 r21.2.2.1 r21.2.2.2.1)) (mark (j11_ZM nf r10 r12 r14 true r10.2.1 r10.2.2.1 r10.2.2.2.1))):=by
 unfold m_ZM j11_ZM ir_ZM w11_ZM c16_ZM
 generalize c11_ZM=x0
 revert x0
 refine id ?_
 intro x0
 kernel_rfl
noncomputable def e_ZM(nf:Nat):XE:=eF 16 [.v (kL (.int .u8))] [.v (kR 0),.v (kL kS)] (fun t=>m_ZM nf t.1)
theorem o_ZM(nf:Nat):conOK Try.prog 16 (e_ZM nf).con:=by
 have ih:XT.ok Try.prog (T_ZM nf):=by exact⟨o_Zae nf,o_Zak nf,o_ZH nf,o_ZT nf,o_Zaf nf,o_Zag nf,o_ZZ nf,trivial⟩
 refine eF_ok fun t x h=> ?_
 obtain⟨code,_⟩:=t
 exact runF_ok (N:=36) ih Try.func16 (by kernel_rfl) rfl h
def ir_ZL:C:=.sq (.rg [.mv 2 (.nl kS),.mv 3 (.nl kS)]) (.sq (.rg [.mv 8 T0,.ca (some 9) 16 [(T8,.v (kL (.int .u8)))],.mv 7 T9,.xt 10 T7 0,.xt 11 T7 1,.al 4 (kR 0),.st T4 T10 (kR 0),.mv 5 T11]) (.sq (.rg [.mv 12 T0,.ca (some 13) 35 [(T12,.v (kL (.int .u8)))],.mv 6 T13]) (.sq (.sq (.rg [.mv 14 T6,.cq (some 15) 47 [(T14,.q),((.i 2),.v kI)]]) (.cd T15 (.sq (.rg [.mv 16 T5,.bs 17 true kS [],.mv 18 T5,.an 19 true kS T17 T18,.mv 2 T16,.mv 3 T19]) .rt) .skip)) (.sq (.rg [.mv 20 T5,.mv 21 T6,.cq (some 22) 52 [(T21,.q)],.mv 2 T20,.mv 3 T22]) .rt))))
noncomputable abbrev T_ZL(nf:Nat):XT:=[e_ZM nf,e_Zae nf,e_Zaf nf,e_Zai nf]
noncomputable def m_ZL(nf:Nat)(code:List Int):Option ((List Str)×(List Str)):=runF (T_ZL nf) nf [.v (kL (.int .u8))] [.t 2 (.v (kL kS)),.t 3 (.o (kL kS))] ir_ZL (code,())
theorem m_ZL_eq(nf:Nat)(code:List Int):m_ZL nf code=(cb (m_ZM nf code) fun r9=>cb (m_Zae nf code) fun r13=>cb (m_Zaf nf (2:Int) r13.b r13.i r13.h) fun r15=>br r15.1 (gg (List.length r9.2<=33554432)<|some (r9.2,r9.2)) (cb (m_Zai nf r15.2.1 r15.2.2.1 r15.2.2.2.1) fun r22=>some (r9.2,r22.1))):=by kernel_rfl
noncomputable def e_ZL(nf:Nat):XE:=eF 18 [.v (kL (.int .u8))] [.v (kL kS),.o (kL kS)] (fun t=>m_ZL nf t.1)
theorem o_ZL(nf:Nat):conOK Try.prog 18 (e_ZL nf).con:=by
 have ih:XT.ok Try.prog (T_ZL nf):=by exact⟨o_ZM nf,o_Zae nf,o_Zaf nf,o_Zai nf,trivial⟩
 refine eF_ok fun t x h=> ?_
 obtain⟨code,_⟩:=t
 exact runF_ok (N:=23) ih Try.func18 (by kernel_rfl) rfl h
def c31_Zau:C:=.sq (.rg [.mv 4 (.b true)]) .rt
def c15_Zau:C:=.sq (.sq (.rg [.mv 11 T5,.mv 12 T0,.ln 13 false T12,.bi 14 .lss T11 T13]) (.cd T14 .skip (.ex 0))) (.sq (.bk 1 (.sq (.dr [] [.mv 17 T0,.mv 18 T5,.ia 19 T17 T18 kS,.ld 20 T19 kS,.mv 21 T1,.mv 22 T5,.ia 23 T21 T22 kS,.ld 24 T23 kS] [.bi 25 .neq T20 T24]) (.cd T25 (.sq (.rg [.mv 4 (.b false)]) .rt) .skip))) (.rg [.mv 15 T5,.bi 16 .add T15 (.i 1),.mv 5 T16]))
def ir_Zau:C:=.sq (.rg [.mv 4 (.b false)]) (.sq (.sq (.rg [.mv 6 T0,.ln 7 false T6,.mv 8 T1,.ln 9 false T8,.bi 10 .neq T7 T9]) (.cd T10 (.sq (.rg [.mv 4 (.b false)]) .rt) .skip)) (.sq (.sq (.rg [.mv 5 (.i 0)]) (.bk 0 (.lk [0,1,5] [] c15_Zau))) c31_Zau))
noncomputable abbrev T_Zau(nf:Nat):XT:=[]
noncomputable def m_Zau(nf:Nat)(a:List Str)(b:List Str):Option (Bool):=runF (T_Zau nf) nf [.v (kL kS),.v (kL kS)] [.t 4 (.v .bool)] ir_Zau (a,b,())
noncomputable def X_Zau{R:Type}(nf:Nat):C->Env->(Xt->Env->Option R)->Option R:=xc (R:=R) (T_Zau nf).S nf
noncomputable def l14_Zau(nf:Nat)(m14:Nat)(a:List Str)(b:List Str)(x5_14:Int):Option (Bool):=xit [0,1,5] [] (X_Zau nf c15_Zau) (qB 0 (qS (X_Zau nf c31_Zau) (KF [.t 4 (.v .bool)]))) m14 ⟨[(0,.v (kL kS) a),(1,.v (kL kS) b),(5,.v kI x5_14)],[]⟩
theorem l14_Zau_eq(nf:Nat)(m14:Nat)(a:List Str)(b:List Str)(x5_14:Int):l14_Zau nf (m14+1) a b x5_14=(br (decide (x5_14<(List.length a:Int))) (gg (0<=x5_14∧x5_14<(List.length a:Int))<|gg (0<=x5_14∧x5_14<(List.length b:Int))<|br (!((gt a x5_14 ([]:Str))==(gt b x5_14 ([]:Str)))) (some false) (mark (l14_Zau nf m14 a b (w64 (x5_14+(1:Int)))))) (some true)):=by kernel_rfl
theorem m_Zau_eq(nf:Nat)(a:List Str)(b:List Str):m_Zau nf a b=(br (!((List.length a:Int)==(List.length b:Int))) (some false) (mark (l14_Zau nf nf a b (0:Int)))):=by kernel_rfl
noncomputable def e_Zau(nf:Nat):XE:=eF 57 [.v (kL kS),.v (kL kS)] [.v .bool] (fun t=>m_Zau nf t.1 t.2.1)
theorem o_Zau(nf:Nat):conOK Try.prog 57 (e_Zau nf).con:=by
 have ih:XT.ok Try.prog (T_Zau nf):=by exact trivial
 refine eF_ok fun t x h=> ?_
 obtain⟨a,b,_⟩:=t
 exact runF_ok (N:=26) ih Try.func57 (by kernel_rfl) rfl h
def ir_ZN:C:=.sq (.rg [.mv 4 (.b false)]) (.sq (.rg [.mv 5 T0,.mv 6 T1,.cv (some 7) 57 [(T5,.v (kL kS)),(T6,.v (kL kS))],.mv 4 T7]) .rt)
noncomputable abbrev T_ZN(nf:Nat):XT:=[e_Zau nf]
noncomputable def m_ZN(nf:Nat)(a:List Str)(b:List Str):Option (Bool):=runF (T_ZN nf) nf [.v (kL kS),.v (kL kS)] [.t 4 (.v .bool)] ir_ZN (a,b,())
theorem m_ZN_eq(nf:Nat)(a:List Str)(b:List Str):m_ZN nf a b=(cb (m_Zau nf a b) fun r7=>some r7):=by kernel_rfl
noncomputable def e_ZN(nf:Nat):XE:=eF 23 [.v (kL kS),.v (kL kS)] [.v .bool] (fun t=>m_ZN nf t.1 t.2.1)
theorem o_ZN(nf:Nat):conOK Try.prog 23 (e_ZN nf).con:=by
 have ih:XT.ok Try.prog (T_ZN nf):=by exact⟨o_Zau nf,trivial⟩
 refine eF_ok fun t x h=> ?_
 obtain⟨a,b,_⟩:=t
 exact runF_ok (N:=8) ih Try.func23 (by kernel_rfl) rfl h
def c25_ZS:C:=.sq (.rg [.mv 25 T5,.cs 26 T25,.mv 4 T26]) .rt
def c24_ZS:C:=.rg [.mv 12 T6,.bi 13 .add T12 (.i 1),.mv 6 T13]
def c23_ZS:C:=.rg [.mv 19 T5,.mv 20 T0,.mv 21 T6,.ia 22 T20 T21 kS,.ld 23 T22 kS,.sa 24 [5] T19 T23,.mv 5 T24]
def w23_ZS:C:=.gt 5 true (.int .u8) (.kp [0,1,5,6] [[5]] c23_ZS)
def c9_ZS:C:=.sq (.sq (.rg [.mv 8 T6,.mv 9 T0,.ln 10 false T9,.bi 11 .lss T8 T10]) (.cd T11 .skip (.ex 0))) (.sq (.bk 1 (.sq (.sq (.rg [.mv 14 T6,.bi 15 .gtr T14 (.i 0)]) (.cd T15 (.gt 5 true (.int .u8) (.rg [.mv 16 T5,.mv 17 T1,.sa 18 [5] T16 T17,.mv 5 T18])) .skip)) w23_ZS)) c24_ZS)
def ir_ZS:C:=.sq (.rg [.mv 4 (.s [])]) (.sq (.rg [.bs 7 true (.int .u8) [],.mv 5 T7]) (.sq (.sq (.rg [.mv 6 (.i 0)]) (.bk 0 (.gt 5 true (.int .u8) (.lk [0,1,5,6] [[5]] c9_ZS)))) c25_ZS))
noncomputable abbrev T_ZS(nf:Nat):XT:=[]
noncomputable def m_ZS(nf:Nat)(list:List Str)(sep:Str):Option (Str):=runF (T_ZS nf) nf [.v (kL kS),.v kS] [.t 4 (.v kS)] ir_ZS (list,sep,())
noncomputable def X_ZS{R:Type}(nf:Nat):C->Env->(Xt->Env->Option R)->Option R:=xc (R:=R) (T_ZS nf).S nf
noncomputable def j23_ZS(nf:Nat)(m8:Nat)(list:List Str)(sep:Str)(x6_8:Int)(y5_23:List Int):Option (Str):=X_ZS nf c23_ZS ⟨[(0,.v (kL kS) list),(1,.v kS sep),(5,.sl [5]),(6,.v kI x6_8)],[([5],.row true false (.int .u8) y5_23)]⟩ (qB 1 (qS (X_ZS nf c24_ZS) (qM [0,1,5,6] [[5]] (X_ZS nf c9_ZS) m8 (qB 0 (qS (X_ZS nf c25_ZS) (KF [.t 4 (.v kS)]))))))
noncomputable def l8_ZS(nf:Nat)(m8:Nat)(list:List Str)(sep:Str)(x6_8:Int)(y5_8:List Int):Option (Str):=xit [0,1,5,6] [[5]] (X_ZS nf c9_ZS) (qB 0 (qS (X_ZS nf c25_ZS) (KF [.t 4 (.v kS)]))) m8 ⟨[(0,.v (kL kS) list),(1,.v kS sep),(5,.sl [5]),(6,.v kI x6_8)],[([5],.row true false (.int .u8) y5_8)]⟩
theorem j23_ZS_eq(nf:Nat)(m8:Nat)(list:List Str)(sep:Str)(x6_8:Int)(y5_23:List Int):j23_ZS nf m8 list sep x6_8 y5_23=(gg (0<=x6_8∧x6_8<(List.length list:Int))<|gg (List.length y5_23+List.length (gt list x6_8 ([]:Str))<=33554432)<|mark (l8_ZS nf m8 list sep (w64 (x6_8+(1:Int))) (y5_23++intsOf (gt list x6_8 ([]:Str))))):=by kernel_rfl
theorem l8_ZS_eq(nf:Nat)(m8:Nat)(list:List Str)(sep:Str)(x6_8:Int)(y5_8:List Int):l8_ZS nf (m8+1) list sep x6_8 y5_8=(br (decide (x6_8<(List.length list:Int))) (br (decide ((0:Int)<x6_8)) (gg (List.length y5_8+List.length sep<=33554432)<|mark (j23_ZS nf m8 list sep x6_8 (y5_8++intsOf sep))) (mark (j23_ZS nf m8 list sep x6_8 y5_8))) (some (bytesOf y5_8))):=by
 unfold l8_ZS j23_ZS c9_ZS c25_ZS w23_ZS c24_ZS
 generalize c23_ZS=x0
 revert x0
 refine id ?_
 intro x0
 kernel_rfl
theorem m_ZS_eq(nf:Nat)(list:List Str)(sep:Str):m_ZS nf list sep=(mark (l8_ZS nf nf list sep (0:Int) ([]:List Int))):=by kernel_rfl
noncomputable def e_ZS(nf:Nat):XE:=eF 56 [.v (kL kS),.v kS] [.v kS] (fun t=>m_ZS nf t.1 t.2.1)
theorem o_ZS(nf:Nat):conOK Try.prog 56 (e_ZS nf).con:=by
 have ih:XT.ok Try.prog (T_ZS nf):=by exact trivial
 refine eF_ok fun t x h=> ?_
 obtain⟨list,sep,_⟩:=t
 exact runF_ok (N:=27) ih Try.func56 (by kernel_rfl) rfl h
def ir_ZU:C:=.sq (.rg [.mv 2 (.s [])]) (.sq (.sq (.rg [.mv 3 T0,.ln 4 false T3,.bi 5 .eql T4 (.i 0)]) (.cd T5 (.sq (.rg [.mv 2 (.s [45])]) .rt) .skip)) (.sq (.rg [.mv 6 T0,.cv (some 7) 56 [(T6,.v (kL kS)),((.s [46]),.v kS)],.mv 2 T7]) .rt))
noncomputable abbrev T_ZU(nf:Nat):XT:=[e_ZS nf]
noncomputable def m_ZU(nf:Nat)(path:List Str):Option (Str):=runF (T_ZU nf) nf [.v (kL kS)] [.t 2 (.v kS)] ir_ZU (path,())
theorem m_ZU_eq(nf:Nat)(path:List Str):m_ZU nf path=(br ((List.length path:Int)==(0:Int)) (some ([45]:Str)) (cb (m_ZS nf path ([46]:Str)) fun r7=>some r7)):=by kernel_rfl
noncomputable def e_ZU(nf:Nat):XE:=eF 21 [.v (kL kS)] [.v kS] (fun t=>m_ZU nf t.1)
theorem o_ZU(nf:Nat):conOK Try.prog 21 (e_ZU nf).con:=by
 have ih:XT.ok Try.prog (T_ZU nf):=by exact⟨o_ZS nf,trivial⟩
 refine eF_ok fun t x h=> ?_
 obtain⟨path,_⟩:=t
 exact runF_ok (N:=8) ih Try.func21 (by kernel_rfl) rfl h
end Go.Q
