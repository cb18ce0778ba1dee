/- Types and their paths: the reference's side. -/
import Derived.Test.YteidofmblfglkaaC1
import Derived.Test.YteidofmblfglkaaProg
import Derived.KernelRfl
set_option linter.unusedVariables false
set_option linter.unusedSimpArgs false
namespace Go.Q
open Go.Proofs
set_option maxRecDepth 20000
set_option maxHeartbeats 4000000
def ir_ZS:C:=.sq (.rg [.mv 6 (.b false)]) (.sq (.rg [.mv 7 T0,.mv 8 T1,.bi 9 .geq T7 T8,.mv 10 T9,.g 10 true (.mv 11 T0),.g 10 true (.mv 12 T2),.g 10 true (.bi 13 .leq T11 T12),.pk 14 T10 T13 (.b false),.mv 6 T14]) .rt)
noncomputable abbrev T_ZS(nf:Nat):XT:=[]
noncomputable def m_ZS(nf:Nat)(x:Int)(lo:Int)(hi:Int):Option (Bool):=runF (T_ZS nf) nf [.v kI,.v kI,.v kI] [.t 6 (.v .bool)] ir_ZS (x,lo,hi,())
theorem m_ZS_eq(nf:Nat)(x:Int)(lo:Int)(hi:Int):m_ZS nf x lo hi=(br ((decide (lo<=x))==true) (some (decide (x<=hi))) (some false)):=by kernel_rfl
noncomputable def e_ZS(nf:Nat):XE:=eF 113 [.v kI,.v kI,.v kI] [.v .bool] (fun t=>m_ZS nf t.1 t.2.1 t.2.2.1)
theorem o_ZS(nf:Nat):conOK Try.prog 113 (e_ZS nf).con:=by
 have ih:XT.ok Try.prog (T_ZS nf):=by exact trivial
 refine eF_ok fun t x h=> ?_
 obtain⟨x,lo,hi,_⟩:=t
 exact runF_ok (N:=15) ih Try.func113 (by kernel_rfl) rfl h
def ir_ZT:C:=.sq (.rg [.mv 4 (.i 0)]) (.sq (.sq (.rg [.mv 5 T0,.mv 6 T1,.bi 7 .gtr T5 T6]) (.cd T7 (.sq (.rg [.mv 8 T0,.mv 4 T8]) .rt) .skip)) (.sq (.rg [.mv 9 T1,.mv 4 T9]) .rt))
noncomputable abbrev T_ZT(nf:Nat):XT:=[]
noncomputable def m_ZT(nf:Nat)(a:Int)(b:Int):Option (Int):=runF (T_ZT nf) nf [.v kI,.v kI] [.t 4 (.v kI)] ir_ZT (a,b,())
theorem m_ZT_eq(nf:Nat)(a:Int)(b:Int):m_ZT nf a b=(br (decide (b<a)) (some a) (some b)):=by kernel_rfl
noncomputable def e_ZT(nf:Nat):XE:=eF 94 [.v kI,.v kI] [.v kI] (fun t=>m_ZT nf t.1 t.2.1)
theorem o_ZT(nf:Nat):conOK Try.prog 94 (e_ZT nf).con:=by
 have ih:XT.ok Try.prog (T_ZT nf):=by exact trivial
 refine eF_ok fun t x h=> ?_
 obtain⟨a,b,_⟩:=t
 exact runF_ok (N:=10) ih Try.func94 (by kernel_rfl) rfl h
def c23_ZL:C:=.sq (.rg [.mv 2 (.b true)]) .rt
def c7_ZL:C:=.sq (.sq (.rg [.mv 4 T3,.mv 5 T0,.ln 6 false T5,.bi 7 .lss T4 T6]) (.cd T7 .skip (.ex 0))) (.sq (.bk 1 (.sq (.dr [] [.mv 10 T0,.mv 11 T3,.bi 12 .sub T11 (.i 1),.ia 13 T10 T12 kS,.ld 14 T13 kS,.mv 15 T0,.mv 16 T3,.ia 17 T15 T16 kS,.ld 18 T17 kS] [.bi 19 .geq T14 T18]) (.cd T19 (.sq (.rg [.mv 2 (.b false)]) .rt) .skip))) (.rg [.mv 8 T3,.bi 9 .add T8 (.i 1),.mv 3 T9]))
def ir_ZL:C:=.sq (.rg [.mv 2 (.b false)]) (.sq (.sq (.rg [.mv 3 (.i 1)]) (.bk 0 (.lk [0,3] [] c7_ZL))) c23_ZL)
noncomputable abbrev T_ZL(nf:Nat):XT:=[]
noncomputable def m_ZL(nf:Nat)(list:List Str):Option (Bool):=runF (T_ZL nf) nf [.v (kL kS)] [.t 2 (.v .bool)] ir_ZL (list,())
noncomputable def X_ZL{R:Type}(nf:Nat):C->Env->(Xt->Env->Option R)->Option R:=xc (R:=R) (T_ZL nf).S nf
noncomputable def l6_ZL(nf:Nat)(m6:Nat)(list:List Str)(x3_6:Int):Option (Bool):=xit [0,3] [] (X_ZL nf c7_ZL) (qB 0 (qS (X_ZL nf c23_ZL) (KF [.t 2 (.v .bool)]))) m6 ⟨[(0,.v (kL kS) list),(3,.v kI x3_6)],[]⟩
theorem l6_ZL_eq(nf:Nat)(m6:Nat)(list:List Str)(x3_6:Int):l6_ZL nf (m6+1) list x3_6=(br (decide (x3_6<(List.length list:Int))) (gg (0<=(w64 (x3_6-(1:Int)))∧(w64 (x3_6-(1:Int)))<(List.length list:Int))<|gg (0<=x3_6∧x3_6<(List.length list:Int))<|br (!(Op.bytesLess (gt list (w64 (x3_6-(1:Int))) ([]:Str)) (gt list x3_6 ([]:Str)))) (some false) (mark (l6_ZL nf m6 list (w64 (x3_6+(1:Int)))))) (some true)):=by kernel_rfl
theorem m_ZL_eq(nf:Nat)(list:List Str):m_ZL nf list=(mark (l6_ZL nf nf list (1:Int))):=by kernel_rfl
noncomputable def e_ZL(nf:Nat):XE:=eF 114 [.v (kL kS)] [.v .bool] (fun t=>m_ZL nf t.1)
theorem o_ZL(nf:Nat):conOK Try.prog 114 (e_ZL nf).con:=by
 have ih:XT.ok Try.prog (T_ZL nf):=by exact trivial
 refine eF_ok fun t x h=> ?_
 obtain⟨list,_⟩:=t
 exact runF_ok (N:=20) ih Try.func114 (by kernel_rfl) rfl h
def c25_ZO:C:=.sq (.rg [.mv 39 T0,.ln 40 true T39,.cv (some 41) 113 [(T40,.v kI),((.i 1),.v kI),((.i 4),.v kI)],.mv 42 T41,.g 42 true (.mv 43 T0),.g 42 true (.bi 44 .neq T43 (.s [105,102])),.pk 45 T42 T44 (.b false),.mv 46 T45,.g 46 true (.mv 47 T0),.g 46 true (.bi 48 .neq T47 (.s [102,111,114])),.pk 49 T46 T48 (.b false),.mv 2 T49]) .rt
def w25_ZO:C:=.kp [0] [] c25_ZO
def c24_ZO:C:=.rg [.mv 9 T3,.bi 10 .add T9 (.i 1),.mv 3 T10]
def c19_ZO:C:=.cd T38 (.sq (.rg [.mv 2 (.b false)]) .rt) .skip
def w19_ZO:C:=.kp [0,3,38] [] c19_ZO
def c17_ZO:C:=.sq (.rg [.mv 21 T4,.un 22 .not T21,.mv 23 T22,.g 23 true (.mv 24 T3),.g 23 true (.bi 25 .eql T24 (.i 0)),.g 23 true (.mv 26 T25),.g 26 false (.mv 27 T0),.g 26 false (.mv 28 T3),.g 26 false (.ix 29 T27 T28),.g 26 false (.bi 30 .lss T29 (.k .u8 48)),.g 23 true (.pk 31 T26 (.b true) T30),.g 23 true (.mv 32 T31),.g 32 false (.mv 33 T0),.g 32 false (.mv 34 T3),.g 32 false (.ix 35 T33 T34),.g 32 false (.bi 36 .gtr T35 (.k .u8 57)),.g 23 true (.pk 37 T32 (.b true) T36),.pk 38 T23 T37 (.b false)]) w19_ZO
def w17_ZO:C:=.kp [0,3,4] [] c17_ZO
def c7_ZO:C:=.sq (.sq (.rg [.mv 5 T3,.mv 6 T0,.ln 7 true T6,.bi 8 .lss T5 T7]) (.cd T8 .skip (.ex 0))) (.sq (.bk 1 (.sq (.rg [.mv 11 T0,.mv 12 T3,.ix 13 T11 T12,.bi 14 .geq T13 (.k .u8 97),.mv 15 T14,.g 15 true (.mv 16 T0),.g 15 true (.mv 17 T3),.g 15 true (.ix 18 T16 T17),.g 15 true (.bi 19 .leq T18 (.k .u8 122)),.pk 20 T15 T19 (.b false),.mv 4 T20]) w17_ZO)) c24_ZO)
def ir_ZO:C:=.sq (.rg [.mv 2 (.b false)]) (.sq (.sq (.rg [.mv 3 (.i 0)]) (.bk 0 (.lk [0,3] [] c7_ZO))) w25_ZO)
noncomputable abbrev T_ZO(nf:Nat):XT:=[e_ZS nf]
noncomputable def m_ZO(nf:Nat)(s:Str):Option (Bool):=runF (T_ZO nf) nf [.v kS] [.t 2 (.v .bool)] ir_ZO (s,())
noncomputable def X_ZO{R:Type}(nf:Nat):C->Env->(Xt->Env->Option R)->Option R:=xc (R:=R) (T_ZO nf).S nf
noncomputable def j19_ZO(nf:Nat)(m6:Nat)(s:Str)(x3_6:Int)(x38_19:Bool):Option (Bool):=X_ZO nf c19_ZO ⟨[(0,.v kS s),(3,.v kI x3_6),(38,.v .bool x38_19)],[]⟩ (qB 1 (qS (X_ZO nf c24_ZO) (qM [0,3] [] (X_ZO nf c7_ZO) m6 (qB 0 (qS (X_ZO nf w25_ZO) (KF [.t 2 (.v .bool)]))))))
noncomputable def j17_ZO(nf:Nat)(m6:Nat)(s:Str)(x3_6:Int)(x4_17:Bool):Option (Bool):=X_ZO nf c17_ZO ⟨[(0,.v kS s),(3,.v kI x3_6),(4,.v .bool x4_17)],[]⟩ (qB 1 (qS (X_ZO nf c24_ZO) (qM [0,3] [] (X_ZO nf c7_ZO) m6 (qB 0 (qS (X_ZO nf w25_ZO) (KF [.t 2 (.v .bool)]))))))
noncomputable def l6_ZO(nf:Nat)(m6:Nat)(s:Str)(x3_6:Int):Option (Bool):=xit [0,3] [] (X_ZO nf c7_ZO) (qB 0 (qS (X_ZO nf w25_ZO) (KF [.t 2 (.v .bool)]))) m6 ⟨[(0,.v kS s),(3,.v kI x3_6)],[]⟩
noncomputable def j25_ZO(nf:Nat)(s:Str):Option (Bool):=X_ZO nf c25_ZO ⟨[(0,.v kS s)],[]⟩ (KF [.t 2 (.v .bool)])
theorem j19_ZO_eq(nf:Nat)(m6:Nat)(s:Str)(x3_6:Int)(x38_19:Bool):j19_ZO nf m6 s x3_6 x38_19=(br x38_19 (some false) (mark (l6_ZO nf m6 s (w64 (x3_6+(1:Int)))))):=by
 unfold j19_ZO l6_ZO c19_ZO w25_ZO c24_ZO
 generalize c25_ZO=x0
 revert x0
 refine id ?_
 intro x0
 kernel_rfl
theorem j17_ZO_eq(nf:Nat)(m6:Nat)(s:Str)(x3_6:Int)(x4_17:Bool):j17_ZO nf m6 s x3_6 x4_17=(br ((!x4_17)==true) (br ((x3_6==(0:Int))==false) (gg (0<=x3_6∧x3_6<(List.length s:Int))<|br ((decide (((List.getD s (Int.toNat x3_6) 0).toNat:Int)<(48:Int)))==false) (gg (0<=x3_6∧x3_6<(List.length s:Int))<|mark (j19_ZO nf m6 s x3_6 (decide ((57:Int)<((List.getD s (Int.toNat x3_6) 0).toNat:Int))))) (mark (j19_ZO nf m6 s x3_6 true))) (mark (j19_ZO nf m6 s x3_6 true))) (mark (j19_ZO nf m6 s x3_6 false))):=by
 unfold j17_ZO j19_ZO c17_ZO w25_ZO c24_ZO w19_ZO
 generalize c25_ZO=x0
 generalize c19_ZO=x1
 revert x0 x1
 refine id ?_
 intro x0 x1
 kernel_rfl
theorem l6_ZO_eq(nf:Nat)(m6:Nat)(s:Str)(x3_6:Int):l6_ZO nf (m6+1) s x3_6=(br (decide (x3_6<(List.length s:Int))) (gg (0<=x3_6∧x3_6<(List.length s:Int))<|br ((decide ((97:Int)<=((List.getD s (Int.toNat x3_6) 0).toNat:Int)))==true) (gg (0<=x3_6∧x3_6<(List.length s:Int))<|mark (j17_ZO nf m6 s x3_6 (decide (((List.getD s (Int.toNat x3_6) 0).toNat:Int)<=(122:Int))))) (mark (j17_ZO nf m6 s x3_6 false))) (mark (j25_ZO nf s))):=by
 unfold l6_ZO j17_ZO j25_ZO c7_ZO w25_ZO w17_ZO c24_ZO
 generalize c25_ZO=x0
 generalize c17_ZO=x1
 revert x0 x1
 refine id ?_
 intro x0 x1
 kernel_rfl
theorem j25_ZO_eq(nf:Nat)(s:Str):j25_ZO nf s=(cb (m_ZS nf (List.length s:Int) (1:Int) (4:Int)) fun r41=>br (r41==true) (br ((!(s==([105,102]:Str)))==true) (some (!(s==([102,111,114]:Str)))) (some false)) (some false)):=by kernel_rfl
theorem m_ZO_eq(nf:Nat)(s:Str):m_ZO nf s=(mark (l6_ZO nf nf s (0:Int))):=by
 unfold m_ZO l6_ZO ir_ZO w25_ZO
 generalize c25_ZO=x0
 revert x0
 refine id ?_
 intro x0
 kernel_rfl
noncomputable def e_ZO(nf:Nat):XE:=eF 112 [.v kS] [.v .bool] (fun t=>m_ZO nf t.1)
theorem o_ZO(nf:Nat):conOK Try.prog 112 (e_ZO nf).con:=by
 have ih:XT.ok Try.prog (T_ZO nf):=by exact⟨o_ZS nf,trivial⟩
 refine eF_ok fun t x h=> ?_
 obtain⟨s,_⟩:=t
 exact runF_ok (N:=50) ih Try.func112 (by kernel_rfl) rfl h
def c23_ZY:C:=.sq (.rg [.mv 16 T0,.ln 17 false T16,.cv (some 18) 113 [(T17,.v kI),((.i 1),.v kI),((.i 4),.v kI)],.mv 19 T18,.g 19 true (.mv 20 T0),.g 19 true (.cv (some 21) 114 [(T20,.v (kL kS))]),.pk 22 T19 T21 (.b false),.mv 2 T22]) .rt
def w23_ZY:C:=.kp [0] [] c23_ZY
def c7_ZY:C:=.sq (.sq (.rg [.mv 4 T3,.mv 5 T0,.ln 6 false T5,.bi 7 .lss T4 T6]) (.cd T7 .skip (.ex 0))) (.sq (.bk 1 (.sq (.rg [.mv 10 T0,.mv 11 T3,.ia 12 T10 T11 kS,.ld 13 T12 kS,.cv (some 14) 112 [(T13,.v kS)],.un 15 .not T14]) (.cd T15 (.sq (.rg [.mv 2 (.b false)]) .rt) .skip))) (.rg [.mv 8 T3,.bi 9 .add T8 (.i 1),.mv 3 T9]))
def ir_ZY:C:=.sq (.rg [.mv 2 (.b false)]) (.sq (.sq (.rg [.mv 3 (.i 0)]) (.bk 0 (.lk [0,3] [] c7_ZY))) w23_ZY)
noncomputable abbrev T_ZY(nf:Nat):XT:=[e_ZO nf,e_ZS nf,e_ZL nf]
noncomputable def m_ZY(nf:Nat)(list:List Str):Option (Bool):=runF (T_ZY nf) nf [.v (kL kS)] [.t 2 (.v .bool)] ir_ZY (list,())
noncomputable def X_ZY{R:Type}(nf:Nat):C->Env->(Xt->Env->Option R)->Option R:=xc (R:=R) (T_ZY nf).S nf
noncomputable def l6_ZY(nf:Nat)(m6:Nat)(list:List Str)(x3_6:Int):Option (Bool):=xit [0,3] [] (X_ZY nf c7_ZY) (qB 0 (qS (X_ZY nf w23_ZY) (KF [.t 2 (.v .bool)]))) m6 ⟨[(0,.v (kL kS) list),(3,.v kI x3_6)],[]⟩
noncomputable def j23_ZY(nf:Nat)(list:List Str):Option (Bool):=X_ZY nf c23_ZY ⟨[(0,.v (kL kS) list)],[]⟩ (KF [.t 2 (.v .bool)])
theorem l6_ZY_eq(nf:Nat)(m6:Nat)(list:List Str)(x3_6:Int):l6_ZY nf (m6+1) list x3_6=(br (decide (x3_6<(List.length list:Int))) (gg (0<=x3_6∧x3_6<(List.length list:Int))<|cb (m_ZO nf (gt list x3_6 ([]:Str))) fun r14=>br (!r14) (some false) (mark (l6_ZY nf m6 list (w64 (x3_6+(1:Int)))))) (mark (j23_ZY nf list))):=by
 unfold l6_ZY j23_ZY c7_ZY w23_ZY
 generalize c23_ZY=x0
 revert x0
 refine id ?_
 intro x0
 kernel_rfl
theorem j23_ZY_eq(nf:Nat)(list:List Str):j23_ZY nf list=(cb (m_ZS nf (List.length list:Int) (1:Int) (4:Int)) fun r18=>br (r18==true) (cb (m_ZL nf list) fun r21=>some r21) (some false)):=by kernel_rfl
theorem m_ZY_eq(nf:Nat)(list:List Str):m_ZY nf list=(mark (l6_ZY nf nf list (0:Int))):=by
 unfold m_ZY l6_ZY ir_ZY w23_ZY
 generalize c23_ZY=x0
 revert x0
 refine id ?_
 intro x0
 kernel_rfl
noncomputable def e_ZY(nf:Nat):XE:=eF 95 [.v (kL kS)] [.v .bool] (fun t=>m_ZY nf t.1)
theorem o_ZY(nf:Nat):conOK Try.prog 95 (e_ZY nf).con:=by
 have ih:XT.ok Try.prog (T_ZY nf):=by exact⟨o_ZO nf,o_ZS nf,o_ZL nf,trivial⟩
 refine eF_ok fun t x h=> ?_
 obtain⟨list,_⟩:=t
 exact runF_ok (N:=23) ih Try.func95 (by kernel_rfl) rfl h
def c23_ZW:C:=.sq (.rg [.fa 20 T2 0 0 0,.ld 21 T20 kI,.mv 22 T1,.bi 23 .eql T21 T22,.mv 4 T23]) .rt
def c7_ZW:C:=.sq (.sq (.rg [.mv 6 T5,.fa 7 T2 0 2 2,.ld 8 T7 (kL (kR 0)),.ln 9 false T8,.bi 10 .lss T6 T9]) (.cd T10 .skip (.ex 0))) (.sq (.bk 1 (.sq (.rg [.fa 13 T2 0 2 2,.ld 14 T13 (kL (kR 0)),.mv 15 T5,.ia 16 T14 T15 (kR 0),.ld 17 T16 (kR 0),.mv 18 T1,.cv (some 19) 42 [(T17,.v (kR 0)),(T18,.v kI)]]) (.cd T19 (.sq (.rg [.mv 4 (.b true)]) .rt) .skip))) (.rg [.mv 11 T5,.bi 12 .add T11 (.i 1),.mv 5 T12]))
def ir_ZW:C:=.sq (.rg [.bx 2 T0 (kR 0),.mv 4 (.b false)]) (.sq (.sq (.rg [.mv 5 (.i 0)]) (.bk 0 (.lk [1,2,5] [[2]] c7_ZW))) c23_ZW)
noncomputable def B_ZW(nf:Nat):XT:=[]
noncomputable def G_ZW(nf:Nat):Nat->XT
 |0=>[]
 |kf+1=>[eF 42 [.v (kR 0),.v kI] [.v .bool] (fun t=>(fun(t:Ty) (kind:Int)=>runF (G_ZW nf kf++B_ZW nf) nf [.v (kR 0),.v kI] [.t 4 (.v .bool)] ir_ZW (t,kind,())) t.1 t.2.1)]
noncomputable abbrev T_ZW(nf kf:Nat):XT:=G_ZW nf kf++B_ZW nf
noncomputable def m_ZW(nf kf:Nat)(t:Ty)(kind:Int):Option (Bool):=runF (T_ZW nf kf) nf [.v (kR 0),.v kI] [.t 4 (.v .bool)] ir_ZW (t,kind,())
noncomputable def X_ZW{R:Type}(nf kf:Nat):C->Env->(Xt->Env->Option R)->Option R:=xc (R:=R) (T_ZW nf kf).S nf
noncomputable def l6_ZW(nf kf:Nat)(m6:Nat)(kind:Int)(t:Ty)(x5_6:Int):Option (Bool):=xit [1,2,5] [[2]] (X_ZW nf kf c7_ZW) (qB 0 (qS (X_ZW nf kf c23_ZW) (KF [.t 4 (.v .bool)]))) m6 ⟨[(1,.v kI kind),(2,.pt [2] 0),(5,.v kI x5_6)],[([2],.box [.v kI t.kind,.v (kL kS) t.labels,.v (kL (kR 0)) t.args])]⟩
theorem l6_ZW_eq(nf kf:Nat)(m6:Nat)(kind:Int)(t:Ty)(x5_6:Int):l6_ZW nf (kf+1) (m6+1) kind t x5_6=(br (decide (x5_6<(List.length t.args:Int))) (gg (0<=x5_6∧x5_6<(List.length t.args:Int))<|cb (m_ZW nf kf (gt t.args x5_6 Ty.zero) kind) fun r19=>br r19 (some true) (mark (l6_ZW nf (kf+1) m6 kind t (w64 (x5_6+(1:Int)))))) (some (t.kind==kind))):=by kernel_rfl
theorem m_ZW_eq(nf kf:Nat)(t:Ty)(kind:Int):m_ZW nf (kf+1) t kind=(mark (l6_ZW nf (kf+1) nf kind t (0:Int))):=by kernel_rfl
noncomputable def e_ZW(nf:Nat):XE:=eF 42 [.v (kR 0),.v kI] [.v .bool] (fun t=>m_ZW nf nf t.1 t.2.1)
theorem gok_ZW(nf:Nat):∀kf:Nat,XT.ok Try.prog (G_ZW nf kf++B_ZW nf)
 |0=>by exact trivial
 |kf+1=>by
  have ih:=gok_ZW nf kf
  refine⟨?_,(by exact trivial)⟩
  ·refine eF_ok fun t x h=> ?_
   obtain⟨t,kind,_⟩:=t
   exact runF_ok (N:=24) ih Try.func42 (by kernel_rfl) rfl h
theorem o_ZW(nf:Nat):conOK Try.prog 42 (e_ZW nf).con:=by
 have ih:=gok_ZW nf nf
 refine eF_ok fun t x h=> ?_
 obtain⟨t,kind,_⟩:=t
 exact runF_ok (N:=24) ih Try.func42 (by kernel_rfl) rfl h
def c19_ZZ:C:=.sq (.rg [.mv 26 T1,.mv 4 T26]) .rt
def c15_ZZ:C:=.sq (.bk 1 (.rg [.fa 19 T2 0 2 2,.ld 20 T19 (kL (kR 0)),.mv 21 T5,.ia 22 T20 T21 (kR 0),.ld 23 T22 (kR 0),.mv 24 T1,.cv (some 25) 62 [(T23,.v (kR 0)),(T24,.v kI)],.mv 1 T25])) (.rg [.mv 17 T5,.bi 18 .add T17 (.i 1),.mv 5 T18])
def c12_ZZ:C:=.cd T16 .skip (.ex 0)
def w12_ZZ:C:=.kp [1,2,5,16] [[2]] c12_ZZ
def c9_ZZ:C:=.sq (.sq (.rg [.mv 8 T5,.fa 9 T2 0 2 2,.ld 10 T9 (kL (kR 0)),.ln 11 false T10,.bi 12 .lss T8 T11,.mv 13 T12,.g 13 true (.mv 14 T1),.g 13 true (.bi 15 .geq T14 (.i 0)),.pk 16 T13 T15 (.b false)]) w12_ZZ) c15_ZZ
def ir_ZZ:C:=.sq (.rg [.bx 2 T0 (kR 0),.mv 4 (.i 0)]) (.sq (.rg [.mv 6 T1,.bi 7 .sub T6 (.i 1),.mv 1 T7]) (.sq (.sq (.rg [.mv 5 (.i 0)]) (.bk 0 (.lk [1,2,5] [[2]] c9_ZZ))) c19_ZZ))
noncomputable def B_ZZ(nf:Nat):XT:=[]
noncomputable def G_ZZ(nf:Nat):Nat->XT
 |0=>[]
 |kf+1=>[eF 62 [.v (kR 0),.v kI] [.v kI] (fun t=>(fun(t:Ty) (left:Int)=>runF (G_ZZ nf kf++B_ZZ nf) nf [.v (kR 0),.v kI] [.t 4 (.v kI)] ir_ZZ (t,left,())) t.1 t.2.1)]
noncomputable abbrev T_ZZ(nf kf:Nat):XT:=G_ZZ nf kf++B_ZZ nf
noncomputable def m_ZZ(nf kf:Nat)(t:Ty)(left:Int):Option (Int):=runF (T_ZZ nf kf) nf [.v (kR 0),.v kI] [.t 4 (.v kI)] ir_ZZ (t,left,())
noncomputable def X_ZZ{R:Type}(nf kf:Nat):C->Env->(Xt->Env->Option R)->Option R:=xc (R:=R) (T_ZZ nf kf).S nf
noncomputable def j12_ZZ(nf kf:Nat)(m8:Nat)(x1_8:Int)(x5_8:Int)(t:Ty)(x16_12:Bool):Option (Int):=X_ZZ nf kf c12_ZZ ⟨[(1,.v kI x1_8),(2,.pt [2] 0),(5,.v kI x5_8),(16,.v .bool x16_12)],[([2],.box [.v kI t.kind,.v (kL kS) t.labels,.v (kL (kR 0)) t.args])]⟩ (qS (X_ZZ nf kf c15_ZZ) (qM [1,2,5] [[2]] (X_ZZ nf kf c9_ZZ) m8 (qB 0 (qS (X_ZZ nf kf c19_ZZ) (KF [.t 4 (.v kI)])))))
noncomputable def l8_ZZ(nf kf:Nat)(m8:Nat)(t:Ty)(x1_8:Int)(x5_8:Int):Option (Int):=xit [1,2,5] [[2]] (X_ZZ nf kf c9_ZZ) (qB 0 (qS (X_ZZ nf kf c19_ZZ) (KF [.t 4 (.v kI)]))) m8 ⟨[(1,.v kI x1_8),(2,.pt [2] 0),(5,.v kI x5_8)],[([2],.box [.v kI t.kind,.v (kL kS) t.labels,.v (kL (kR 0)) t.args])]⟩
theorem j12_ZZ_eq(nf kf:Nat)(m8:Nat)(x1_8:Int)(x5_8:Int)(t:Ty)(x16_12:Bool):j12_ZZ nf (kf+1) m8 x1_8 x5_8 t x16_12=(br x16_12 (gg (0<=x5_8∧x5_8<(List.length t.args:Int))<|cb (m_ZZ nf kf (gt t.args x5_8 Ty.zero) x1_8) fun r25=>mark (l8_ZZ nf (kf+1) m8 t r25 (w64 (x5_8+(1:Int))))) (some x1_8)):=by kernel_rfl
theorem l8_ZZ_eq(nf kf:Nat)(m8:Nat)(t:Ty)(x1_8:Int)(x5_8:Int):l8_ZZ nf (kf+1) (m8+1) t x1_8 x5_8=(br ((decide (x5_8<(List.length t.args:Int)))==true) (mark (j12_ZZ nf (kf+1) m8 x1_8 x5_8 t (decide ((0:Int)<=x1_8)))) (mark (j12_ZZ nf (kf+1) m8 x1_8 x5_8 t false))):=by
 unfold l8_ZZ j12_ZZ c9_ZZ c19_ZZ w12_ZZ c15_ZZ
 generalize c12_ZZ=x0
 revert x0
 refine id ?_
 intro x0
 kernel_rfl
theorem m_ZZ_eq(nf kf:Nat)(t:Ty)(left:Int):m_ZZ nf (kf+1) t left=(mark (l8_ZZ nf (kf+1) nf t (w64 (left-(1:Int))) (0:Int))):=by kernel_rfl
noncomputable def e_ZZ(nf:Nat):XE:=eF 62 [.v (kR 0),.v kI] [.v kI] (fun t=>m_ZZ nf nf t.1 t.2.1)
theorem gok_ZZ(nf:Nat):∀kf:Nat,XT.ok Try.prog (G_ZZ nf kf++B_ZZ nf)
 |0=>by exact trivial
 |kf+1=>by
  have ih:=gok_ZZ nf kf
  refine⟨?_,(by exact trivial)⟩
  ·refine eF_ok fun t x h=> ?_
   obtain⟨t,left,_⟩:=t
   exact runF_ok (N:=27) ih Try.func62 (by kernel_rfl) rfl h
theorem o_ZZ(nf:Nat):conOK Try.prog 62 (e_ZZ nf).con:=by
 have ih:=gok_ZZ nf nf
 refine eF_ok fun t x h=> ?_
 obtain⟨t,left,_⟩:=t
 exact runF_ok (N:=27) ih Try.func62 (by kernel_rfl) rfl h
def c19_ZM:C:=.sq (.rg [.mv 20 T3,.bi 21 .add T20 (.i 1),.mv 2 T21]) .rt
def c9_ZM:C:=.sq (.sq (.rg [.mv 5 T4,.fa 6 T1 0 2 2,.ld 7 T6 (kL (kR 0)),.ln 8 false T7,.bi 9 .lss T5 T8]) (.cd T9 .skip (.ex 0))) (.sq (.bk 1 (.rg [.mv 12 T3,.fa 13 T1 0 2 2,.ld 14 T13 (kL (kR 0)),.mv 15 T4,.ia 16 T14 T15 (kR 0),.ld 17 T16 (kR 0),.cv (some 18) 63 [(T17,.v (kR 0))],.cv (some 19) 94 [(T12,.v kI),(T18,.v kI)],.mv 3 T19])) (.rg [.mv 10 T4,.bi 11 .add T10 (.i 1),.mv 4 T11]))
def ir_ZM:C:=.sq (.rg [.bx 1 T0 (kR 0),.mv 2 (.i 0)]) (.sq (.rg [.mv 3 (.i 0)]) (.sq (.sq (.rg [.mv 4 (.i 0)]) (.bk 0 (.lk [1,3,4] [[1]] c9_ZM))) c19_ZM))
noncomputable def B_ZM(nf:Nat):XT:=[e_ZT nf]
noncomputable def G_ZM(nf:Nat):Nat->XT
 |0=>[]
 |kf+1=>[eF 63 [.v (kR 0)] [.v kI] (fun t=>(fun(t:Ty)=>runF (G_ZM nf kf++B_ZM nf) nf [.v (kR 0)] [.t 2 (.v kI)] ir_ZM (t,())) t.1)]
noncomputable abbrev T_ZM(nf kf:Nat):XT:=G_ZM nf kf++B_ZM nf
noncomputable def m_ZM(nf kf:Nat)(t:Ty):Option (Int):=runF (T_ZM nf kf) nf [.v (kR 0)] [.t 2 (.v kI)] ir_ZM (t,())
noncomputable def X_ZM{R:Type}(nf kf:Nat):C->Env->(Xt->Env->Option R)->Option R:=xc (R:=R) (T_ZM nf kf).S nf
noncomputable def l8_ZM(nf kf:Nat)(m8:Nat)(t:Ty)(x3_8:Int)(x4_8:Int):Option (Int):=xit [1,3,4] [[1]] (X_ZM nf kf c9_ZM) (qB 0 (qS (X_ZM nf kf c19_ZM) (KF [.t 2 (.v kI)]))) m8 ⟨[(1,.pt [1] 0),(3,.v kI x3_8),(4,.v kI x4_8)],[([1],.box [.v kI t.kind,.v (kL kS) t.labels,.v (kL (kR 0)) t.args])]⟩
theorem l8_ZM_eq(nf kf:Nat)(m8:Nat)(t:Ty)(x3_8:Int)(x4_8:Int):l8_ZM nf (kf+1) (m8+1) t x3_8 x4_8=(br (decide (x4_8<(List.length t.args:Int))) (gg (0<=x4_8∧x4_8<(List.length t.args:Int))<|cb (m_ZM nf kf (gt t.args x4_8 Ty.zero)) fun r18=>cb (m_ZT nf x3_8 r18) fun r19=>mark (l8_ZM nf (kf+1) m8 t r19 (w64 (x4_8+(1:Int))))) (some (w64 (x3_8+(1:Int))))):=by kernel_rfl
theorem m_ZM_eq(nf kf:Nat)(t:Ty):m_ZM nf (kf+1) t=(mark (l8_ZM nf (kf+1) nf t (0:Int) (0:Int))):=by kernel_rfl
noncomputable def e_ZM(nf:Nat):XE:=eF 63 [.v (kR 0)] [.v kI] (fun t=>m_ZM nf nf t.1)
theorem gok_ZM(nf:Nat):∀kf:Nat,XT.ok Try.prog (G_ZM nf kf++B_ZM nf)
 |0=>by exact⟨o_ZT nf,trivial⟩
 |kf+1=>by
  have ih:=gok_ZM nf kf
  refine⟨?_,(by exact⟨o_ZT nf,trivial⟩)⟩
  ·refine eF_ok fun t x h=> ?_
   obtain⟨t,_⟩:=t
   exact runF_ok (N:=22) ih Try.func63 (by kernel_rfl) rfl h
theorem o_ZM(nf:Nat):conOK Try.prog 63 (e_ZM nf).con:=by
 have ih:=gok_ZM nf nf
 refine eF_ok fun t x h=> ?_
 obtain⟨t,_⟩:=t
 exact runF_ok (N:=22) ih Try.func63 (by kernel_rfl) rfl h
def c62_ZV:C:=.sq (.rg [.fa 64 T1 0 1 1,.ld 65 T64 (kL kS),.ln 66 false T65,.bi 67 .eql T66 (.i 0),.mv 68 T67,.g 68 true (.fa 69 T1 0 2 2),.g 68 true (.ld 70 T69 (kL (kR 0))),.g 68 true (.ln 71 false T70),.g 68 true (.mv 72 T4),.g 68 true (.bi 73 .eql T71 T72),.pk 74 T68 T73 (.b false),.mv 2 T74]) .rt
def w62_ZV:C:=.kp [1,4] [[1]] c62_ZV
def c51_ZV:C:=.cd T57 (.rg [.mv 4 (.i 0)]) (.sq (.rg [.bi 61 .eql T56 (.i 4),.mv 60 T61]) (.cd T60 (.rg [.mv 4 (.i 1)]) (.sq (.rg [.bi 63 .eql T56 (.i 5),.mv 62 T63]) (.cd T62 (.rg [.mv 4 (.i 2)]) .skip))))
def w51_ZV:C:=.kp [1,4,56,57] [[1]] c51_ZV
def c39_ZV:C:=.sq (.rg [.mv 4 (.i (-1))]) (.sq (.sq (.rg [.fa 55 T1 0 0 0,.ld 56 T55 kI]) (.bk 2 (.sq (.sq (.rg [.bi 58 .eql T56 (.i 1),.mv 57 T58]) (.cd T57 .skip (.rg [.bi 59 .eql T56 (.i 2),.mv 57 T59]))) w51_ZV))) w62_ZV)
def c34_ZV:C:=.cd T54 (.sq (.rg [.mv 2 (.b false)]) .rt) .skip
def w34_ZV:C:=.kp [1,54] [[1]] c34_ZV
def c31_ZV:C:=.sq (.sq (.rg [.fa 39 T1 0 0 0,.ld 40 T39 kI,.bi 41 .eql T40 (.i 4),.mv 42 T41,.g 42 true (.fa 43 T1 0 2 2),.g 42 true (.ld 44 T43 (kL (kR 0))),.g 42 true (.ln 45 false T44),.g 42 true (.bi 46 .eql T45 (.i 1)),.pk 47 T42 T46 (.b false),.mv 48 T47,.g 48 true (.fa 49 T1 0 2 2),.g 48 true (.ld 50 T49 (kL (kR 0))),.g 48 true (.ia 51 T50 (.i 0) (kR 0)),.g 48 true (.ld 52 T51 (kR 0)),.g 48 true (.cv (some 53) 42 [(T52,.v (kR 0)),((.i 5),.v kI)]),.pk 54 T48 T53 (.b false)]) w34_ZV) c39_ZV
def c29_ZV:C:=.rt
def w29_ZV:C:=.kp [2] [] c29_ZV
def c23_ZV:C:=.sq (.sq (.rg [.fa 19 T1 0 0 0,.ld 20 T19 kI,.bi 21 .eql T20 (.i 3)]) (.cd T21 (.sq (.rg [.fa 22 T1 0 2 2,.ld 23 T22 (kL (kR 0)),.ln 24 false T23,.fa 25 T1 0 1 1,.ld 26 T25 (kL kS),.ln 27 false T26,.bi 28 .eql T24 T27,.mv 29 T28,.g 29 true (.fa 30 T1 0 1 1),.g 29 true (.ld 31 T30 (kL kS)),.g 29 true (.cv (some 32) 95 [(T31,.v (kL kS))]),.pk 33 T29 T32 (.b false),.mv 34 T33,.g 34 true (.ld 35 T1 (kR 0)),.g 34 true (.cv (some 36) 42 [(T35,.v (kR 0)),((.i 5),.v kI)]),.g 34 true (.un 37 .not T36),.pk 38 T34 T37 (.b false),.mv 2 T38]) w29_ZV) .skip)) c31_ZV
def w23_ZV:C:=.kp [1] [[1]] c23_ZV
def c7_ZV:C:=.sq (.sq (.rg [.mv 5 T3,.fa 6 T1 0 2 2,.ld 7 T6 (kL (kR 0)),.ln 8 false T7,.bi 9 .lss T5 T8]) (.cd T9 .skip (.ex 0))) (.sq (.bk 1 (.sq (.rg [.fa 12 T1 0 2 2,.ld 13 T12 (kL (kR 0)),.mv 14 T3,.ia 15 T13 T14 (kR 0),.ld 16 T15 (kR 0),.cv (some 17) 64 [(T16,.v (kR 0))],.un 18 .not T17]) (.cd T18 (.sq (.rg [.mv 2 (.b false)]) .rt) .skip))) (.rg [.mv 10 T3,.bi 11 .add T10 (.i 1),.mv 3 T11]))
def ir_ZV:C:=.sq (.rg [.bx 1 T0 (kR 0),.mv 2 (.b false)]) (.sq (.sq (.rg [.mv 3 (.i 0)]) (.bk 0 (.lk [1,3] [[1]] c7_ZV))) w23_ZV)
noncomputable def B_ZV(nf:Nat):XT:=[e_ZY nf,e_ZW nf]
noncomputable def G_ZV(nf:Nat):Nat->XT
 |0=>[]
 |kf+1=>[eF 64 [.v (kR 0)] [.v .bool] (fun t=>(fun(t:Ty)=>runF (G_ZV nf kf++B_ZV nf) nf [.v (kR 0)] [.t 2 (.v .bool)] ir_ZV (t,())) t.1)]
noncomputable abbrev T_ZV(nf kf:Nat):XT:=G_ZV nf kf++B_ZV nf
noncomputable def m_ZV(nf kf:Nat)(t:Ty):Option (Bool):=runF (T_ZV nf kf) nf [.v (kR 0)] [.t 2 (.v .bool)] ir_ZV (t,())
noncomputable def X_ZV{R:Type}(nf kf:Nat):C->Env->(Xt->Env->Option R)->Option R:=xc (R:=R) (T_ZV nf kf).S nf
noncomputable def l6_ZV(nf kf:Nat)(m6:Nat)(t:Ty)(x3_6:Int):Option (Bool):=xit [1,3] [[1]] (X_ZV nf kf c7_ZV) (qB 0 (qS (X_ZV nf kf w23_ZV) (KF [.t 2 (.v .bool)]))) m6 ⟨[(1,.pt [1] 0),(3,.v kI x3_6)],[([1],.box [.v kI t.kind,.v (kL kS) t.labels,.v (kL (kR 0)) t.args])]⟩
noncomputable def j29_ZV(nf kf:Nat)(x2_29:Bool):Option (Bool):=X_ZV nf kf c29_ZV ⟨[(2,.v .bool x2_29)],[]⟩ (qS (X_ZV nf kf c31_ZV) (KF [.t 2 (.v .bool)]))
noncomputable def j34_ZV(nf kf:Nat)(t:Ty)(x54_34:Bool):Option (Bool):=X_ZV nf kf c34_ZV ⟨[(1,.pt [1] 0),(54,.v .bool x54_34)],[([1],.box [.v kI t.kind,.v (kL kS) t.labels,.v (kL (kR 0)) t.args])]⟩ (qS (X_ZV nf kf c39_ZV) (KF [.t 2 (.v .bool)]))
noncomputable def j51_ZV(nf kf:Nat)(t:Ty)(x57_51:Bool):Option (Bool):=X_ZV nf kf c51_ZV ⟨[(1,.pt [1] 0),(4,.v kI (-1:Int)),(56,.v kI t.kind),(57,.v .bool x57_51)],[([1],.box [.v kI t.kind,.v (kL kS) t.labels,.v (kL (kR 0)) t.args])]⟩ (qB 2 (qS (X_ZV nf kf w62_ZV) (KF [.t 2 (.v .bool)])))
noncomputable def j62_ZV(nf kf:Nat)(t:Ty)(x4_62:Int):Option (Bool):=X_ZV nf kf c62_ZV ⟨[(1,.pt [1] 0),(4,.v kI x4_62)],[([1],.box [.v kI t.kind,.v (kL kS) t.labels,.v (kL (kR 0)) t.args])]⟩ (KF [.t 2 (.v .bool)])
noncomputable def j23_ZV(nf kf:Nat)(t:Ty):Option (Bool):=X_ZV nf kf c23_ZV ⟨[(1,.pt [1] 0)],[([1],.box [.v kI t.kind,.v (kL kS) t.labels,.v (kL (kR 0)) t.args])]⟩ (KF [.t 2 (.v .bool)])
theorem l6_ZV_eq(nf kf:Nat)(m6:Nat)(t:Ty)(x3_6:Int):l6_ZV nf (kf+1) (m6+1) t x3_6=(br (decide (x3_6<(List.length t.args:Int))) (gg (0<=x3_6∧x3_6<(List.length t.args:Int))<|cb (m_ZV nf kf (gt t.args x3_6 Ty.zero)) fun r17=>br (!r17) (some false) (mark (l6_ZV nf (kf+1) m6 t (w64 (x3_6+(1:Int)))))) (mark (j23_ZV nf (kf+1) t))):=by
 unfold l6_ZV j23_ZV c7_ZV w23_ZV
 generalize c23_ZV=x0
 revert x0
 refine id ?_
 intro x0
 kernel_rfl
theorem j29_ZV_eq(nf kf:Nat)(x2_29:Bool):j29_ZV nf (kf+1) x2_29=(some x2_29):=by
 unfold j29_ZV c29_ZV c31_ZV w34_ZV c39_ZV w51_ZV w62_ZV
 generalize c34_ZV=x0
 generalize c51_ZV=x1
 generalize c62_ZV=x2
 revert x0 x1 x2
 refine id ?_
 intro x0 x1 x2
 kernel_rfl
theorem j34_ZV_eq(nf kf:Nat)(t:Ty)(x54_34:Bool):j34_ZV nf (kf+1) t x54_34=(br x54_34 (some false) (br (t.kind==(1:Int)) (mark (j51_ZV nf (kf+1) t (t.kind==(1:Int)))) (mark (j51_ZV nf (kf+1) t (t.kind==(2:Int)))))):=by
 unfold j34_ZV j51_ZV c34_ZV c39_ZV w51_ZV w62_ZV
 generalize c51_ZV=x0
 generalize c62_ZV=x1
 revert x0 x1
 refine id ?_
 intro x0 x1
 kernel_rfl
theorem j51_ZV_eq(nf kf:Nat)(t:Ty)(x57_51:Bool):j51_ZV nf (kf+1) t x57_51=(br x57_51 (mark (j62_ZV nf (kf+1) t (0:Int))) (br (t.kind==(4:Int)) (mark (j62_ZV nf (kf+1) t (1:Int))) (br (t.kind==(5:Int)) (mark (j62_ZV nf (kf+1) t (2:Int))) (mark (j62_ZV nf (kf+1) t (-1:Int)))))):=by
 unfold j51_ZV j62_ZV c51_ZV w62_ZV
 generalize c62_ZV=x0
 revert x0
 refine id ?_
 intro x0
 kernel_rfl
theorem j62_ZV_eq(nf kf:Nat)(t:Ty)(x4_62:Int):j62_ZV nf (kf+1) t x4_62=(br (((List.length t.labels:Int)==(0:Int))==true) (some ((List.length t.args:Int)==x4_62)) (some false)):=by kernel_rfl
theorem j23_ZV_eq(nf kf:Nat)(t:Ty):j23_ZV nf (kf+1) t=(br (t.kind==(3:Int)) (br (((List.length t.args:Int)==(List.length t.labels:Int))==true) (cb (m_ZY nf t.labels) fun r32=>br (r32==true) (cb (m_ZW nf nf (Ty.h t) (5:Int)) fun r36=>mark (j29_ZV nf (kf+1) (!r36))) (mark (j29_ZV nf (kf+1) false))) (mark (j29_ZV nf (kf+1) false))) (br ((t.kind==(4:Int))==true) (br (((List.length t.args:Int)==(1:Int))==true) (gg (0<=(0:Int)∧(0:Int)<(List.length t.args:Int))<|cb (m_ZW nf nf (gt t.args (0:Int) Ty.zero) (5:Int)) fun r53=>mark (j34_ZV nf (kf+1) t r53)) (mark (j34_ZV nf (kf+1) t false))) (mark (j34_ZV nf (kf+1) t false)))):=by
 unfold j23_ZV j29_ZV j34_ZV c23_ZV w29_ZV c31_ZV w34_ZV c39_ZV w51_ZV w62_ZV
 generalize c29_ZV=x0
 generalize c34_ZV=x1
 generalize c51_ZV=x2
 generalize c62_ZV=x3
 revert x0 x1 x2 x3
 refine id ?_
 intro x0 x1 x2 x3
 kernel_rfl
theorem m_ZV_eq(nf kf:Nat)(t:Ty):m_ZV nf (kf+1) t=(mark (l6_ZV nf (kf+1) nf t (0:Int))):=by
 unfold m_ZV l6_ZV ir_ZV w23_ZV
 generalize c23_ZV=x0
 revert x0
 refine id ?_
 intro x0
 kernel_rfl
noncomputable def e_ZV(nf:Nat):XE:=eF 64 [.v (kR 0)] [.v .bool] (fun t=>m_ZV nf nf t.1)
theorem gok_ZV(nf:Nat):∀kf:Nat,XT.ok Try.prog (G_ZV nf kf++B_ZV nf)
 |0=>by exact⟨o_ZY nf,o_ZW nf,trivial⟩
 |kf+1=>by
  have ih:=gok_ZV nf kf
  refine⟨?_,(by exact⟨o_ZY nf,o_ZW nf,trivial⟩)⟩
  ·refine eF_ok fun t x h=> ?_
   obtain⟨t,_⟩:=t
   exact runF_ok (N:=75) ih Try.func64 (by kernel_rfl) rfl h
theorem o_ZV(nf:Nat):conOK Try.prog 64 (e_ZV nf).con:=by
 have ih:=gok_ZV nf nf
 refine eF_ok fun t x h=> ?_
 obtain⟨t,_⟩:=t
 exact runF_ok (N:=75) ih Try.func64 (by kernel_rfl) rfl h
def ir_ZP:C:=.sq (.rg [.bx 1 T0 (kR 0),.mv 2 (.b false)]) (.sq (.rg [.ld 3 T1 (kR 0),.cv (some 4) 62 [(T3,.v (kR 0)),((.i 24),.v kI)],.bi 5 .geq T4 (.i 0),.mv 6 T5,.g 6 true (.ld 7 T1 (kR 0)),.g 6 true (.cv (some 8) 63 [(T7,.v (kR 0))]),.g 6 true (.bi 9 .leq T8 (.i 7)),.pk 10 T6 T9 (.b false),.mv 11 T10,.g 11 true (.ld 12 T1 (kR 0)),.g 11 true (.cv (some 13) 64 [(T12,.v (kR 0))]),.pk 14 T11 T13 (.b false),.mv 2 T14]) .rt)
noncomputable abbrev T_ZP(nf:Nat):XT:=[e_ZZ nf,e_ZM nf,e_ZV nf]
noncomputable def m_ZP(nf:Nat)(t:Ty):Option (Bool):=runF (T_ZP nf) nf [.v (kR 0)] [.t 2 (.v .bool)] ir_ZP (t,())
theorem m_ZP_eq(nf:Nat)(t:Ty):m_ZP nf t=(cb (m_ZZ nf nf (Ty.h t) (24:Int)) fun r4=>br ((decide ((0:Int)<=r4))==true) (cb (m_ZM nf nf (Ty.h t)) fun r8=>br ((decide (r8<=(7:Int)))==true) (cb (m_ZV nf nf (Ty.h t)) fun r13=>some r13) (some false)) (some false)):=by kernel_rfl
noncomputable def e_ZP(nf:Nat):XE:=eF 28 [.v (kR 0)] [.v .bool] (fun t=>m_ZP nf t.1)
theorem o_ZP(nf:Nat):conOK Try.prog 28 (e_ZP nf).con:=by
 have ih:XT.ok Try.prog (T_ZP nf):=by exact⟨o_ZZ nf,o_ZM nf,o_ZV nf,trivial⟩
 refine eF_ok fun t x h=> ?_
 obtain⟨t,_⟩:=t
 exact runF_ok (N:=15) ih Try.func28 (by kernel_rfl) rfl h
def c25_ZQ:C:=.sq (.rg [.mv 25 T5,.cs 26 T25,.mv 4 T26]) .rt
def c24_ZQ:C:=.rg [.mv 12 T6,.bi 13 .add T12 (.i 1),.mv 6 T13]
def c23_ZQ:C:=.rg [.mv 19 T5,.mv 20 T0,.mv 21 T6,.ia 22 T20 T21 kS,.ld 23 T22 kS,.sa 24 [5] T19 T23,.mv 5 T24]
def w23_ZQ:C:=.gt 5 true (.int .u8) (.kp [0,1,5,6] [[5]] c23_ZQ)
def c9_ZQ:C:=.sq (.sq (.rg [.mv 8 T6,.mv 9 T0,.ln 10 false T9,.bi 11 .lss T8 T10]) (.cd T11 .skip (.ex 0))) (.sq (.bk 1 (.sq (.sq (.rg [.mv 14 T6,.bi 15 .gtr T14 (.i 0)]) (.cd T15 (.gt 5 true (.int .u8) (.rg [.mv 16 T5,.mv 17 T1,.sa 18 [5] T16 T17,.mv 5 T18])) .skip)) w23_ZQ)) c24_ZQ)
def ir_ZQ:C:=.sq (.rg [.mv 4 (.s [])]) (.sq (.rg [.bs 7 true (.int .u8) [],.mv 5 T7]) (.sq (.sq (.rg [.mv 6 (.i 0)]) (.bk 0 (.gt 5 true (.int .u8) (.lk [0,1,5,6] [[5]] c9_ZQ)))) c25_ZQ))
noncomputable abbrev T_ZQ(nf:Nat):XT:=[]
noncomputable def m_ZQ(nf:Nat)(list:List Str)(sep:Str):Option (Str):=runF (T_ZQ nf) nf [.v (kL kS),.v kS] [.t 4 (.v kS)] ir_ZQ (list,sep,())
noncomputable def X_ZQ{R:Type}(nf:Nat):C->Env->(Xt->Env->Option R)->Option R:=xc (R:=R) (T_ZQ nf).S nf
noncomputable def j23_ZQ(nf:Nat)(m8:Nat)(list:List Str)(sep:Str)(x6_8:Int)(y5_23:List Int):Option (Str):=X_ZQ nf c23_ZQ ⟨[(0,.v (kL kS) list),(1,.v kS sep),(5,.sl [5]),(6,.v kI x6_8)],[([5],.row true false (.int .u8) y5_23)]⟩ (qB 1 (qS (X_ZQ nf c24_ZQ) (qM [0,1,5,6] [[5]] (X_ZQ nf c9_ZQ) m8 (qB 0 (qS (X_ZQ nf c25_ZQ) (KF [.t 4 (.v kS)]))))))
noncomputable def l8_ZQ(nf:Nat)(m8:Nat)(list:List Str)(sep:Str)(x6_8:Int)(y5_8:List Int):Option (Str):=xit [0,1,5,6] [[5]] (X_ZQ nf c9_ZQ) (qB 0 (qS (X_ZQ nf c25_ZQ) (KF [.t 4 (.v kS)]))) m8 ⟨[(0,.v (kL kS) list),(1,.v kS sep),(5,.sl [5]),(6,.v kI x6_8)],[([5],.row true false (.int .u8) y5_8)]⟩
theorem j23_ZQ_eq(nf:Nat)(m8:Nat)(list:List Str)(sep:Str)(x6_8:Int)(y5_23:List Int):j23_ZQ nf m8 list sep x6_8 y5_23=(gg (0<=x6_8∧x6_8<(List.length list:Int))<|gg (List.length y5_23+List.length (gt list x6_8 ([]:Str))<=33554432)<|mark (l8_ZQ nf m8 list sep (w64 (x6_8+(1:Int))) (y5_23++intsOf (gt list x6_8 ([]:Str))))):=by kernel_rfl
theorem l8_ZQ_eq(nf:Nat)(m8:Nat)(list:List Str)(sep:Str)(x6_8:Int)(y5_8:List Int):l8_ZQ nf (m8+1) list sep x6_8 y5_8=(br (decide (x6_8<(List.length list:Int))) (br (decide ((0:Int)<x6_8)) (gg (List.length y5_8+List.length sep<=33554432)<|mark (j23_ZQ nf m8 list sep x6_8 (y5_8++intsOf sep))) (mark (j23_ZQ nf m8 list sep x6_8 y5_8))) (some (bytesOf y5_8))):=by
 unfold l8_ZQ j23_ZQ c9_ZQ c25_ZQ w23_ZQ c24_ZQ
 generalize c23_ZQ=x0
 revert x0
 refine id ?_
 intro x0
 kernel_rfl
theorem m_ZQ_eq(nf:Nat)(list:List Str)(sep:Str):m_ZQ nf list sep=(mark (l8_ZQ nf nf list sep (0:Int) ([]:List Int))):=by kernel_rfl
noncomputable def e_ZQ(nf:Nat):XE:=eF 56 [.v (kL kS),.v kS] [.v kS] (fun t=>m_ZQ nf t.1 t.2.1)
theorem o_ZQ(nf:Nat):conOK Try.prog 56 (e_ZQ nf).con:=by
 have ih:XT.ok Try.prog (T_ZQ nf):=by exact trivial
 refine eF_ok fun t x h=> ?_
 obtain⟨list,sep,_⟩:=t
 exact runF_ok (N:=27) ih Try.func56 (by kernel_rfl) rfl h
end Go.Q
