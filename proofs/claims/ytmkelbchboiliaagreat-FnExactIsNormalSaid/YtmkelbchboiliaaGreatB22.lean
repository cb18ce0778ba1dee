/- Typing: the reference's side. -/
import Derived.Test.YtmkelbchboiliaaGreatA7
import Derived.Test.YtmkelbchboiliaaGreatProg
import Derived.KernelRfl
set_option linter.unusedVariables false
set_option linter.unusedSimpArgs false
namespace Go.Q
open Go.Proofs
set_option maxRecDepth 20000
set_option maxHeartbeats 4000000
def c19_ZbF:C:=.sq (.rg [.ld 30 T3 (kR 0),.st T2 T30 (kR 0)]) .rt
def c9_ZbF:C:=.sq (.sq (.rg [.mv 12 T4,.fa 13 T1 0 2 2,.ld 14 T13 (kL (kR 0)),.ln 15 false T14,.bi 16 .lss T12 T15]) (.cd T16 .skip (.ex 0))) (.sq (.bk 1 (.gb 3 2 true (kR 0) (.dr [26,27] [.fa 19 T3 0 2 2,.ld 20 T19 (kL (kR 0)),.fa 21 T1 0 2 2,.ld 22 T21 (kL (kR 0)),.mv 23 T4,.ia 24 T22 T23 (kR 0),.ld 25 T24 (kR 0),.ca (some 26) 89 [(T25,.v (kR 0))],.bl 27 (kR 0) [T26]] [.apl 28 [3,2] (kR 0) T20 27,.fa 29 T3 0 2 2,.st T29 T28 (kL (kR 0))]))) (.rg [.mv 17 T4,.bi 18 .add T17 (.i 1),.mv 4 T18]))
def ir_ZbF:C:=.sq (.rg [.bx 1 T0 (kR 0),.al 2 (kR 0)]) (.sq (.dr [10,3] [.fa 5 T1 0 0 0,.ld 6 T5 kI,.bs 7 true kS [],.fa 8 T1 0 1 1,.ld 9 T8 (kL kS),.an 10 true kS T7 T9,.bd 11 0 [(0,1,T6),(1,1,T10)],.al 3 (kR 0)] [.st T3 T11 (kR 0)]) (.sq (.sq (.rg [.mv 4 (.i 0)]) (.bk 0 (.gb 3 2 true (kR 0) (.lk [1,2,3,4] [[1],[2],[3],[3,2],[10]] c9_ZbF)))) c19_ZbF))
noncomputable def B_ZbF(nf:Nat):XT:=[]
noncomputable def G_ZbF(nf:Nat):Nat->XT
 |0=>[]
 |kf+1=>[eF 89 [.v (kR 0)] [.o (kR 0)] (fun t=>(fun(t:Ty)=>runF (G_ZbF nf kf++B_ZbF nf) nf [.v (kR 0)] [.c 2 (.o (kR 0))] ir_ZbF (t,())) t.1)]
noncomputable abbrev T_ZbF(nf kf:Nat):XT:=G_ZbF nf kf++B_ZbF nf
noncomputable def m_ZbF(nf kf:Nat)(t:Ty):Option (Ty):=runF (T_ZbF nf kf) nf [.v (kR 0)] [.c 2 (.o (kR 0))] ir_ZbF (t,())
noncomputable def X_ZbF{R:Type}(nf kf:Nat):C->Env->(Xt->Env->Option R)->Option R:=xc (R:=R) (T_ZbF nf kf).S nf
noncomputable def l8_ZbF(nf kf:Nat)(m8:Nat)(t:Ty)(x4_8:Int)(y3_2_8:List Ty):Option (Ty):=xit [1,2,3,4] [[1],[2],[3],[3,2],[10]] (X_ZbF nf kf c9_ZbF) (qB 0 (qS (X_ZbF nf kf c19_ZbF) (KF [.c 2 (.o (kR 0))]))) m8 ⟨[(1,.pt [1] 0),(2,.pt [2] 0),(3,.pt [3] 0),(4,.v kI x4_8)],[([1],.box [.v kI t.kind,.v (kL kS) t.labels,.v (kL (kR 0)) t.args]),([2],.box [.v kI (0:Int),.nl kS,.nl (kR 0)]),([3],.box [.v kI t.kind,.sl [10],.sl [3,2]]),([3,2],.row true false (kR 0) y3_2_8),([10],.row true false kS t.labels)]⟩
theorem l8_ZbF_eq(nf kf:Nat)(m8:Nat)(t:Ty)(x4_8:Int)(y3_2_8:List Ty):l8_ZbF nf (kf+1) (m8+1) t x4_8 y3_2_8=(br (decide (x4_8<(List.length t.args:Int))) (gg (0<=x4_8∧x4_8<(List.length t.args:Int))<|cb (m_ZbF nf kf (gt t.args x4_8 Ty.zero)) fun r26=>gg (List.length y3_2_8+List.length ([(Ty.h r26)]:List Ty)<=33554432)<|mark (l8_ZbF nf (kf+1) m8 t (w64 (x4_8+(1:Int))) (y3_2_8++([(Ty.h r26)]:List Ty)))) (some (Ty.mk t.kind t.labels y3_2_8))):=by kernel_rfl
theorem m_ZbF_eq(nf kf:Nat)(t:Ty):m_ZbF nf (kf+1) t=(gg (List.length t.labels<=33554432)<|mark (l8_ZbF nf (kf+1) nf t (0:Int) ([]:List Ty))):=by kernel_rfl
noncomputable def e_ZbF(nf:Nat):XE:=eF 89 [.v (kR 0)] [.o (kR 0)] (fun t=>m_ZbF nf nf t.1)
theorem gok_ZbF(nf:Nat):∀kf:Nat,XT.ok Tryz.prog (G_ZbF nf kf++B_ZbF nf)
 |0=>by exact trivial
 |kf+1=>by
  have ih:=gok_ZbF nf kf
  refine⟨?_,(by exact trivial)⟩
  ·refine eF_ok fun t x h=> ?_
   obtain⟨t,_⟩:=t
   exact runF_ok (N:=31) ih Tryz.func89 (by kernel_rfl) rfl h
theorem o_ZbF(nf:Nat):conOK Tryz.prog 89 (e_ZbF nf).con:=by
 have ih:=gok_ZbF nf nf
 refine eF_ok fun t x h=> ?_
 obtain⟨t,_⟩:=t
 exact runF_ok (N:=31) ih Tryz.func89 (by kernel_rfl) rfl h
def ir_ZbA:C:=.sq (.rg [.mv 6 (.b false)]) (.sq (.rg [.mv 7 T0,.mv 8 T1,.bi 9 .geq T7 T8,.mv 10 T9,.g 10 true (.mv 11 T0),.g 10 true (.mv 12 T2),.g 10 true (.bi 13 .leq T11 T12),.pk 14 T10 T13 (.b false),.mv 6 T14]) .rt)
noncomputable abbrev T_ZbA(nf:Nat):XT:=[]
noncomputable def m_ZbA(nf:Nat)(x:Int)(lo:Int)(hi:Int):Option (Bool):=runF (T_ZbA nf) nf [.v kI,.v kI,.v kI] [.t 6 (.v .bool)] ir_ZbA (x,lo,hi,())
theorem m_ZbA_eq(nf:Nat)(x:Int)(lo:Int)(hi:Int):m_ZbA nf x lo hi=(br ((decide (lo<=x))==true) (some (decide (x<=hi))) (some false)):=by kernel_rfl
noncomputable def e_ZbA(nf:Nat):XE:=eF 92 [.v kI,.v kI,.v kI] [.v .bool] (fun t=>m_ZbA nf t.1 t.2.1 t.2.2.1)
theorem o_ZbA(nf:Nat):conOK Tryz.prog 92 (e_ZbA nf).con:=by
 have ih:XT.ok Tryz.prog (T_ZbA nf):=by exact trivial
 refine eF_ok fun t x h=> ?_
 obtain⟨x,lo,hi,_⟩:=t
 exact runF_ok (N:=15) ih Tryz.func92 (by kernel_rfl) rfl h
def ir_ZbB:C:=.sq (.rg [.mv 4 (.i 0)]) (.sq (.sq (.rg [.mv 5 T0,.mv 6 T1,.bi 7 .gtr T5 T6]) (.cd T7 (.sq (.rg [.mv 8 T0,.mv 4 T8]) .rt) .skip)) (.sq (.rg [.mv 9 T1,.mv 4 T9]) .rt))
noncomputable abbrev T_ZbB(nf:Nat):XT:=[]
noncomputable def m_ZbB(nf:Nat)(a:Int)(b:Int):Option (Int):=runF (T_ZbB nf) nf [.v kI,.v kI] [.t 4 (.v kI)] ir_ZbB (a,b,())
theorem m_ZbB_eq(nf:Nat)(a:Int)(b:Int):m_ZbB nf a b=(br (decide (b<a)) (some a) (some b)):=by kernel_rfl
noncomputable def e_ZbB(nf:Nat):XE:=eF 155 [.v kI,.v kI] [.v kI] (fun t=>m_ZbB nf t.1 t.2.1)
theorem o_ZbB(nf:Nat):conOK Tryz.prog 155 (e_ZbB nf).con:=by
 have ih:XT.ok Tryz.prog (T_ZbB nf):=by exact trivial
 refine eF_ok fun t x h=> ?_
 obtain⟨a,b,_⟩:=t
 exact runF_ok (N:=10) ih Tryz.func155 (by kernel_rfl) rfl h
def c23_ZaY:C:=.sq (.rg [.mv 2 (.b true)]) .rt
def c7_ZaY:C:=.sq (.sq (.rg [.mv 4 T3,.mv 5 T0,.ln 6 false T5,.bi 7 .lss T4 T6]) (.cd T7 .skip (.ex 0))) (.sq (.bk 1 (.sq (.dr [] [.mv 10 T0,.mv 11 T3,.bi 12 .sub T11 (.i 1),.ia 13 T10 T12 kS,.ld 14 T13 kS,.mv 15 T0,.mv 16 T3,.ia 17 T15 T16 kS,.ld 18 T17 kS] [.bi 19 .geq T14 T18]) (.cd T19 (.sq (.rg [.mv 2 (.b false)]) .rt) .skip))) (.rg [.mv 8 T3,.bi 9 .add T8 (.i 1),.mv 3 T9]))
def ir_ZaY:C:=.sq (.rg [.mv 2 (.b false)]) (.sq (.sq (.rg [.mv 3 (.i 1)]) (.bk 0 (.lk [0,3] [] c7_ZaY))) c23_ZaY)
noncomputable abbrev T_ZaY(nf:Nat):XT:=[]
noncomputable def m_ZaY(nf:Nat)(list:List Str):Option (Bool):=runF (T_ZaY nf) nf [.v (kL kS)] [.t 2 (.v .bool)] ir_ZaY (list,())
noncomputable def X_ZaY{R:Type}(nf:Nat):C->Env->(Xt->Env->Option R)->Option R:=xc (R:=R) (T_ZaY nf).S nf
noncomputable def l6_ZaY(nf:Nat)(m6:Nat)(list:List Str)(x3_6:Int):Option (Bool):=xit [0,3] [] (X_ZaY nf c7_ZaY) (qB 0 (qS (X_ZaY nf c23_ZaY) (KF [.t 2 (.v .bool)]))) m6 ⟨[(0,.v (kL kS) list),(3,.v kI x3_6)],[]⟩
theorem l6_ZaY_eq(nf:Nat)(m6:Nat)(list:List Str)(x3_6:Int):l6_ZaY nf (m6+1) list x3_6=(br (decide (x3_6<(List.length list:Int))) (gg (0<=(w64 (x3_6-(1:Int)))∧(w64 (x3_6-(1:Int)))<(List.length list:Int))<|gg (0<=x3_6∧x3_6<(List.length list:Int))<|br (!(Op.bytesLess (gt list (w64 (x3_6-(1:Int))) ([]:Str)) (gt list x3_6 ([]:Str)))) (some false) (mark (l6_ZaY nf m6 list (w64 (x3_6+(1:Int)))))) (some true)):=by kernel_rfl
theorem m_ZaY_eq(nf:Nat)(list:List Str):m_ZaY nf list=(mark (l6_ZaY nf nf list (1:Int))):=by kernel_rfl
noncomputable def e_ZaY(nf:Nat):XE:=eF 75 [.v (kL kS)] [.v .bool] (fun t=>m_ZaY nf t.1)
theorem o_ZaY(nf:Nat):conOK Tryz.prog 75 (e_ZaY nf).con:=by
 have ih:XT.ok Tryz.prog (T_ZaY nf):=by exact trivial
 refine eF_ok fun t x h=> ?_
 obtain⟨list,_⟩:=t
 exact runF_ok (N:=20) ih Tryz.func75 (by kernel_rfl) rfl h
def c25_Zbg:C:=.sq (.rg [.mv 39 T0,.ln 40 true T39,.cv (some 41) 92 [(T40,.v kI),((.i 1),.v kI),((.i 4),.v kI)],.mv 42 T41,.g 42 true (.mv 43 T0),.g 42 true (.bi 44 .neq T43 (.s [105,102])),.pk 45 T42 T44 (.b false),.mv 46 T45,.g 46 true (.mv 47 T0),.g 46 true (.bi 48 .neq T47 (.s [102,111,114])),.pk 49 T46 T48 (.b false),.mv 2 T49]) .rt
def w25_Zbg:C:=.kp [0] [] c25_Zbg
def c24_Zbg:C:=.rg [.mv 9 T3,.bi 10 .add T9 (.i 1),.mv 3 T10]
def c19_Zbg:C:=.cd T38 (.sq (.rg [.mv 2 (.b false)]) .rt) .skip
def w19_Zbg:C:=.kp [0,3,38] [] c19_Zbg
def c17_Zbg:C:=.sq (.rg [.mv 21 T4,.un 22 .not T21,.mv 23 T22,.g 23 true (.mv 24 T3),.g 23 true (.bi 25 .eql T24 (.i 0)),.g 23 true (.mv 26 T25),.g 26 false (.mv 27 T0),.g 26 false (.mv 28 T3),.g 26 false (.ix 29 T27 T28),.g 26 false (.bi 30 .lss T29 (.k .u8 48)),.g 23 true (.pk 31 T26 (.b true) T30),.g 23 true (.mv 32 T31),.g 32 false (.mv 33 T0),.g 32 false (.mv 34 T3),.g 32 false (.ix 35 T33 T34),.g 32 false (.bi 36 .gtr T35 (.k .u8 57)),.g 23 true (.pk 37 T32 (.b true) T36),.pk 38 T23 T37 (.b false)]) w19_Zbg
def w17_Zbg:C:=.kp [0,3,4] [] c17_Zbg
def c7_Zbg:C:=.sq (.sq (.rg [.mv 5 T3,.mv 6 T0,.ln 7 true T6,.bi 8 .lss T5 T7]) (.cd T8 .skip (.ex 0))) (.sq (.bk 1 (.sq (.rg [.mv 11 T0,.mv 12 T3,.ix 13 T11 T12,.bi 14 .geq T13 (.k .u8 97),.mv 15 T14,.g 15 true (.mv 16 T0),.g 15 true (.mv 17 T3),.g 15 true (.ix 18 T16 T17),.g 15 true (.bi 19 .leq T18 (.k .u8 122)),.pk 20 T15 T19 (.b false),.mv 4 T20]) w17_Zbg)) c24_Zbg)
def ir_Zbg:C:=.sq (.rg [.mv 2 (.b false)]) (.sq (.sq (.rg [.mv 3 (.i 0)]) (.bk 0 (.lk [0,3] [] c7_Zbg))) w25_Zbg)
noncomputable abbrev T_Zbg(nf:Nat):XT:=[e_ZbA nf]
noncomputable def m_Zbg(nf:Nat)(s:Str):Option (Bool):=runF (T_Zbg nf) nf [.v kS] [.t 2 (.v .bool)] ir_Zbg (s,())
noncomputable def X_Zbg{R:Type}(nf:Nat):C->Env->(Xt->Env->Option R)->Option R:=xc (R:=R) (T_Zbg nf).S nf
noncomputable def j19_Zbg(nf:Nat)(m6:Nat)(s:Str)(x3_6:Int)(x38_19:Bool):Option (Bool):=X_Zbg nf c19_Zbg ⟨[(0,.v kS s),(3,.v kI x3_6),(38,.v .bool x38_19)],[]⟩ (qB 1 (qS (X_Zbg nf c24_Zbg) (qM [0,3] [] (X_Zbg nf c7_Zbg) m6 (qB 0 (qS (X_Zbg nf w25_Zbg) (KF [.t 2 (.v .bool)]))))))
noncomputable def j17_Zbg(nf:Nat)(m6:Nat)(s:Str)(x3_6:Int)(x4_17:Bool):Option (Bool):=X_Zbg nf c17_Zbg ⟨[(0,.v kS s),(3,.v kI x3_6),(4,.v .bool x4_17)],[]⟩ (qB 1 (qS (X_Zbg nf c24_Zbg) (qM [0,3] [] (X_Zbg nf c7_Zbg) m6 (qB 0 (qS (X_Zbg nf w25_Zbg) (KF [.t 2 (.v .bool)]))))))
noncomputable def l6_Zbg(nf:Nat)(m6:Nat)(s:Str)(x3_6:Int):Option (Bool):=xit [0,3] [] (X_Zbg nf c7_Zbg) (qB 0 (qS (X_Zbg nf w25_Zbg) (KF [.t 2 (.v .bool)]))) m6 ⟨[(0,.v kS s),(3,.v kI x3_6)],[]⟩
noncomputable def j25_Zbg(nf:Nat)(s:Str):Option (Bool):=X_Zbg nf c25_Zbg ⟨[(0,.v kS s)],[]⟩ (KF [.t 2 (.v .bool)])
theorem j19_Zbg_eq(nf:Nat)(m6:Nat)(s:Str)(x3_6:Int)(x38_19:Bool):j19_Zbg nf m6 s x3_6 x38_19=(br x38_19 (some false) (mark (l6_Zbg nf m6 s (w64 (x3_6+(1:Int)))))):=by
 unfold j19_Zbg l6_Zbg c19_Zbg w25_Zbg c24_Zbg
 generalize c25_Zbg=x0
 revert x0
 refine id ?_
 intro x0
 kernel_rfl
theorem j17_Zbg_eq(nf:Nat)(m6:Nat)(s:Str)(x3_6:Int)(x4_17:Bool):j17_Zbg nf m6 s x3_6 x4_17=(br ((!x4_17)==true) (br ((x3_6==(0:Int))==false) (gg (0<=x3_6∧x3_6<(List.length s:Int))<|br ((decide (((List.getD s (Int.toNat x3_6) 0).toNat:Int)<(48:Int)))==false) (gg (0<=x3_6∧x3_6<(List.length s:Int))<|mark (j19_Zbg nf m6 s x3_6 (decide ((57:Int)<((List.getD s (Int.toNat x3_6) 0).toNat:Int))))) (mark (j19_Zbg nf m6 s x3_6 true))) (mark (j19_Zbg nf m6 s x3_6 true))) (mark (j19_Zbg nf m6 s x3_6 false))):=by
 unfold j17_Zbg j19_Zbg c17_Zbg w25_Zbg c24_Zbg w19_Zbg
 generalize c25_Zbg=x0
 generalize c19_Zbg=x1
 revert x0 x1
 refine id ?_
 intro x0 x1
 kernel_rfl
theorem l6_Zbg_eq(nf:Nat)(m6:Nat)(s:Str)(x3_6:Int):l6_Zbg nf (m6+1) s x3_6=(br (decide (x3_6<(List.length s:Int))) (gg (0<=x3_6∧x3_6<(List.length s:Int))<|br ((decide ((97:Int)<=((List.getD s (Int.toNat x3_6) 0).toNat:Int)))==true) (gg (0<=x3_6∧x3_6<(List.length s:Int))<|mark (j17_Zbg nf m6 s x3_6 (decide (((List.getD s (Int.toNat x3_6) 0).toNat:Int)<=(122:Int))))) (mark (j17_Zbg nf m6 s x3_6 false))) (mark (j25_Zbg nf s))):=by
 unfold l6_Zbg j17_Zbg j25_Zbg c7_Zbg w25_Zbg w17_Zbg c24_Zbg
 generalize c25_Zbg=x0
 generalize c17_Zbg=x1
 revert x0 x1
 refine id ?_
 intro x0 x1
 kernel_rfl
theorem j25_Zbg_eq(nf:Nat)(s:Str):j25_Zbg nf s=(cb (m_ZbA nf (List.length s:Int) (1:Int) (4:Int)) fun r41=>br (r41==true) (br ((!(s==([105,102]:Str)))==true) (some (!(s==([102,111,114]:Str)))) (some false)) (some false)):=by kernel_rfl
theorem m_Zbg_eq(nf:Nat)(s:Str):m_Zbg nf s=(mark (l6_Zbg nf nf s (0:Int))):=by
 unfold m_Zbg l6_Zbg ir_Zbg w25_Zbg
 generalize c25_Zbg=x0
 revert x0
 refine id ?_
 intro x0
 kernel_rfl
noncomputable def e_Zbg(nf:Nat):XE:=eF 72 [.v kS] [.v .bool] (fun t=>m_Zbg nf t.1)
theorem o_Zbg(nf:Nat):conOK Tryz.prog 72 (e_Zbg nf).con:=by
 have ih:XT.ok Tryz.prog (T_Zbg nf):=by exact⟨o_ZbA nf,trivial⟩
 refine eF_ok fun t x h=> ?_
 obtain⟨s,_⟩:=t
 exact runF_ok (N:=50) ih Tryz.func72 (by kernel_rfl) rfl h
def c23_Zbd:C:=.sq (.rg [.mv 4 (.i (-1))]) .rt
def c7_Zbd:C:=.sq (.sq (.rg [.mv 6 T5,.mv 7 T0,.ln 8 false T7,.bi 9 .lss T6 T8]) (.cd T9 .skip (.ex 0))) (.sq (.bk 1 (.sq (.rg [.mv 12 T0,.mv 13 T5,.ia 14 T12 T13 kS,.ld 15 T14 kS,.mv 16 T1,.bi 17 .eql T15 T16]) (.cd T17 (.sq (.rg [.mv 18 T5,.mv 4 T18]) .rt) .skip))) (.rg [.mv 10 T5,.bi 11 .add T10 (.i 1),.mv 5 T11]))
def ir_Zbd:C:=.sq (.rg [.mv 4 (.i 0)]) (.sq (.sq (.rg [.mv 5 (.i 0)]) (.bk 0 (.lk [0,1,5] [] c7_Zbd))) c23_Zbd)
noncomputable abbrev T_Zbd(nf:Nat):XT:=[]
noncomputable def m_Zbd(nf:Nat)(list:List Str)(s:Str):Option (Int):=runF (T_Zbd nf) nf [.v (kL kS),.v kS] [.t 4 (.v kI)] ir_Zbd (list,s,())
noncomputable def X_Zbd{R:Type}(nf:Nat):C->Env->(Xt->Env->Option R)->Option R:=xc (R:=R) (T_Zbd nf).S nf
noncomputable def l6_Zbd(nf:Nat)(m6:Nat)(list:List Str)(s:Str)(x5_6:Int):Option (Int):=xit [0,1,5] [] (X_Zbd nf c7_Zbd) (qB 0 (qS (X_Zbd nf c23_Zbd) (KF [.t 4 (.v kI)]))) m6 ⟨[(0,.v (kL kS) list),(1,.v kS s),(5,.v kI x5_6)],[]⟩
theorem l6_Zbd_eq(nf:Nat)(m6:Nat)(list:List Str)(s:Str)(x5_6:Int):l6_Zbd nf (m6+1) list s x5_6=(br (decide (x5_6<(List.length list:Int))) (gg (0<=x5_6∧x5_6<(List.length list:Int))<|br ((gt list x5_6 ([]:Str))==s) (some x5_6) (mark (l6_Zbd nf m6 list s (w64 (x5_6+(1:Int)))))) (some (-1:Int))):=by kernel_rfl
theorem m_Zbd_eq(nf:Nat)(list:List Str)(s:Str):m_Zbd nf list s=(mark (l6_Zbd nf nf list s (0:Int))):=by kernel_rfl
noncomputable def e_Zbd(nf:Nat):XE:=eF 88 [.v (kL kS),.v kS] [.v kI] (fun t=>m_Zbd nf t.1 t.2.1)
theorem o_Zbd(nf:Nat):conOK Tryz.prog 88 (e_Zbd nf).con:=by
 have ih:XT.ok Tryz.prog (T_Zbd nf):=by exact trivial
 refine eF_ok fun t x h=> ?_
 obtain⟨list,s,_⟩:=t
 exact runF_ok (N:=19) ih Tryz.func88 (by kernel_rfl) rfl h
def c23_ZbK:C:=.sq (.rg [.mv 16 T0,.ln 17 false T16,.cv (some 18) 92 [(T17,.v kI),((.i 1),.v kI),((.i 4),.v kI)],.mv 19 T18,.g 19 true (.mv 20 T0),.g 19 true (.cv (some 21) 75 [(T20,.v (kL kS))]),.pk 22 T19 T21 (.b false),.mv 2 T22]) .rt
def w23_ZbK:C:=.kp [0] [] c23_ZbK
def c7_ZbK:C:=.sq (.sq (.rg [.mv 4 T3,.mv 5 T0,.ln 6 false T5,.bi 7 .lss T4 T6]) (.cd T7 .skip (.ex 0))) (.sq (.bk 1 (.sq (.rg [.mv 10 T0,.mv 11 T3,.ia 12 T10 T11 kS,.ld 13 T12 kS,.cv (some 14) 72 [(T13,.v kS)],.un 15 .not T14]) (.cd T15 (.sq (.rg [.mv 2 (.b false)]) .rt) .skip))) (.rg [.mv 8 T3,.bi 9 .add T8 (.i 1),.mv 3 T9]))
def ir_ZbK:C:=.sq (.rg [.mv 2 (.b false)]) (.sq (.sq (.rg [.mv 3 (.i 0)]) (.bk 0 (.lk [0,3] [] c7_ZbK))) w23_ZbK)
noncomputable abbrev T_ZbK(nf:Nat):XT:=[e_Zbg nf,e_ZbA nf,e_ZaY nf]
noncomputable def m_ZbK(nf:Nat)(list:List Str):Option (Bool):=runF (T_ZbK nf) nf [.v (kL kS)] [.t 2 (.v .bool)] ir_ZbK (list,())
noncomputable def X_ZbK{R:Type}(nf:Nat):C->Env->(Xt->Env->Option R)->Option R:=xc (R:=R) (T_ZbK nf).S nf
noncomputable def l6_ZbK(nf:Nat)(m6:Nat)(list:List Str)(x3_6:Int):Option (Bool):=xit [0,3] [] (X_ZbK nf c7_ZbK) (qB 0 (qS (X_ZbK nf w23_ZbK) (KF [.t 2 (.v .bool)]))) m6 ⟨[(0,.v (kL kS) list),(3,.v kI x3_6)],[]⟩
noncomputable def j23_ZbK(nf:Nat)(list:List Str):Option (Bool):=X_ZbK nf c23_ZbK ⟨[(0,.v (kL kS) list)],[]⟩ (KF [.t 2 (.v .bool)])
theorem l6_ZbK_eq(nf:Nat)(m6:Nat)(list:List Str)(x3_6:Int):l6_ZbK nf (m6+1) list x3_6=(br (decide (x3_6<(List.length list:Int))) (gg (0<=x3_6∧x3_6<(List.length list:Int))<|cb (m_Zbg nf (gt list x3_6 ([]:Str))) fun r14=>br (!r14) (some false) (mark (l6_ZbK nf m6 list (w64 (x3_6+(1:Int)))))) (mark (j23_ZbK nf list))):=by
 unfold l6_ZbK j23_ZbK c7_ZbK w23_ZbK
 generalize c23_ZbK=x0
 revert x0
 refine id ?_
 intro x0
 kernel_rfl
theorem j23_ZbK_eq(nf:Nat)(list:List Str):j23_ZbK nf list=(cb (m_ZbA nf (List.length list:Int) (1:Int) (4:Int)) fun r18=>br (r18==true) (cb (m_ZaY nf list) fun r21=>some r21) (some false)):=by kernel_rfl
theorem m_ZbK_eq(nf:Nat)(list:List Str):m_ZbK nf list=(mark (l6_ZbK nf nf list (0:Int))):=by
 unfold m_ZbK l6_ZbK ir_ZbK w23_ZbK
 generalize c23_ZbK=x0
 revert x0
 refine id ?_
 intro x0
 kernel_rfl
noncomputable def e_ZbK(nf:Nat):XE:=eF 156 [.v (kL kS)] [.v .bool] (fun t=>m_ZbK nf t.1)
theorem o_ZbK(nf:Nat):conOK Tryz.prog 156 (e_ZbK nf).con:=by
 have ih:XT.ok Tryz.prog (T_ZbK nf):=by exact⟨o_Zbg nf,o_ZbA nf,o_ZaY nf,trivial⟩
 refine eF_ok fun t x h=> ?_
 obtain⟨list,_⟩:=t
 exact runF_ok (N:=23) ih Tryz.func156 (by kernel_rfl) rfl h
def c23_ZbI:C:=.sq (.rg [.fa 20 T2 0 0 0,.ld 21 T20 kI,.mv 22 T1,.bi 23 .eql T21 T22,.mv 4 T23]) .rt
def c7_ZbI:C:=.sq (.sq (.rg [.mv 6 T5,.fa 7 T2 0 2 2,.ld 8 T7 (kL (kR 0)),.ln 9 false T8,.bi 10 .lss T6 T9]) (.cd T10 .skip (.ex 0))) (.sq (.bk 1 (.sq (.rg [.fa 13 T2 0 2 2,.ld 14 T13 (kL (kR 0)),.mv 15 T5,.ia 16 T14 T15 (kR 0),.ld 17 T16 (kR 0),.mv 18 T1,.cv (some 19) 90 [(T17,.v (kR 0)),(T18,.v kI)]]) (.cd T19 (.sq (.rg [.mv 4 (.b true)]) .rt) .skip))) (.rg [.mv 11 T5,.bi 12 .add T11 (.i 1),.mv 5 T12]))
def ir_ZbI:C:=.sq (.rg [.bx 2 T0 (kR 0),.mv 4 (.b false)]) (.sq (.sq (.rg [.mv 5 (.i 0)]) (.bk 0 (.lk [1,2,5] [[2]] c7_ZbI))) c23_ZbI)
noncomputable def B_ZbI(nf:Nat):XT:=[]
noncomputable def G_ZbI(nf:Nat):Nat->XT
 |0=>[]
 |kf+1=>[eF 90 [.v (kR 0),.v kI] [.v .bool] (fun t=>(fun(t:Ty) (kind:Int)=>runF (G_ZbI nf kf++B_ZbI nf) nf [.v (kR 0),.v kI] [.t 4 (.v .bool)] ir_ZbI (t,kind,())) t.1 t.2.1)]
noncomputable abbrev T_ZbI(nf kf:Nat):XT:=G_ZbI nf kf++B_ZbI nf
noncomputable def m_ZbI(nf kf:Nat)(t:Ty)(kind:Int):Option (Bool):=runF (T_ZbI nf kf) nf [.v (kR 0),.v kI] [.t 4 (.v .bool)] ir_ZbI (t,kind,())
noncomputable def X_ZbI{R:Type}(nf kf:Nat):C->Env->(Xt->Env->Option R)->Option R:=xc (R:=R) (T_ZbI nf kf).S nf
noncomputable def l6_ZbI(nf kf:Nat)(m6:Nat)(kind:Int)(t:Ty)(x5_6:Int):Option (Bool):=xit [1,2,5] [[2]] (X_ZbI nf kf c7_ZbI) (qB 0 (qS (X_ZbI nf kf c23_ZbI) (KF [.t 4 (.v .bool)]))) m6 ⟨[(1,.v kI kind),(2,.pt [2] 0),(5,.v kI x5_6)],[([2],.box [.v kI t.kind,.v (kL kS) t.labels,.v (kL (kR 0)) t.args])]⟩
theorem l6_ZbI_eq(nf kf:Nat)(m6:Nat)(kind:Int)(t:Ty)(x5_6:Int):l6_ZbI nf (kf+1) (m6+1) kind t x5_6=(br (decide (x5_6<(List.length t.args:Int))) (gg (0<=x5_6∧x5_6<(List.length t.args:Int))<|cb (m_ZbI nf kf (gt t.args x5_6 Ty.zero) kind) fun r19=>br r19 (some true) (mark (l6_ZbI nf (kf+1) m6 kind t (w64 (x5_6+(1:Int)))))) (some (t.kind==kind))):=by kernel_rfl
theorem m_ZbI_eq(nf kf:Nat)(t:Ty)(kind:Int):m_ZbI nf (kf+1) t kind=(mark (l6_ZbI nf (kf+1) nf kind t (0:Int))):=by kernel_rfl
noncomputable def e_ZbI(nf:Nat):XE:=eF 90 [.v (kR 0),.v kI] [.v .bool] (fun t=>m_ZbI nf nf t.1 t.2.1)
theorem gok_ZbI(nf:Nat):∀kf:Nat,XT.ok Tryz.prog (G_ZbI nf kf++B_ZbI nf)
 |0=>by exact trivial
 |kf+1=>by
  have ih:=gok_ZbI nf kf
  refine⟨?_,(by exact trivial)⟩
  ·refine eF_ok fun t x h=> ?_
   obtain⟨t,kind,_⟩:=t
   exact runF_ok (N:=24) ih Tryz.func90 (by kernel_rfl) rfl h
theorem o_ZbI(nf:Nat):conOK Tryz.prog 90 (e_ZbI nf).con:=by
 have ih:=gok_ZbI nf nf
 refine eF_ok fun t x h=> ?_
 obtain⟨t,kind,_⟩:=t
 exact runF_ok (N:=24) ih Tryz.func90 (by kernel_rfl) rfl h
def c19_ZbL:C:=.sq (.rg [.mv 26 T1,.mv 4 T26]) .rt
def c15_ZbL:C:=.sq (.bk 1 (.rg [.fa 19 T2 0 2 2,.ld 20 T19 (kL (kR 0)),.mv 21 T5,.ia 22 T20 T21 (kR 0),.ld 23 T22 (kR 0),.mv 24 T1,.cv (some 25) 128 [(T23,.v (kR 0)),(T24,.v kI)],.mv 1 T25])) (.rg [.mv 17 T5,.bi 18 .add T17 (.i 1),.mv 5 T18])
def c12_ZbL:C:=.cd T16 .skip (.ex 0)
def w12_ZbL:C:=.kp [1,2,5,16] [[2]] c12_ZbL
def c9_ZbL:C:=.sq (.sq (.rg [.mv 8 T5,.fa 9 T2 0 2 2,.ld 10 T9 (kL (kR 0)),.ln 11 false T10,.bi 12 .lss T8 T11,.mv 13 T12,.g 13 true (.mv 14 T1),.g 13 true (.bi 15 .geq T14 (.i 0)),.pk 16 T13 T15 (.b false)]) w12_ZbL) c15_ZbL
def ir_ZbL:C:=.sq (.rg [.bx 2 T0 (kR 0),.mv 4 (.i 0)]) (.sq (.rg [.mv 6 T1,.bi 7 .sub T6 (.i 1),.mv 1 T7]) (.sq (.sq (.rg [.mv 5 (.i 0)]) (.bk 0 (.lk [1,2,5] [[2]] c9_ZbL))) c19_ZbL))
noncomputable def B_ZbL(nf:Nat):XT:=[]
noncomputable def G_ZbL(nf:Nat):Nat->XT
 |0=>[]
 |kf+1=>[eF 128 [.v (kR 0),.v kI] [.v kI] (fun t=>(fun(t:Ty) (left:Int)=>runF (G_ZbL nf kf++B_ZbL nf) nf [.v (kR 0),.v kI] [.t 4 (.v kI)] ir_ZbL (t,left,())) t.1 t.2.1)]
noncomputable abbrev T_ZbL(nf kf:Nat):XT:=G_ZbL nf kf++B_ZbL nf
noncomputable def m_ZbL(nf kf:Nat)(t:Ty)(left:Int):Option (Int):=runF (T_ZbL nf kf) nf [.v (kR 0),.v kI] [.t 4 (.v kI)] ir_ZbL (t,left,())
noncomputable def X_ZbL{R:Type}(nf kf:Nat):C->Env->(Xt->Env->Option R)->Option R:=xc (R:=R) (T_ZbL nf kf).S nf
noncomputable def j12_ZbL(nf kf:Nat)(m8:Nat)(x1_8:Int)(x5_8:Int)(t:Ty)(x16_12:Bool):Option (Int):=X_ZbL nf kf c12_ZbL ⟨[(1,.v kI x1_8),(2,.pt [2] 0),(5,.v kI x5_8),(16,.v .bool x16_12)],[([2],.box [.v kI t.kind,.v (kL kS) t.labels,.v (kL (kR 0)) t.args])]⟩ (qS (X_ZbL nf kf c15_ZbL) (qM [1,2,5] [[2]] (X_ZbL nf kf c9_ZbL) m8 (qB 0 (qS (X_ZbL nf kf c19_ZbL) (KF [.t 4 (.v kI)])))))
noncomputable def l8_ZbL(nf kf:Nat)(m8:Nat)(t:Ty)(x1_8:Int)(x5_8:Int):Option (Int):=xit [1,2,5] [[2]] (X_ZbL nf kf c9_ZbL) (qB 0 (qS (X_ZbL nf kf c19_ZbL) (KF [.t 4 (.v kI)]))) m8 ⟨[(1,.v kI x1_8),(2,.pt [2] 0),(5,.v kI x5_8)],[([2],.box [.v kI t.kind,.v (kL kS) t.labels,.v (kL (kR 0)) t.args])]⟩
theorem j12_ZbL_eq(nf kf:Nat)(m8:Nat)(x1_8:Int)(x5_8:Int)(t:Ty)(x16_12:Bool):j12_ZbL nf (kf+1) m8 x1_8 x5_8 t x16_12=(br x16_12 (gg (0<=x5_8∧x5_8<(List.length t.args:Int))<|cb (m_ZbL nf kf (gt t.args x5_8 Ty.zero) x1_8) fun r25=>mark (l8_ZbL nf (kf+1) m8 t r25 (w64 (x5_8+(1:Int))))) (some x1_8)):=by kernel_rfl
theorem l8_ZbL_eq(nf kf:Nat)(m8:Nat)(t:Ty)(x1_8:Int)(x5_8:Int):l8_ZbL nf (kf+1) (m8+1) t x1_8 x5_8=(br ((decide (x5_8<(List.length t.args:Int)))==true) (mark (j12_ZbL nf (kf+1) m8 x1_8 x5_8 t (decide ((0:Int)<=x1_8)))) (mark (j12_ZbL nf (kf+1) m8 x1_8 x5_8 t false))):=by
 unfold l8_ZbL j12_ZbL c9_ZbL c19_ZbL w12_ZbL c15_ZbL
 generalize c12_ZbL=x0
 revert x0
 refine id ?_
 intro x0
 kernel_rfl
theorem m_ZbL_eq(nf kf:Nat)(t:Ty)(left:Int):m_ZbL nf (kf+1) t left=(mark (l8_ZbL nf (kf+1) nf t (w64 (left-(1:Int))) (0:Int))):=by kernel_rfl
noncomputable def e_ZbL(nf:Nat):XE:=eF 128 [.v (kR 0),.v kI] [.v kI] (fun t=>m_ZbL nf nf t.1 t.2.1)
theorem gok_ZbL(nf:Nat):∀kf:Nat,XT.ok Tryz.prog (G_ZbL nf kf++B_ZbL nf)
 |0=>by exact trivial
 |kf+1=>by
  have ih:=gok_ZbL nf kf
  refine⟨?_,(by exact trivial)⟩
  ·refine eF_ok fun t x h=> ?_
   obtain⟨t,left,_⟩:=t
   exact runF_ok (N:=27) ih Tryz.func128 (by kernel_rfl) rfl h
theorem o_ZbL(nf:Nat):conOK Tryz.prog 128 (e_ZbL nf).con:=by
 have ih:=gok_ZbL nf nf
 refine eF_ok fun t x h=> ?_
 obtain⟨t,left,_⟩:=t
 exact runF_ok (N:=27) ih Tryz.func128 (by kernel_rfl) rfl h
def c19_ZaZ:C:=.sq (.rg [.mv 20 T3,.bi 21 .add T20 (.i 1),.mv 2 T21]) .rt
def c9_ZaZ:C:=.sq (.sq (.rg [.mv 5 T4,.fa 6 T1 0 2 2,.ld 7 T6 (kL (kR 0)),.ln 8 false T7,.bi 9 .lss T5 T8]) (.cd T9 .skip (.ex 0))) (.sq (.bk 1 (.rg [.mv 12 T3,.fa 13 T1 0 2 2,.ld 14 T13 (kL (kR 0)),.mv 15 T4,.ia 16 T14 T15 (kR 0),.ld 17 T16 (kR 0),.cv (some 18) 129 [(T17,.v (kR 0))],.cv (some 19) 155 [(T12,.v kI),(T18,.v kI)],.mv 3 T19])) (.rg [.mv 10 T4,.bi 11 .add T10 (.i 1),.mv 4 T11]))
def ir_ZaZ:C:=.sq (.rg [.bx 1 T0 (kR 0),.mv 2 (.i 0)]) (.sq (.rg [.mv 3 (.i 0)]) (.sq (.sq (.rg [.mv 4 (.i 0)]) (.bk 0 (.lk [1,3,4] [[1]] c9_ZaZ))) c19_ZaZ))
noncomputable def B_ZaZ(nf:Nat):XT:=[e_ZbB nf]
noncomputable def G_ZaZ(nf:Nat):Nat->XT
 |0=>[]
 |kf+1=>[eF 129 [.v (kR 0)] [.v kI] (fun t=>(fun(t:Ty)=>runF (G_ZaZ nf kf++B_ZaZ nf) nf [.v (kR 0)] [.t 2 (.v kI)] ir_ZaZ (t,())) t.1)]
noncomputable abbrev T_ZaZ(nf kf:Nat):XT:=G_ZaZ nf kf++B_ZaZ nf
noncomputable def m_ZaZ(nf kf:Nat)(t:Ty):Option (Int):=runF (T_ZaZ nf kf) nf [.v (kR 0)] [.t 2 (.v kI)] ir_ZaZ (t,())
noncomputable def X_ZaZ{R:Type}(nf kf:Nat):C->Env->(Xt->Env->Option R)->Option R:=xc (R:=R) (T_ZaZ nf kf).S nf
noncomputable def l8_ZaZ(nf kf:Nat)(m8:Nat)(t:Ty)(x3_8:Int)(x4_8:Int):Option (Int):=xit [1,3,4] [[1]] (X_ZaZ nf kf c9_ZaZ) (qB 0 (qS (X_ZaZ nf kf c19_ZaZ) (KF [.t 2 (.v kI)]))) m8 ⟨[(1,.pt [1] 0),(3,.v kI x3_8),(4,.v kI x4_8)],[([1],.box [.v kI t.kind,.v (kL kS) t.labels,.v (kL (kR 0)) t.args])]⟩
theorem l8_ZaZ_eq(nf kf:Nat)(m8:Nat)(t:Ty)(x3_8:Int)(x4_8:Int):l8_ZaZ nf (kf+1) (m8+1) t x3_8 x4_8=(br (decide (x4_8<(List.length t.args:Int))) (gg (0<=x4_8∧x4_8<(List.length t.args:Int))<|cb (m_ZaZ nf kf (gt t.args x4_8 Ty.zero)) fun r18=>cb (m_ZbB nf x3_8 r18) fun r19=>mark (l8_ZaZ nf (kf+1) m8 t r19 (w64 (x4_8+(1:Int))))) (some (w64 (x3_8+(1:Int))))):=by kernel_rfl
theorem m_ZaZ_eq(nf kf:Nat)(t:Ty):m_ZaZ nf (kf+1) t=(mark (l8_ZaZ nf (kf+1) nf t (0:Int) (0:Int))):=by kernel_rfl
noncomputable def e_ZaZ(nf:Nat):XE:=eF 129 [.v (kR 0)] [.v kI] (fun t=>m_ZaZ nf nf t.1)
theorem gok_ZaZ(nf:Nat):∀kf:Nat,XT.ok Tryz.prog (G_ZaZ nf kf++B_ZaZ nf)
 |0=>by exact⟨o_ZbB nf,trivial⟩
 |kf+1=>by
  have ih:=gok_ZaZ nf kf
  refine⟨?_,(by exact⟨o_ZbB nf,trivial⟩)⟩
  ·refine eF_ok fun t x h=> ?_
   obtain⟨t,_⟩:=t
   exact runF_ok (N:=22) ih Tryz.func129 (by kernel_rfl) rfl h
theorem o_ZaZ(nf:Nat):conOK Tryz.prog 129 (e_ZaZ nf).con:=by
 have ih:=gok_ZaZ nf nf
 refine eF_ok fun t x h=> ?_
 obtain⟨t,_⟩:=t
 exact runF_ok (N:=22) ih Tryz.func129 (by kernel_rfl) rfl h
def c62_ZbG:C:=.sq (.rg [.fa 64 T1 0 1 1,.ld 65 T64 (kL kS),.ln 66 false T65,.bi 67 .eql T66 (.i 0),.mv 68 T67,.g 68 true (.fa 69 T1 0 2 2),.g 68 true (.ld 70 T69 (kL (kR 0))),.g 68 true (.ln 71 false T70),.g 68 true (.mv 72 T4),.g 68 true (.bi 73 .eql T71 T72),.pk 74 T68 T73 (.b false),.mv 2 T74]) .rt
def w62_ZbG:C:=.kp [1,4] [[1]] c62_ZbG
def c51_ZbG:C:=.cd T57 (.rg [.mv 4 (.i 0)]) (.sq (.rg [.bi 61 .eql T56 (.i 4),.mv 60 T61]) (.cd T60 (.rg [.mv 4 (.i 1)]) (.sq (.rg [.bi 63 .eql T56 (.i 5),.mv 62 T63]) (.cd T62 (.rg [.mv 4 (.i 2)]) .skip))))
def w51_ZbG:C:=.kp [1,4,56,57] [[1]] c51_ZbG
def c39_ZbG:C:=.sq (.rg [.mv 4 (.i (-1))]) (.sq (.sq (.rg [.fa 55 T1 0 0 0,.ld 56 T55 kI]) (.bk 2 (.sq (.sq (.rg [.bi 58 .eql T56 (.i 1),.mv 57 T58]) (.cd T57 .skip (.rg [.bi 59 .eql T56 (.i 2),.mv 57 T59]))) w51_ZbG))) w62_ZbG)
def c34_ZbG:C:=.cd T54 (.sq (.rg [.mv 2 (.b false)]) .rt) .skip
def w34_ZbG:C:=.kp [1,54] [[1]] c34_ZbG
def c31_ZbG:C:=.sq (.sq (.rg [.fa 39 T1 0 0 0,.ld 40 T39 kI,.bi 41 .eql T40 (.i 4),.mv 42 T41,.g 42 true (.fa 43 T1 0 2 2),.g 42 true (.ld 44 T43 (kL (kR 0))),.g 42 true (.ln 45 false T44),.g 42 true (.bi 46 .eql T45 (.i 1)),.pk 47 T42 T46 (.b false),.mv 48 T47,.g 48 true (.fa 49 T1 0 2 2),.g 48 true (.ld 50 T49 (kL (kR 0))),.g 48 true (.ia 51 T50 (.i 0) (kR 0)),.g 48 true (.ld 52 T51 (kR 0)),.g 48 true (.cv (some 53) 90 [(T52,.v (kR 0)),((.i 5),.v kI)]),.pk 54 T48 T53 (.b false)]) w34_ZbG) c39_ZbG
def c29_ZbG:C:=.rt
def w29_ZbG:C:=.kp [2] [] c29_ZbG
def c23_ZbG:C:=.sq (.sq (.rg [.fa 19 T1 0 0 0,.ld 20 T19 kI,.bi 21 .eql T20 (.i 3)]) (.cd T21 (.sq (.rg [.fa 22 T1 0 2 2,.ld 23 T22 (kL (kR 0)),.ln 24 false T23,.fa 25 T1 0 1 1,.ld 26 T25 (kL kS),.ln 27 false T26,.bi 28 .eql T24 T27,.mv 29 T28,.g 29 true (.fa 30 T1 0 1 1),.g 29 true (.ld 31 T30 (kL kS)),.g 29 true (.cv (some 32) 156 [(T31,.v (kL kS))]),.pk 33 T29 T32 (.b false),.mv 34 T33,.g 34 true (.ld 35 T1 (kR 0)),.g 34 true (.cv (some 36) 90 [(T35,.v (kR 0)),((.i 5),.v kI)]),.g 34 true (.un 37 .not T36),.pk 38 T34 T37 (.b false),.mv 2 T38]) w29_ZbG) .skip)) c31_ZbG
def w23_ZbG:C:=.kp [1] [[1]] c23_ZbG
def c7_ZbG:C:=.sq (.sq (.rg [.mv 5 T3,.fa 6 T1 0 2 2,.ld 7 T6 (kL (kR 0)),.ln 8 false T7,.bi 9 .lss T5 T8]) (.cd T9 .skip (.ex 0))) (.sq (.bk 1 (.sq (.rg [.fa 12 T1 0 2 2,.ld 13 T12 (kL (kR 0)),.mv 14 T3,.ia 15 T13 T14 (kR 0),.ld 16 T15 (kR 0),.cv (some 17) 130 [(T16,.v (kR 0))],.un 18 .not T17]) (.cd T18 (.sq (.rg [.mv 2 (.b false)]) .rt) .skip))) (.rg [.mv 10 T3,.bi 11 .add T10 (.i 1),.mv 3 T11]))
def ir_ZbG:C:=.sq (.rg [.bx 1 T0 (kR 0),.mv 2 (.b false)]) (.sq (.sq (.rg [.mv 3 (.i 0)]) (.bk 0 (.lk [1,3] [[1]] c7_ZbG))) w23_ZbG)
noncomputable def B_ZbG(nf:Nat):XT:=[e_ZbK nf,e_ZbI nf]
noncomputable def G_ZbG(nf:Nat):Nat->XT
 |0=>[]
 |kf+1=>[eF 130 [.v (kR 0)] [.v .bool] (fun t=>(fun(t:Ty)=>runF (G_ZbG nf kf++B_ZbG nf) nf [.v (kR 0)] [.t 2 (.v .bool)] ir_ZbG (t,())) t.1)]
noncomputable abbrev T_ZbG(nf kf:Nat):XT:=G_ZbG nf kf++B_ZbG nf
noncomputable def m_ZbG(nf kf:Nat)(t:Ty):Option (Bool):=runF (T_ZbG nf kf) nf [.v (kR 0)] [.t 2 (.v .bool)] ir_ZbG (t,())
noncomputable def X_ZbG{R:Type}(nf kf:Nat):C->Env->(Xt->Env->Option R)->Option R:=xc (R:=R) (T_ZbG nf kf).S nf
noncomputable def l6_ZbG(nf kf:Nat)(m6:Nat)(t:Ty)(x3_6:Int):Option (Bool):=xit [1,3] [[1]] (X_ZbG nf kf c7_ZbG) (qB 0 (qS (X_ZbG nf kf w23_ZbG) (KF [.t 2 (.v .bool)]))) m6 ⟨[(1,.pt [1] 0),(3,.v kI x3_6)],[([1],.box [.v kI t.kind,.v (kL kS) t.labels,.v (kL (kR 0)) t.args])]⟩
noncomputable def j29_ZbG(nf kf:Nat)(x2_29:Bool):Option (Bool):=X_ZbG nf kf c29_ZbG ⟨[(2,.v .bool x2_29)],[]⟩ (qS (X_ZbG nf kf c31_ZbG) (KF [.t 2 (.v .bool)]))
noncomputable def j34_ZbG(nf kf:Nat)(t:Ty)(x54_34:Bool):Option (Bool):=X_ZbG nf kf c34_ZbG ⟨[(1,.pt [1] 0),(54,.v .bool x54_34)],[([1],.box [.v kI t.kind,.v (kL kS) t.labels,.v (kL (kR 0)) t.args])]⟩ (qS (X_ZbG nf kf c39_ZbG) (KF [.t 2 (.v .bool)]))
noncomputable def j51_ZbG(nf kf:Nat)(t:Ty)(x57_51:Bool):Option (Bool):=X_ZbG nf kf c51_ZbG ⟨[(1,.pt [1] 0),(4,.v kI (-1:Int)),(56,.v kI t.kind),(57,.v .bool x57_51)],[([1],.box [.v kI t.kind,.v (kL kS) t.labels,.v (kL (kR 0)) t.args])]⟩ (qB 2 (qS (X_ZbG nf kf w62_ZbG) (KF [.t 2 (.v .bool)])))
noncomputable def j62_ZbG(nf kf:Nat)(t:Ty)(x4_62:Int):Option (Bool):=X_ZbG nf kf c62_ZbG ⟨[(1,.pt [1] 0),(4,.v kI x4_62)],[([1],.box [.v kI t.kind,.v (kL kS) t.labels,.v (kL (kR 0)) t.args])]⟩ (KF [.t 2 (.v .bool)])
noncomputable def j23_ZbG(nf kf:Nat)(t:Ty):Option (Bool):=X_ZbG nf kf c23_ZbG ⟨[(1,.pt [1] 0)],[([1],.box [.v kI t.kind,.v (kL kS) t.labels,.v (kL (kR 0)) t.args])]⟩ (KF [.t 2 (.v .bool)])
theorem l6_ZbG_eq(nf kf:Nat)(m6:Nat)(t:Ty)(x3_6:Int):l6_ZbG nf (kf+1) (m6+1) t x3_6=(br (decide (x3_6<(List.length t.args:Int))) (gg (0<=x3_6∧x3_6<(List.length t.args:Int))<|cb (m_ZbG nf kf (gt t.args x3_6 Ty.zero)) fun r17=>br (!r17) (some false) (mark (l6_ZbG nf (kf+1) m6 t (w64 (x3_6+(1:Int)))))) (mark (j23_ZbG nf (kf+1) t))):=by
 unfold l6_ZbG j23_ZbG c7_ZbG w23_ZbG
 generalize c23_ZbG=x0
 revert x0
 refine id ?_
 intro x0
 kernel_rfl
theorem j29_ZbG_eq(nf kf:Nat)(x2_29:Bool):j29_ZbG nf (kf+1) x2_29=(some x2_29):=by
 unfold j29_ZbG c29_ZbG c31_ZbG w34_ZbG c39_ZbG w51_ZbG w62_ZbG
 generalize c34_ZbG=x0
 generalize c51_ZbG=x1
 generalize c62_ZbG=x2
 revert x0 x1 x2
 refine id ?_
 intro x0 x1 x2
 kernel_rfl
theorem j34_ZbG_eq(nf kf:Nat)(t:Ty)(x54_34:Bool):j34_ZbG nf (kf+1) t x54_34=(br x54_34 (some false) (br (t.kind==(1:Int)) (mark (j51_ZbG nf (kf+1) t (t.kind==(1:Int)))) (mark (j51_ZbG nf (kf+1) t (t.kind==(2:Int)))))):=by
 unfold j34_ZbG j51_ZbG c34_ZbG c39_ZbG w51_ZbG w62_ZbG
 generalize c51_ZbG=x0
 generalize c62_ZbG=x1
 revert x0 x1
 refine id ?_
 intro x0 x1
 kernel_rfl
theorem j51_ZbG_eq(nf kf:Nat)(t:Ty)(x57_51:Bool):j51_ZbG nf (kf+1) t x57_51=(br x57_51 (mark (j62_ZbG nf (kf+1) t (0:Int))) (br (t.kind==(4:Int)) (mark (j62_ZbG nf (kf+1) t (1:Int))) (br (t.kind==(5:Int)) (mark (j62_ZbG nf (kf+1) t (2:Int))) (mark (j62_ZbG nf (kf+1) t (-1:Int)))))):=by
 unfold j51_ZbG j62_ZbG c51_ZbG w62_ZbG
 generalize c62_ZbG=x0
 revert x0
 refine id ?_
 intro x0
 kernel_rfl
theorem j62_ZbG_eq(nf kf:Nat)(t:Ty)(x4_62:Int):j62_ZbG nf (kf+1) t x4_62=(br (((List.length t.labels:Int)==(0:Int))==true) (some ((List.length t.args:Int)==x4_62)) (some false)):=by kernel_rfl
theorem j23_ZbG_eq(nf kf:Nat)(t:Ty):j23_ZbG nf (kf+1) t=(br (t.kind==(3:Int)) (br (((List.length t.args:Int)==(List.length t.labels:Int))==true) (cb (m_ZbK nf t.labels) fun r32=>br (r32==true) (cb (m_ZbI nf nf (Ty.h t) (5:Int)) fun r36=>mark (j29_ZbG nf (kf+1) (!r36))) (mark (j29_ZbG nf (kf+1) false))) (mark (j29_ZbG nf (kf+1) false))) (br ((t.kind==(4:Int))==true) (br (((List.length t.args:Int)==(1:Int))==true) (gg (0<=(0:Int)∧(0:Int)<(List.length t.args:Int))<|cb (m_ZbI nf nf (gt t.args (0:Int) Ty.zero) (5:Int)) fun r53=>mark (j34_ZbG nf (kf+1) t r53)) (mark (j34_ZbG nf (kf+1) t false))) (mark (j34_ZbG nf (kf+1) t false)))):=by
 unfold j23_ZbG j29_ZbG j34_ZbG c23_ZbG w29_ZbG c31_ZbG w34_ZbG c39_ZbG w51_ZbG w62_ZbG
 generalize c29_ZbG=x0
 generalize c34_ZbG=x1
 generalize c51_ZbG=x2
 generalize c62_ZbG=x3
 revert x0 x1 x2 x3
 refine id ?_
 intro x0 x1 x2 x3
 kernel_rfl
theorem m_ZbG_eq(nf kf:Nat)(t:Ty):m_ZbG nf (kf+1) t=(mark (l6_ZbG nf (kf+1) nf t (0:Int))):=by
 unfold m_ZbG l6_ZbG ir_ZbG w23_ZbG
 generalize c23_ZbG=x0
 revert x0
 refine id ?_
 intro x0
 kernel_rfl
noncomputable def e_ZbG(nf:Nat):XE:=eF 130 [.v (kR 0)] [.v .bool] (fun t=>m_ZbG nf nf t.1)
theorem gok_ZbG(nf:Nat):∀kf:Nat,XT.ok Tryz.prog (G_ZbG nf kf++B_ZbG nf)
 |0=>by exact⟨o_ZbK nf,o_ZbI nf,trivial⟩
 |kf+1=>by
  have ih:=gok_ZbG nf kf
  refine⟨?_,(by exact⟨o_ZbK nf,o_ZbI nf,trivial⟩)⟩
  ·refine eF_ok fun t x h=> ?_
   obtain⟨t,_⟩:=t
   exact runF_ok (N:=75) ih Tryz.func130 (by kernel_rfl) rfl h
theorem o_ZbG(nf:Nat):conOK Tryz.prog 130 (e_ZbG nf).con:=by
 have ih:=gok_ZbG nf nf
 refine eF_ok fun t x h=> ?_
 obtain⟨t,_⟩:=t
 exact runF_ok (N:=75) ih Tryz.func130 (by kernel_rfl) rfl h
def ir_Zbk:C:=.sq (.rg [.bx 1 T0 (kR 0),.mv 2 (.b false)]) (.sq (.rg [.ld 3 T1 (kR 0),.cv (some 4) 128 [(T3,.v (kR 0)),((.i 24),.v kI)],.bi 5 .geq T4 (.i 0),.mv 6 T5,.g 6 true (.ld 7 T1 (kR 0)),.g 6 true (.cv (some 8) 129 [(T7,.v (kR 0))]),.g 6 true (.bi 9 .leq T8 (.i 7)),.pk 10 T6 T9 (.b false),.mv 11 T10,.g 11 true (.ld 12 T1 (kR 0)),.g 11 true (.cv (some 13) 130 [(T12,.v (kR 0))]),.pk 14 T11 T13 (.b false),.mv 2 T14]) .rt)
noncomputable abbrev T_Zbk(nf:Nat):XT:=[e_ZbL nf,e_ZaZ nf,e_ZbG nf]
noncomputable def m_Zbk(nf:Nat)(t:Ty):Option (Bool):=runF (T_Zbk nf) nf [.v (kR 0)] [.t 2 (.v .bool)] ir_Zbk (t,())
theorem m_Zbk_eq(nf:Nat)(t:Ty):m_Zbk nf t=(cb (m_ZbL nf nf (Ty.h t) (24:Int)) fun r4=>br ((decide ((0:Int)<=r4))==true) (cb (m_ZaZ nf nf (Ty.h t)) fun r8=>br ((decide (r8<=(7:Int)))==true) (cb (m_ZbG nf nf (Ty.h t)) fun r13=>some r13) (some false)) (some false)):=by kernel_rfl
noncomputable def e_Zbk(nf:Nat):XE:=eF 87 [.v (kR 0)] [.v .bool] (fun t=>m_Zbk nf t.1)
theorem o_Zbk(nf:Nat):conOK Tryz.prog 87 (e_Zbk nf).con:=by
 have ih:XT.ok Tryz.prog (T_Zbk nf):=by exact⟨o_ZbL nf,o_ZaZ nf,o_ZbG nf,trivial⟩
 refine eF_ok fun t x h=> ?_
 obtain⟨t,_⟩:=t
 exact runF_ok (N:=15) ih Tryz.func87 (by kernel_rfl) rfl h
def ir_Zbf:C:=.sq (.rg [.bx 1 T0 (kR 0),.mv 2 (.b false)]) (.sq (.rg [.ld 3 T1 (kR 0),.cv (some 4) 87 [(T3,.v (kR 0))],.mv 5 T4,.g 5 true (.ld 6 T1 (kR 0)),.g 5 true (.cv (some 7) 90 [(T6,.v (kR 0)),((.i 5),.v kI)]),.g 5 true (.un 8 .not T7),.pk 9 T5 T8 (.b false),.mv 2 T9]) .rt)
noncomputable abbrev T_Zbf(nf:Nat):XT:=[e_Zbk nf,e_ZbI nf]
noncomputable def m_Zbf(nf:Nat)(t:Ty):Option (Bool):=runF (T_Zbf nf) nf [.v (kR 0)] [.t 2 (.v .bool)] ir_Zbf (t,())
theorem m_Zbf_eq(nf:Nat)(t:Ty):m_Zbf nf t=(cb (m_Zbk nf (Ty.h t)) fun r4=>br (r4==true) (cb (m_ZbI nf nf (Ty.h t) (5:Int)) fun r7=>some (!r7)) (some false)):=by kernel_rfl
noncomputable def e_Zbf(nf:Nat):XE:=eF 51 [.v (kR 0)] [.v .bool] (fun t=>m_Zbf nf t.1)
theorem o_Zbf(nf:Nat):conOK Tryz.prog 51 (e_Zbf nf).con:=by
 have ih:XT.ok Tryz.prog (T_Zbf nf):=by exact⟨o_Zbk nf,o_ZbI nf,trivial⟩
 refine eF_ok fun t x h=> ?_
 obtain⟨t,_⟩:=t
 exact runF_ok (N:=10) ih Tryz.func51 (by kernel_rfl) rfl h
def ir_ZbD:C:=.sq (.rg [.bx 1 T0 (kR 0),.mv 2 (.b false)]) (.sq (.rg [.fa 3 T1 0 0 0,.ld 4 T3 kI,.bi 5 .eql T4 (.i 1),.mv 6 T5,.g 6 false (.fa 7 T1 0 0 0),.g 6 false (.ld 8 T7 kI),.g 6 false (.bi 9 .eql T8 (.i 2)),.pk 10 T6 (.b true) T9,.mv 2 T10]) .rt)
noncomputable abbrev T_ZbD(nf:Nat):XT:=[]
noncomputable def m_ZbD(nf:Nat)(t:Ty):Option (Bool):=runF (T_ZbD nf) nf [.v (kR 0)] [.t 2 (.v .bool)] ir_ZbD (t,())
theorem m_ZbD_eq(nf:Nat)(t:Ty):m_ZbD nf t=(br ((t.kind==(1:Int))==false) (some (t.kind==(2:Int))) (some true)):=by kernel_rfl
noncomputable def e_ZbD(nf:Nat):XE:=eF 113 [.v (kR 0)] [.v .bool] (fun t=>m_ZbD nf t.1)
theorem o_ZbD(nf:Nat):conOK Tryz.prog 113 (e_ZbD nf).con:=by
 have ih:XT.ok Tryz.prog (T_ZbD nf):=by exact trivial
 refine eF_ok fun t x h=> ?_
 obtain⟨t,_⟩:=t
 exact runF_ok (N:=11) ih Tryz.func113 (by kernel_rfl) rfl h
def c31_Zbi:C:=.sq (.rg [.mv 2 (.b true)]) .rt
def c15_Zbi:C:=.sq (.sq (.rg [.mv 12 T3,.fa 13 T1 0 2 2,.ld 14 T13 (kL (kR 0)),.ln 15 false T14,.bi 16 .lss T12 T15]) (.cd T16 .skip (.ex 0))) (.sq (.bk 1 (.sq (.rg [.fa 19 T1 0 2 2,.ld 20 T19 (kL (kR 0)),.mv 21 T3,.ia 22 T20 T21 (kR 0),.ld 23 T22 (kR 0),.cv (some 24) 113 [(T23,.v (kR 0))],.un 25 .not T24]) (.cd T25 (.sq (.rg [.mv 2 (.b false)]) .rt) .skip))) (.rg [.mv 17 T3,.bi 18 .add T17 (.i 1),.mv 3 T18]))
def c10_Zbi:C:=.sq (.sq (.rg [.mv 3 (.i 0)]) (.bk 0 (.lk [1,3] [[1]] c15_Zbi))) c31_Zbi
def c5_Zbi:C:=.cd T11 (.sq (.rg [.mv 2 (.b false)]) .rt) .skip
def w5_Zbi:C:=.kp [1,11] [[1]] c5_Zbi
def ir_Zbi:C:=.sq (.rg [.bx 1 T0 (kR 0),.mv 2 (.b false)]) (.sq (.sq (.rg [.ld 4 T1 (kR 0),.cv (some 5) 87 [(T4,.v (kR 0))],.un 6 .not T5,.mv 7 T6,.g 7 false (.fa 8 T1 0 0 0),.g 7 false (.ld 9 T8 kI),.g 7 false (.bi 10 .neq T9 (.i 3)),.pk 11 T7 (.b true) T10]) w5_Zbi) c10_Zbi)
noncomputable abbrev T_Zbi(nf:Nat):XT:=[e_Zbk nf,e_ZbD nf]
noncomputable def m_Zbi(nf:Nat)(t:Ty):Option (Bool):=runF (T_Zbi nf) nf [.v (kR 0)] [.t 2 (.v .bool)] ir_Zbi (t,())
noncomputable def X_Zbi{R:Type}(nf:Nat):C->Env->(Xt->Env->Option R)->Option R:=xc (R:=R) (T_Zbi nf).S nf
noncomputable def j5_Zbi(nf:Nat)(t:Ty)(x11_5:Bool):Option (Bool):=X_Zbi nf c5_Zbi ⟨[(1,.pt [1] 0),(11,.v .bool x11_5)],[([1],.box [.v kI t.kind,.v (kL kS) t.labels,.v (kL (kR 0)) t.args])]⟩ (qS (X_Zbi nf c10_Zbi) (KF [.t 2 (.v .bool)]))
noncomputable def l14_Zbi(nf:Nat)(m14:Nat)(t:Ty)(x3_14:Int):Option (Bool):=xit [1,3] [[1]] (X_Zbi nf c15_Zbi) (qB 0 (qS (X_Zbi nf c31_Zbi) (KF [.t 2 (.v .bool)]))) m14 ⟨[(1,.pt [1] 0),(3,.v kI x3_14)],[([1],.box [.v kI t.kind,.v (kL kS) t.labels,.v (kL (kR 0)) t.args])]⟩
theorem j5_Zbi_eq(nf:Nat)(t:Ty)(x11_5:Bool):j5_Zbi nf t x11_5=(br x11_5 (some false) (mark (l14_Zbi nf nf t (0:Int)))):=by kernel_rfl
theorem l14_Zbi_eq(nf:Nat)(m14:Nat)(t:Ty)(x3_14:Int):l14_Zbi nf (m14+1) t x3_14=(br (decide (x3_14<(List.length t.args:Int))) (gg (0<=x3_14∧x3_14<(List.length t.args:Int))<|cb (m_ZbD nf (gt t.args x3_14 Ty.zero)) fun r24=>br (!r24) (some false) (mark (l14_Zbi nf m14 t (w64 (x3_14+(1:Int)))))) (some true)):=by kernel_rfl
theorem m_Zbi_eq(nf:Nat)(t:Ty):m_Zbi nf t=(cb (m_Zbk nf (Ty.h t)) fun r5=>br ((!r5)==false) (mark (j5_Zbi nf t (!(t.kind==(3:Int))))) (mark (j5_Zbi nf t true))):=by
 unfold m_Zbi j5_Zbi ir_Zbi w5_Zbi c10_Zbi c31_Zbi
 generalize c5_Zbi=x0
 revert x0
 refine id ?_
 intro x0
 kernel_rfl
noncomputable def e_Zbi(nf:Nat):XE:=eF 74 [.v (kR 0)] [.v .bool] (fun t=>m_Zbi nf t.1)
theorem o_Zbi(nf:Nat):conOK Tryz.prog 74 (e_Zbi nf).con:=by
 have ih:XT.ok Tryz.prog (T_Zbi nf):=by exact⟨o_Zbk nf,o_ZbD nf,trivial⟩
 refine eF_ok fun t x h=> ?_
 obtain⟨t,_⟩:=t
 exact runF_ok (N:=26) ih Tryz.func74 (by kernel_rfl) rfl h
def c27_Zbj:C:=.sq (.rg [.mv 40 T3,.ln 41 false T40,.bi 42 .leq T41 (.i 4),.mv 43 T42,.g 43 true (.mv 44 T3),.g 43 true (.cv (some 45) 75 [(T44,.v (kL kS))]),.pk 46 T43 T45 (.b false),.mv 2 T46]) .rt
def w27_Zbj:C:=.kp [3] [[3]] c27_Zbj
def c26_Zbj:C:=.rg [.mv 11 T4,.bi 12 .add T11 (.i 1),.mv 4 T12]
def c25_Zbj:C:=.gt 3 true kS (.rg [.mv 31 T3,.fa 32 T1 5 0 0,.ld 33 T32 (kL (kR 4)),.mv 34 T4,.ia 35 T33 T34 (kR 4),.fa 36 T35 4 0 0,.ld 37 T36 kS,.bs 38 true kS [T37],.ap 39 [3] true kS T31 T38,.mv 3 T39])
def c20_Zbj:C:=.cd T30 (.sq (.rg [.mv 2 (.b false)]) .rt) .skip
def w20_Zbj:C:=.kp [1,3,4,30] [[1],[3]] c20_Zbj
def c9_Zbj:C:=.sq (.sq (.rg [.mv 6 T4,.fa 7 T1 5 0 0,.ld 8 T7 (kL (kR 4)),.ln 9 false T8,.bi 10 .lss T6 T9]) (.cd T10 .skip (.ex 0))) (.sq (.bk 1 (.sq (.sq (.rg [.fa 13 T1 5 0 0,.ld 14 T13 (kL (kR 4)),.mv 15 T4,.ia 16 T14 T15 (kR 4),.fa 17 T16 4 0 0,.ld 18 T17 kS,.cv (some 19) 72 [(T18,.v kS)],.un 20 .not T19,.mv 21 T20,.g 21 false (.fa 22 T1 5 0 0),.g 21 false (.ld 23 T22 (kL (kR 4))),.g 21 false (.mv 24 T4),.g 21 false (.ia 25 T23 T24 (kR 4)),.g 21 false (.fa 26 T25 4 1 1),.g 21 false (.ld 27 T26 (kR 0)),.g 21 false (.cv (some 28) 74 [(T27,.v (kR 0))]),.g 21 false (.un 29 .not T28),.pk 30 T21 (.b true) T29]) w20_Zbj) c25_Zbj)) c26_Zbj)
def ir_Zbj:C:=.sq (.rg [.bx 1 T0 (kR 5),.mv 2 (.b false)]) (.sq (.rg [.bs 5 true kS [],.mv 3 T5]) (.sq (.sq (.rg [.mv 4 (.i 0)]) (.bk 0 (.gt 3 true kS (.lk [1,3,4] [[1],[3]] c9_Zbj)))) w27_Zbj))
noncomputable abbrev T_Zbj(nf:Nat):XT:=[e_Zbg nf,e_Zbi nf,e_ZaY nf]
noncomputable def m_Zbj(nf:Nat)(s:Schema):Option (Bool):=runF (T_Zbj nf) nf [.v (kR 5)] [.t 2 (.v .bool)] ir_Zbj (s,())
noncomputable def X_Zbj{R:Type}(nf:Nat):C->Env->(Xt->Env->Option R)->Option R:=xc (R:=R) (T_Zbj nf).S nf
noncomputable def j20_Zbj(nf:Nat)(m8:Nat)(x4_8:Int)(s:Schema)(y3_8:List Str)(x30_20:Bool):Option (Bool):=X_Zbj nf c20_Zbj ⟨[(1,.pt [1] 0),(3,.sl [3]),(4,.v kI x4_8),(30,.v .bool x30_20)],[([1],.box [.v (kL (kR 4)) s.tables]),([3],.row true false kS y3_8)]⟩ (qS (X_Zbj nf c25_Zbj) (qB 1 (qS (X_Zbj nf c26_Zbj) (qM [1,3,4] [[1],[3]] (X_Zbj nf c9_Zbj) m8 (qB 0 (qS (X_Zbj nf w27_Zbj) (KF [.t 2 (.v .bool)])))))))
noncomputable def l8_Zbj(nf:Nat)(m8:Nat)(s:Schema)(x4_8:Int)(y3_8:List Str):Option (Bool):=xit [1,3,4] [[1],[3]] (X_Zbj nf c9_Zbj) (qB 0 (qS (X_Zbj nf w27_Zbj) (KF [.t 2 (.v .bool)]))) m8 ⟨[(1,.pt [1] 0),(3,.sl [3]),(4,.v kI x4_8)],[([1],.box [.v (kL (kR 4)) s.tables]),([3],.row true false kS y3_8)]⟩
noncomputable def j27_Zbj(nf:Nat)(y3_8:List Str):Option (Bool):=X_Zbj nf c27_Zbj ⟨[(3,.sl [3])],[([3],.row true false kS y3_8)]⟩ (KF [.t 2 (.v .bool)])
theorem j20_Zbj_eq(nf:Nat)(m8:Nat)(x4_8:Int)(s:Schema)(y3_8:List Str)(x30_20:Bool):j20_Zbj nf m8 x4_8 s y3_8 x30_20=(br x30_20 (some false) (gg (0<=x4_8∧x4_8<(List.length s.tables:Int))<|gg (List.length y3_8+List.length ([((gt s.tables x4_8 TDecl.zero).name)]:List Str)<=33554432)<|mark (l8_Zbj nf m8 s (w64 (x4_8+(1:Int))) (y3_8++([((gt s.tables x4_8 TDecl.zero).name)]:List Str))))):=by
 unfold j20_Zbj l8_Zbj c20_Zbj w27_Zbj c26_Zbj c25_Zbj
 generalize c27_Zbj=x0
 revert x0
 refine id ?_
 intro x0
 kernel_rfl
theorem l8_Zbj_eq(nf:Nat)(m8:Nat)(s:Schema)(x4_8:Int)(y3_8:List Str):l8_Zbj nf (m8+1) s x4_8 y3_8=(br (decide (x4_8<(List.length s.tables:Int))) (gg (0<=x4_8∧x4_8<(List.length s.tables:Int))<|cb (m_Zbg nf ((gt s.tables x4_8 TDecl.zero).name)) fun r19=>br ((!r19)==false) (gg (0<=x4_8∧x4_8<(List.length s.tables:Int))<|cb (m_Zbi nf ((gt s.tables x4_8 TDecl.zero).row)) fun r28=>mark (j20_Zbj nf m8 x4_8 s y3_8 (!r28))) (mark (j20_Zbj nf m8 x4_8 s y3_8 true))) (mark (j27_Zbj nf y3_8))):=by
 unfold l8_Zbj j20_Zbj j27_Zbj c9_Zbj w27_Zbj w20_Zbj c25_Zbj c26_Zbj
 generalize c27_Zbj=x0
 generalize c20_Zbj=x1
 revert x0 x1
 refine id ?_
 intro x0 x1
 kernel_rfl
theorem j27_Zbj_eq(nf:Nat)(y3_8:List Str):j27_Zbj nf y3_8=(br ((decide ((List.length y3_8:Int)<=(4:Int)))==true) (cb (m_ZaY nf y3_8) fun r45=>some r45) (some false)):=by kernel_rfl
theorem m_Zbj_eq(nf:Nat)(s:Schema):m_Zbj nf s=(mark (l8_Zbj nf nf s (0:Int) ([]:List Str))):=by
 unfold m_Zbj l8_Zbj ir_Zbj w27_Zbj
 generalize c27_Zbj=x0
 revert x0
 refine id ?_
 intro x0
 kernel_rfl
noncomputable def e_Zbj(nf:Nat):XE:=eF 33 [.v (kR 5)] [.v .bool] (fun t=>m_Zbj nf t.1)
theorem o_Zbj(nf:Nat):conOK Tryz.prog 33 (e_Zbj nf).con:=by
 have ih:XT.ok Tryz.prog (T_Zbj nf):=by exact⟨o_Zbg nf,o_Zbi nf,o_ZaY nf,trivial⟩
 refine eF_ok fun t x h=> ?_
 obtain⟨s,_⟩:=t
 exact runF_ok (N:=47) ih Tryz.func33 (by kernel_rfl) rfl h
def c39_Zbl:C:=.sq (.rg [.mv 2 (.i 0)]) .rt
def c28_Zbl:C:=.cd T4 (.sq (.rg [.mv 2 (.i 2)]) .rt) (.sq (.rg [.bi 12 .eql T3 (.s [33]),.mv 11 T12]) (.cd T11 (.sq (.rg [.mv 2 (.i 1)]) .rt) .skip))
def w28_Zbl:C:=.kp [3,4] [] c28_Zbl
def ir_Zbl:C:=.sq (.rg [.mv 2 (.i 0)]) (.sq (.sq (.rg [.mv 3 T0]) (.bk 0 (.sq (.sq (.rg [.bi 5 .eql T3 (.s [43]),.mv 4 T5]) (.cd T4 .skip (.sq (.rg [.bi 6 .eql T3 (.s [45]),.mv 4 T6]) (.cd T4 .skip (.sq (.rg [.bi 7 .eql T3 (.s [61]),.mv 4 T7]) (.cd T4 .skip (.sq (.rg [.bi 8 .eql T3 (.s [60]),.mv 4 T8]) (.cd T4 .skip (.sq (.rg [.bi 9 .eql T3 (.s [38]),.mv 4 T9]) (.cd T4 .skip (.rg [.bi 10 .eql T3 (.s [124]),.mv 4 T10]))))))))))) w28_Zbl))) c39_Zbl)
noncomputable abbrev T_Zbl(nf:Nat):XT:=[]
noncomputable def m_Zbl(nf:Nat)(op:Str):Option (Int):=runF (T_Zbl nf) nf [.v kS] [.t 2 (.v kI)] ir_Zbl (op,())
noncomputable def X_Zbl{R:Type}(nf:Nat):C->Env->(Xt->Env->Option R)->Option R:=xc (R:=R) (T_Zbl nf).S nf
noncomputable def j28_Zbl(nf:Nat)(op:Str)(x4_28:Bool):Option (Int):=X_Zbl nf c28_Zbl ⟨[(3,.v kS op),(4,.v .bool x4_28)],[]⟩ (qB 0 (qS (X_Zbl nf c39_Zbl) (KF [.t 2 (.v kI)])))
theorem j28_Zbl_eq(nf:Nat)(op:Str)(x4_28:Bool):j28_Zbl nf op x4_28=(br x4_28 (some (2:Int)) (br (op==([33]:Str)) (some (1:Int)) (some (0:Int)))):=by kernel_rfl
theorem m_Zbl_eq(nf:Nat)(op:Str):m_Zbl nf op=(br (op==([43]:Str)) (mark (j28_Zbl nf op (op==([43]:Str)))) (br (op==([45]:Str)) (mark (j28_Zbl nf op (op==([45]:Str)))) (br (op==([61]:Str)) (mark (j28_Zbl nf op (op==([61]:Str)))) (br (op==([60]:Str)) (mark (j28_Zbl nf op (op==([60]:Str)))) (br (op==([38]:Str)) (mark (j28_Zbl nf op (op==([38]:Str)))) (mark (j28_Zbl nf op (op==([124]:Str))))))))):=by
 unfold m_Zbl j28_Zbl ir_Zbl w28_Zbl c39_Zbl
 generalize c28_Zbl=x0
 revert x0
 refine id ?_
 intro x0
 kernel_rfl
noncomputable def e_Zbl(nf:Nat):XE:=eF 173 [.v kS] [.v kI] (fun t=>m_Zbl nf t.1)
theorem o_Zbl(nf:Nat):conOK Tryz.prog 173 (e_Zbl nf).con:=by
 have ih:XT.ok Tryz.prog (T_Zbl nf):=by exact trivial
 refine eF_ok fun t x h=> ?_
 obtain⟨op,_⟩:=t
 exact runF_ok (N:=13) ih Tryz.func173 (by kernel_rfl) rfl h
def ir_ZbR:C:=.sq (.rg [.mv 2 (.b false)]) (.sq (.rg [.mv 3 T0,.bi 4 .eql T3 (.i 1),.mv 5 T4,.g 5 false (.mv 6 T0),.g 5 false (.bi 7 .eql T6 (.i 6)),.pk 8 T5 (.b true) T7,.mv 9 T8,.g 9 false (.mv 10 T0),.g 9 false (.bi 11 .eql T10 (.i 10)),.pk 12 T9 (.b true) T11,.mv 13 T12,.g 13 false (.mv 14 T0),.g 13 false (.bi 15 .eql T14 (.i 12)),.pk 16 T13 (.b true) T15,.mv 17 T16,.g 17 false (.mv 18 T0),.g 17 false (.bi 19 .eql T18 (.i 13)),.pk 20 T17 (.b true) T19,.mv 2 T20]) .rt)
noncomputable abbrev T_ZbR(nf:Nat):XT:=[]
noncomputable def m_ZbR(nf:Nat)(kind:Int):Option (Bool):=runF (T_ZbR nf) nf [.v kI] [.t 2 (.v .bool)] ir_ZbR (kind,())
theorem m_ZbR_eq(nf:Nat)(kind:Int):m_ZbR nf kind=(br ((kind==(1:Int))==false) (br ((kind==(6:Int))==false) (br ((kind==(10:Int))==false) (br ((kind==(12:Int))==false) (some (kind==(13:Int))) (some true)) (some true)) (some true)) (some true)):=by kernel_rfl
noncomputable def e_ZbR(nf:Nat):XE:=eF 174 [.v kI] [.v .bool] (fun t=>m_ZbR nf t.1)
theorem o_ZbR(nf:Nat):conOK Tryz.prog 174 (e_ZbR nf).con:=by
 have ih:XT.ok Tryz.prog (T_ZbR nf):=by exact trivial
 refine eF_ok fun t x h=> ?_
 obtain⟨kind,_⟩:=t
 exact runF_ok (N:=21) ih Tryz.func174 (by kernel_rfl) rfl h
def c53_ZbP:C:=.sq (.rg [.fa 93 T1 2 2 2,.ld 94 T93 kI,.mv 95 T4,.cv (some 96) 92 [(T94,.v kI),((.i 0),.v kI),(T95,.v kI)],.mv 2 T96]) .rt
def w53_ZbP:C:=.kp [1,4] [[1]] c53_ZbP
def c38_ZbP:C:=.sq (.rg [.mv 4 (.i 0)]) (.sq (.sq (.rg [.fa 87 T1 2 0 0,.ld 88 T87 kI]) (.bk 0 (.sq (.rg [.bi 90 .eql T88 (.i 2),.mv 89 T90]) (.cd T89 (.rg [.mv 4 (.i 999)]) (.sq (.rg [.bi 92 .eql T88 (.i 3),.mv 91 T92]) (.cd T91 (.rg [.mv 4 (.i 1)]) .skip)))))) w53_ZbP)
def c33_ZbP:C:=.cd T86 (.sq (.rg [.mv 2 (.b false)]) .rt) .skip
def w33_ZbP:C:=.kp [1,86] [[1]] c33_ZbP
def c30_ZbP:C:=.sq (.sq (.rg [.fa 67 T1 2 0 0,.ld 68 T67 kI,.bi 69 .eql T68 (.i 5),.mv 70 T69,.g 70 true (.fa 71 T1 2 4 6),.g 70 true (.ld 72 T71 (kL kS)),.g 70 true (.cv (some 73) 156 [(T72,.v (kL kS))]),.g 70 true (.un 74 .not T73),.pk 75 T70 T74 (.b false),.mv 76 T75,.g 76 false (.fa 77 T1 2 0 0),.g 76 false (.ld 78 T77 kI),.g 76 false (.bi 79 .neq T78 (.i 5)),.g 76 false (.mv 80 T79),.g 80 true (.fa 81 T1 2 4 6),.g 80 true (.ld 82 T81 (kL kS)),.g 80 true (.ln 83 false T82),.g 80 true (.bi 84 .gtr T83 (.i 0)),.g 76 false (.pk 85 T80 T84 (.b false)),.pk 86 T76 (.b true) T85]) w33_ZbP) c38_ZbP
def c25_ZbP:C:=.cd T66 (.sq (.rg [.mv 2 (.b false)]) .rt) .skip
def w25_ZbP:C:=.kp [1,66] [[1]] c25_ZbP
def c22_ZbP:C:=.sq (.sq (.rg [.mv 38 T3,.fa 39 T1 2 3 3,.ld 40 T39 (kR 0),.cv (some 41) 87 [(T40,.v (kR 0))],.be 42 true T38 T41,.mv 43 T42,.g 43 false (.mv 44 T3),.g 43 false (.un 45 .not T44),.g 43 false (.mv 46 T45),.g 46 true (.fa 47 T1 2 3 3),.g 46 true (.fa 48 T47 0 0 0),.g 46 true (.ld 49 T48 kI),.g 46 true (.bi 50 .neq T49 (.i 0)),.g 46 true (.mv 51 T50),.g 51 false (.fa 52 T1 2 3 3),.g 51 false (.fa 53 T52 0 1 1),.g 51 false (.ld 54 T53 (kL kS)),.g 51 false (.ln 55 false T54),.g 51 false (.bi 56 .gtr T55 (.i 0)),.g 46 true (.pk 57 T51 (.b true) T56),.g 46 true (.mv 58 T57),.g 58 false (.fa 59 T1 2 3 3),.g 58 false (.fa 60 T59 0 2 2),.g 58 false (.ld 61 T60 (kL (kR 0))),.g 58 false (.ln 62 false T61),.g 58 false (.bi 63 .gtr T62 (.i 0)),.g 46 true (.pk 64 T58 (.b true) T63),.g 43 false (.pk 65 T46 T64 (.b false)),.pk 66 T43 (.b true) T65]) w25_ZbP) c30_ZbP
def w22_ZbP:C:=.kp [1,3] [[1]] c22_ZbP
def c20_ZbP:C:=.sq (.rg [.fa 30 T1 2 0 0,.ld 31 T30 kI,.bi 32 .eql T31 (.i 7),.mv 33 T32,.g 33 false (.fa 34 T1 2 0 0),.g 33 false (.ld 35 T34 kI),.g 33 false (.bi 36 .eql T35 (.i 13)),.pk 37 T33 (.b true) T36,.mv 3 T37]) w22_ZbP
def w20_ZbP:C:=.kp [1] [[1]] c20_ZbP
def c15_ZbP:C:=.cd T29 (.sq (.rg [.mv 2 (.b false)]) .rt) .skip
def w15_ZbP:C:=.kp [1,29] [[1]] c15_ZbP
def ir_ZbP:C:=.sq (.rg [.bx 1 T0 (kR 2),.mv 2 (.b false)]) (.sq (.sq (.rg [.fa 5 T1 2 0 0,.ld 6 T5 kI,.bi 7 .eql T6 (.i 4)]) (.cd T7 (.sq (.rg [.fa 8 T1 2 1 1,.ld 9 T8 kS,.cv (some 10) 173 [(T9,.v kS)],.bi 11 .eql T10 (.i 0)]) (.cd T11 (.sq (.rg [.mv 2 (.b false)]) .rt) .skip)) (.sq (.dr [] [.fa 12 T1 2 0 0,.ld 13 T12 kI,.cv (some 14) 174 [(T13,.v kI)],.fa 15 T1 2 1 1,.ld 16 T15 kS] [.cv (some 17) 72 [(T16,.v kS)],.be 18 true T14 T17,.mv 19 T18,.g 19 false (.fa 20 T1 2 0 0),.g 19 false (.ld 21 T20 kI),.g 19 false (.cv (some 22) 174 [(T21,.v kI)]),.g 19 false (.un 23 .not T22),.g 19 false (.mv 24 T23),.g 24 true (.fa 25 T1 2 1 1),.g 24 true (.ld 26 T25 kS),.g 24 true (.bi 27 .neq T26 (.s [])),.g 19 false (.pk 28 T24 T27 (.b false)),.pk 29 T19 (.b true) T28]) w15_ZbP))) w20_ZbP)
noncomputable abbrev T_ZbP(nf:Nat):XT:=[e_Zbl nf,e_ZbR nf,e_Zbg nf,e_Zbk nf,e_ZbK nf,e_ZbA nf]
noncomputable def m_ZbP(nf:Nat)(e:Tm):Option (Bool):=runF (T_ZbP nf) nf [.v (kR 2)] [.t 2 (.v .bool)] ir_ZbP (e,())
noncomputable def X_ZbP{R:Type}(nf:Nat):C->Env->(Xt->Env->Option R)->Option R:=xc (R:=R) (T_ZbP nf).S nf
noncomputable def j15_ZbP(nf:Nat)(e:Tm)(x29_15:Bool):Option (Bool):=X_ZbP nf c15_ZbP ⟨[(1,.pt [1] 0),(29,.v .bool x29_15)],[([1],.box [.v kI e.kind,.v kS e.name,.v kI e.n,.v kI e.type.kind,.v (kL kS) e.type.labels,.v (kL (kR 0)) e.type.args,.v (kL kS) e.labels,.v (kL (kR 2)) e.args])]⟩ (qS (X_ZbP nf w20_ZbP) (KF [.t 2 (.v .bool)]))
noncomputable def j25_ZbP(nf:Nat)(e:Tm)(x66_25:Bool):Option (Bool):=X_ZbP nf c25_ZbP ⟨[(1,.pt [1] 0),(66,.v .bool x66_25)],[([1],.box [.v kI e.kind,.v kS e.name,.v kI e.n,.v kI e.type.kind,.v (kL kS) e.type.labels,.v (kL (kR 0)) e.type.args,.v (kL kS) e.labels,.v (kL (kR 2)) e.args])]⟩ (qS (X_ZbP nf c30_ZbP) (KF [.t 2 (.v .bool)]))
noncomputable def j33_ZbP(nf:Nat)(e:Tm)(x86_33:Bool):Option (Bool):=X_ZbP nf c33_ZbP ⟨[(1,.pt [1] 0),(86,.v .bool x86_33)],[([1],.box [.v kI e.kind,.v kS e.name,.v kI e.n,.v kI e.type.kind,.v (kL kS) e.type.labels,.v (kL (kR 0)) e.type.args,.v (kL kS) e.labels,.v (kL (kR 2)) e.args])]⟩ (qS (X_ZbP nf c38_ZbP) (KF [.t 2 (.v .bool)]))
noncomputable def j53_ZbP(nf:Nat)(e:Tm)(x4_53:Int):Option (Bool):=X_ZbP nf c53_ZbP ⟨[(1,.pt [1] 0),(4,.v kI x4_53)],[([1],.box [.v kI e.kind,.v kS e.name,.v kI e.n,.v kI e.type.kind,.v (kL kS) e.type.labels,.v (kL (kR 0)) e.type.args,.v (kL kS) e.labels,.v (kL (kR 2)) e.args])]⟩ (KF [.t 2 (.v .bool)])
noncomputable def j22_ZbP(nf:Nat)(e:Tm)(x3_22:Bool):Option (Bool):=X_ZbP nf c22_ZbP ⟨[(1,.pt [1] 0),(3,.v .bool x3_22)],[([1],.box [.v kI e.kind,.v kS e.name,.v kI e.n,.v kI e.type.kind,.v (kL kS) e.type.labels,.v (kL (kR 0)) e.type.args,.v (kL kS) e.labels,.v (kL (kR 2)) e.args])]⟩ (KF [.t 2 (.v .bool)])
noncomputable def j20_ZbP(nf:Nat)(e:Tm):Option (Bool):=X_ZbP nf c20_ZbP ⟨[(1,.pt [1] 0)],[([1],.box [.v kI e.kind,.v kS e.name,.v kI e.n,.v kI e.type.kind,.v (kL kS) e.type.labels,.v (kL (kR 0)) e.type.args,.v (kL kS) e.labels,.v (kL (kR 2)) e.args])]⟩ (KF [.t 2 (.v .bool)])
theorem j15_ZbP_eq(nf:Nat)(e:Tm)(x29_15:Bool):j15_ZbP nf e x29_15=(br x29_15 (some false) (mark (j20_ZbP nf e))):=by
 unfold j15_ZbP j20_ZbP c15_ZbP w20_ZbP
 generalize c20_ZbP=x0
 revert x0
 refine id ?_
 intro x0
 kernel_rfl
theorem j25_ZbP_eq(nf:Nat)(e:Tm)(x66_25:Bool):j25_ZbP nf e x66_25=(br x66_25 (some false) (br ((e.kind==(5:Int))==true) (cb (m_ZbK nf e.labels) fun r73=>br ((!r73)==false) (br ((!(e.kind==(5:Int)))==true) (mark (j33_ZbP nf e (decide ((0:Int)<(List.length e.labels:Int))))) (mark (j33_ZbP nf e false))) (mark (j33_ZbP nf e true))) (br ((!(e.kind==(5:Int)))==true) (mark (j33_ZbP nf e (decide ((0:Int)<(List.length e.labels:Int))))) (mark (j33_ZbP nf e false))))):=by
 unfold j25_ZbP j33_ZbP c25_ZbP c30_ZbP w33_ZbP c38_ZbP w53_ZbP
 generalize c33_ZbP=x0
 generalize c53_ZbP=x1
 revert x0 x1
 refine id ?_
 intro x0 x1
 kernel_rfl
theorem j33_ZbP_eq(nf:Nat)(e:Tm)(x86_33:Bool):j33_ZbP nf e x86_33=(br x86_33 (some false) (br (e.kind==(2:Int)) (mark (j53_ZbP nf e (999:Int))) (br (e.kind==(3:Int)) (mark (j53_ZbP nf e (1:Int))) (mark (j53_ZbP nf e (0:Int)))))):=by
 unfold j33_ZbP j53_ZbP c33_ZbP c38_ZbP w53_ZbP
 generalize c53_ZbP=x0
 revert x0
 refine id ?_
 intro x0
 kernel_rfl
theorem j53_ZbP_eq(nf:Nat)(e:Tm)(x4_53:Int):j53_ZbP nf e x4_53=(cb (m_ZbA nf e.n (0:Int) x4_53) fun r96=>some r96):=by kernel_rfl
theorem j22_ZbP_eq(nf:Nat)(e:Tm)(x3_22:Bool):j22_ZbP nf e x3_22=(cb (m_Zbk nf (Ty.h e.type)) fun r41=>br ((!(x3_22==r41))==false) (br ((!x3_22)==true) (br ((!(e.type.kind==(0:Int)))==false) (br ((decide ((0:Int)<(List.length e.type.labels:Int)))==false) (mark (j25_ZbP nf e (decide ((0:Int)<(List.length e.type.args:Int))))) (mark (j25_ZbP nf e true))) (mark (j25_ZbP nf e true))) (mark (j25_ZbP nf e false))) (mark (j25_ZbP nf e true))):=by
 unfold j22_ZbP j25_ZbP c22_ZbP w25_ZbP c30_ZbP w33_ZbP c38_ZbP w53_ZbP
 generalize c25_ZbP=x0
 generalize c33_ZbP=x1
 generalize c53_ZbP=x2
 revert x0 x1 x2
 refine id ?_
 intro x0 x1 x2
 kernel_rfl
theorem j20_ZbP_eq(nf:Nat)(e:Tm):j20_ZbP nf e=(br ((e.kind==(7:Int))==false) (mark (j22_ZbP nf e (e.kind==(13:Int)))) (mark (j22_ZbP nf e true))):=by
 unfold j20_ZbP j22_ZbP c20_ZbP w22_ZbP
 generalize c22_ZbP=x0
 revert x0
 refine id ?_
 intro x0
 kernel_rfl
theorem m_ZbP_eq(nf:Nat)(e:Tm):m_ZbP nf e=(br (e.kind==(4:Int)) (cb (m_Zbl nf e.name) fun r10=>br (r10==(0:Int)) (some false) (mark (j20_ZbP nf e))) (cb (m_ZbR nf e.kind) fun r14=>cb (m_Zbg nf e.name) fun r17=>br ((!(r14==r17))==false) (cb (m_ZbR nf e.kind) fun r22=>br ((!r22)==true) (mark (j15_ZbP nf e (!(e.name==([]:Str))))) (mark (j15_ZbP nf e false))) (mark (j15_ZbP nf e true)))):=by
 unfold m_ZbP j20_ZbP j15_ZbP ir_ZbP w15_ZbP w20_ZbP
 generalize c15_ZbP=x0
 generalize c20_ZbP=x1
 revert x0 x1
 refine id ?_
 intro x0 x1
 kernel_rfl
noncomputable def e_ZbP(nf:Nat):XE:=eF 158 [.v (kR 2)] [.v .bool] (fun t=>m_ZbP nf t.1)
theorem o_ZbP(nf:Nat):conOK Tryz.prog 158 (e_ZbP nf).con:=by
 have ih:XT.ok Tryz.prog (T_ZbP nf):=by exact⟨o_Zbl nf,o_ZbR nf,o_Zbg nf,o_Zbk nf,o_ZbK nf,o_ZbA nf,trivial⟩
 refine eF_ok fun t x h=> ?_
 obtain⟨e,_⟩:=t
 exact runF_ok (N:=97) ih Tryz.func158 (by kernel_rfl) rfl h
def c83_ZbO:C:=.sq (.rg [.mv 2 (.i (-1))]) .rt
def c72_ZbO:C:=.cd T27 (.sq (.rg [.mv 2 (.i 2)]) .rt) (.sq (.rg [.bi 32 .eql T4 (.i 11),.mv 31 T32]) (.cd T31 (.sq (.rg [.mv 2 (.i 3)]) .rt) .skip))
def w72_ZbO:C:=.kp [4,27] [] c72_ZbO
def c58_ZbO:C:=.cd T21 (.sq (.rg [.mv 2 (.i 1)]) .rt) (.sq (.sq (.rg [.bi 28 .eql T4 (.i 9),.mv 27 T28]) (.cd T27 .skip (.sq (.rg [.bi 29 .eql T4 (.i 10),.mv 27 T29]) (.cd T27 .skip (.rg [.bi 30 .eql T4 (.i 14),.mv 27 T30]))))) w72_ZbO)
def w58_ZbO:C:=.kp [4,21] [] c58_ZbO
def c24_ZbO:C:=.cd T5 (.sq (.rg [.mv 2 (.i 0)]) .rt) (.sq (.rg [.bi 12 .eql T4 (.i 4),.mv 11 T12]) (.cd T11 (.sq (.rg [.fa 13 T1 2 1 1,.ld 14 T13 kS,.cv (some 15) 173 [(T14,.v kS)],.mv 2 T15]) .rt) (.sq (.rg [.bi 17 .eql T4 (.i 5),.mv 16 T17]) (.cd T16 (.sq (.rg [.fa 18 T1 2 4 6,.ld 19 T18 (kL kS),.ln 20 false T19,.mv 2 T20]) .rt) (.sq (.sq (.rg [.bi 22 .eql T4 (.i 6),.mv 21 T22]) (.cd T21 .skip (.sq (.rg [.bi 23 .eql T4 (.i 8),.mv 21 T23]) (.cd T21 .skip (.sq (.rg [.bi 24 .eql T4 (.i 13),.mv 21 T24]) (.cd T21 .skip (.sq (.rg [.bi 25 .eql T4 (.i 15),.mv 21 T25]) (.cd T21 .skip (.rg [.bi 26 .eql T4 (.i 16),.mv 21 T26]))))))))) w58_ZbO)))))
def w24_ZbO:C:=.kp [1,4,5] [[1]] c24_ZbO
def ir_ZbO:C:=.sq (.rg [.bx 1 T0 (kR 2),.mv 2 (.i 0)]) (.sq (.sq (.rg [.fa 3 T1 2 0 0,.ld 4 T3 kI]) (.bk 0 (.sq (.sq (.rg [.bi 6 .eql T4 (.i 1),.mv 5 T6]) (.cd T5 .skip (.sq (.rg [.bi 7 .eql T4 (.i 2),.mv 5 T7]) (.cd T5 .skip (.sq (.rg [.bi 8 .eql T4 (.i 3),.mv 5 T8]) (.cd T5 .skip (.sq (.rg [.bi 9 .eql T4 (.i 7),.mv 5 T9]) (.cd T5 .skip (.rg [.bi 10 .eql T4 (.i 12),.mv 5 T10]))))))))) w24_ZbO))) c83_ZbO)
noncomputable abbrev T_ZbO(nf:Nat):XT:=[e_Zbl nf]
noncomputable def m_ZbO(nf:Nat)(e:Tm):Option (Int):=runF (T_ZbO nf) nf [.v (kR 2)] [.t 2 (.v kI)] ir_ZbO (e,())
noncomputable def X_ZbO{R:Type}(nf:Nat):C->Env->(Xt->Env->Option R)->Option R:=xc (R:=R) (T_ZbO nf).S nf
noncomputable def j72_ZbO(nf:Nat)(e:Tm)(x27_72:Bool):Option (Int):=X_ZbO nf c72_ZbO ⟨[(4,.v kI e.kind),(27,.v .bool x27_72)],[]⟩ (qB 0 (qS (X_ZbO nf c83_ZbO) (KF [.t 2 (.v kI)])))
noncomputable def j58_ZbO(nf:Nat)(e:Tm)(x21_58:Bool):Option (Int):=X_ZbO nf c58_ZbO ⟨[(4,.v kI e.kind),(21,.v .bool x21_58)],[]⟩ (qB 0 (qS (X_ZbO nf c83_ZbO) (KF [.t 2 (.v kI)])))
noncomputable def j24_ZbO(nf:Nat)(e:Tm)(x5_24:Bool):Option (Int):=X_ZbO nf c24_ZbO ⟨[(1,.pt [1] 0),(4,.v kI e.kind),(5,.v .bool x5_24)],[([1],.box [.v kI e.kind,.v kS e.name,.v kI e.n,.v kI e.type.kind,.v (kL kS) e.type.labels,.v (kL (kR 0)) e.type.args,.v (kL kS) e.labels,.v (kL (kR 2)) e.args])]⟩ (qB 0 (qS (X_ZbO nf c83_ZbO) (KF [.t 2 (.v kI)])))
theorem j72_ZbO_eq(nf:Nat)(e:Tm)(x27_72:Bool):j72_ZbO nf e x27_72=(br x27_72 (some (2:Int)) (br (e.kind==(11:Int)) (some (3:Int)) (some (-1:Int)))):=by kernel_rfl
theorem j58_ZbO_eq(nf:Nat)(e:Tm)(x21_58:Bool):j58_ZbO nf e x21_58=(br x21_58 (some (1:Int)) (br (e.kind==(9:Int)) (mark (j72_ZbO nf e (e.kind==(9:Int)))) (br (e.kind==(10:Int)) (mark (j72_ZbO nf e (e.kind==(10:Int)))) (mark (j72_ZbO nf e (e.kind==(14:Int))))))):=by
 unfold j58_ZbO j72_ZbO c58_ZbO c83_ZbO w72_ZbO
 generalize c72_ZbO=x0
 revert x0
 refine id ?_
 intro x0
 kernel_rfl
theorem j24_ZbO_eq(nf:Nat)(e:Tm)(x5_24:Bool):j24_ZbO nf e x5_24=(br x5_24 (some (0:Int)) (br (e.kind==(4:Int)) (cb (m_Zbl nf e.name) fun r15=>some r15) (br (e.kind==(5:Int)) (some (List.length e.labels:Int)) (br (e.kind==(6:Int)) (mark (j58_ZbO nf e (e.kind==(6:Int)))) (br (e.kind==(8:Int)) (mark (j58_ZbO nf e (e.kind==(8:Int)))) (br (e.kind==(13:Int)) (mark (j58_ZbO nf e (e.kind==(13:Int)))) (br (e.kind==(15:Int)) (mark (j58_ZbO nf e (e.kind==(15:Int)))) (mark (j58_ZbO nf e (e.kind==(16:Int))))))))))):=by
 unfold j24_ZbO j58_ZbO c24_ZbO c83_ZbO w58_ZbO
 generalize c58_ZbO=x0
 revert x0
 refine id ?_
 intro x0
 kernel_rfl
theorem m_ZbO_eq(nf:Nat)(e:Tm):m_ZbO nf e=(br (e.kind==(1:Int)) (mark (j24_ZbO nf e (e.kind==(1:Int)))) (br (e.kind==(2:Int)) (mark (j24_ZbO nf e (e.kind==(2:Int)))) (br (e.kind==(3:Int)) (mark (j24_ZbO nf e (e.kind==(3:Int)))) (br (e.kind==(7:Int)) (mark (j24_ZbO nf e (e.kind==(7:Int)))) (mark (j24_ZbO nf e (e.kind==(12:Int)))))))):=by
 unfold m_ZbO j24_ZbO ir_ZbO w24_ZbO c83_ZbO
 generalize c24_ZbO=x0
 revert x0
 refine id ?_
 intro x0
 kernel_rfl
noncomputable def e_ZbO(nf:Nat):XE:=eF 159 [.v (kR 2)] [.v kI] (fun t=>m_ZbO nf t.1)
theorem o_ZbO(nf:Nat):conOK Tryz.prog 159 (e_ZbO nf).con:=by
 have ih:XT.ok Tryz.prog (T_ZbO nf):=by exact⟨o_Zbl nf,trivial⟩
 refine eF_ok fun t x h=> ?_
 obtain⟨e,_⟩:=t
 exact runF_ok (N:=33) ih Tryz.func159 (by kernel_rfl) rfl h
def c23_ZbQ:C:=.sq (.dr [] [.ld 18 T1 (kR 2),.cv (some 19) 158 [(T18,.v (kR 2))],.mv 20 T19,.g 20 true (.fa 21 T1 2 5 7),.g 20 true (.ld 22 T21 (kL (kR 2))),.g 20 true (.ln 23 false T22),.g 20 true (.ld 24 T1 (kR 2)),.g 20 true (.cv (some 25) 159 [(T24,.v (kR 2))])] [.g 20 true (.bi 26 .eql T23 T25),.pk 27 T20 T26 (.b false),.mv 2 T27]) .rt
def w23_ZbQ:C:=.kp [1] [[1]] c23_ZbQ
def c7_ZbQ:C:=.sq (.sq (.rg [.mv 4 T3,.fa 5 T1 2 5 7,.ld 6 T5 (kL (kR 2)),.ln 7 false T6,.bi 8 .lss T4 T7]) (.cd T8 .skip (.ex 0))) (.sq (.bk 1 (.sq (.rg [.fa 11 T1 2 5 7,.ld 12 T11 (kL (kR 2)),.mv 13 T3,.ia 14 T12 T13 (kR 2),.ld 15 T14 (kR 2),.cv (some 16) 132 [(T15,.v (kR 2))],.un 17 .not T16]) (.cd T17 (.sq (.rg [.mv 2 (.b false)]) .rt) .skip))) (.rg [.mv 9 T3,.bi 10 .add T9 (.i 1),.mv 3 T10]))
def ir_ZbQ:C:=.sq (.rg [.bx 1 T0 (kR 2),.mv 2 (.b false)]) (.sq (.sq (.rg [.mv 3 (.i 0)]) (.bk 0 (.lk [1,3] [[1]] c7_ZbQ))) w23_ZbQ)
noncomputable def B_ZbQ(nf:Nat):XT:=[e_ZbP nf,e_ZbO nf]
noncomputable def G_ZbQ(nf:Nat):Nat->XT
 |0=>[]
 |kf+1=>[eF 132 [.v (kR 2)] [.v .bool] (fun t=>(fun(e:Tm)=>runF (G_ZbQ nf kf++B_ZbQ nf) nf [.v (kR 2)] [.t 2 (.v .bool)] ir_ZbQ (e,())) t.1)]
noncomputable abbrev T_ZbQ(nf kf:Nat):XT:=G_ZbQ nf kf++B_ZbQ nf
noncomputable def m_ZbQ(nf kf:Nat)(e:Tm):Option (Bool):=runF (T_ZbQ nf kf) nf [.v (kR 2)] [.t 2 (.v .bool)] ir_ZbQ (e,())
noncomputable def X_ZbQ{R:Type}(nf kf:Nat):C->Env->(Xt->Env->Option R)->Option R:=xc (R:=R) (T_ZbQ nf kf).S nf
noncomputable def l6_ZbQ(nf kf:Nat)(m6:Nat)(e:Tm)(x3_6:Int):Option (Bool):=xit [1,3] [[1]] (X_ZbQ nf kf c7_ZbQ) (qB 0 (qS (X_ZbQ nf kf w23_ZbQ) (KF [.t 2 (.v .bool)]))) m6 ⟨[(1,.pt [1] 0),(3,.v kI x3_6)],[([1],.box [.v kI e.kind,.v kS e.name,.v kI e.n,.v kI e.type.kind,.v (kL kS) e.type.labels,.v (kL (kR 0)) e.type.args,.v (kL kS) e.labels,.v (kL (kR 2)) e.args])]⟩
noncomputable def j23_ZbQ(nf kf:Nat)(e:Tm):Option (Bool):=X_ZbQ nf kf c23_ZbQ ⟨[(1,.pt [1] 0)],[([1],.box [.v kI e.kind,.v kS e.name,.v kI e.n,.v kI e.type.kind,.v (kL kS) e.type.labels,.v (kL (kR 0)) e.type.args,.v (kL kS) e.labels,.v (kL (kR 2)) e.args])]⟩ (KF [.t 2 (.v .bool)])
theorem l6_ZbQ_eq(nf kf:Nat)(m6:Nat)(e:Tm)(x3_6:Int):l6_ZbQ nf (kf+1) (m6+1) e x3_6=(br (decide (x3_6<(List.length e.args:Int))) (gg (0<=x3_6∧x3_6<(List.length e.args:Int))<|cb (m_ZbQ nf kf (gt e.args x3_6 Tm.zero)) fun r16=>br (!r16) (some false) (mark (l6_ZbQ nf (kf+1) m6 e (w64 (x3_6+(1:Int)))))) (mark (j23_ZbQ nf (kf+1) e))):=by
 unfold l6_ZbQ j23_ZbQ c7_ZbQ w23_ZbQ
 generalize c23_ZbQ=x0
 revert x0
 refine id ?_
 intro x0
 kernel_rfl
theorem j23_ZbQ_eq(nf kf:Nat)(e:Tm):j23_ZbQ nf (kf+1) e=(cb (m_ZbP nf (Tm.h e)) fun r19=>br (r19==true) (cb (m_ZbO nf (Tm.h e)) fun r25=>some ((List.length e.args:Int)==r25)) (some false)):=by kernel_rfl
theorem m_ZbQ_eq(nf kf:Nat)(e:Tm):m_ZbQ nf (kf+1) e=(mark (l6_ZbQ nf (kf+1) nf e (0:Int))):=by
 unfold m_ZbQ l6_ZbQ ir_ZbQ w23_ZbQ
 generalize c23_ZbQ=x0
 revert x0
 refine id ?_
 intro x0
 kernel_rfl
noncomputable def e_ZbQ(nf:Nat):XE:=eF 132 [.v (kR 2)] [.v .bool] (fun t=>m_ZbQ nf nf t.1)
theorem gok_ZbQ(nf:Nat):∀kf:Nat,XT.ok Tryz.prog (G_ZbQ nf kf++B_ZbQ nf)
 |0=>by exact⟨o_ZbP nf,o_ZbO nf,trivial⟩
 |kf+1=>by
  have ih:=gok_ZbQ nf kf
  refine⟨?_,(by exact⟨o_ZbP nf,o_ZbO nf,trivial⟩)⟩
  ·refine eF_ok fun t x h=> ?_
   obtain⟨e,_⟩:=t
   exact runF_ok (N:=28) ih Tryz.func132 (by kernel_rfl) rfl h
theorem o_ZbQ(nf:Nat):conOK Tryz.prog 132 (e_ZbQ nf).con:=by
 have ih:=gok_ZbQ nf nf
 refine eF_ok fun t x h=> ?_
 obtain⟨e,_⟩:=t
 exact runF_ok (N:=28) ih Tryz.func132 (by kernel_rfl) rfl h
def ir_Zbu:C:=.sq (.rg [.bx 5 T2 (kR 0),.mv 6 (.nl (kR 8))]) (.sq (.rg [.bs 8 false (kR 8) [],.mv 9 T0,.an 10 false (kR 8) T8 T9,.mv 7 T10]) (.sq (.rg [.mv 11 T7,.mv 12 T1,.ld 13 T5 (kR 0),.bd 14 8 [(0,1,T12),(1,3,T13)],.bs 15 false (kR 8) [T14],.ap 16 [6] false (kR 8) T11 T15,.mv 6 T16]) .rt))
noncomputable abbrev T_Zbu(nf:Nat):XT:=[]
noncomputable def m_Zbu(nf:Nat)(ctx:List Typing)(name:Str)(t:Ty):Option (List Typing):=runF (T_Zbu nf) nf [.v (kL (kR 8)),.v kS,.v (kR 0)] [.t 6 (.v (kL (kR 8)))] ir_Zbu (ctx,name,t,())
theorem m_Zbu_eq(nf:Nat)(ctx:List Typing)(name:Str)(t:Ty):m_Zbu nf ctx name t=(gg (List.length ctx<=33554432)<|gg (List.length ctx+List.length ([(Typing.mk name (Ty.h t))]:List Typing)<=33554432)<|some (ctx++([(Typing.mk name (Ty.h t))]:List Typing))):=by kernel_rfl
noncomputable def e_Zbu(nf:Nat):XE:=eF 73 [.v (kL (kR 8)),.v kS,.v (kR 0)] [.v (kL (kR 8))] (fun t=>m_Zbu nf t.1 t.2.1 t.2.2.1)
theorem o_Zbu(nf:Nat):conOK Tryz.prog 73 (e_Zbu nf).con:=by
 have ih:XT.ok Tryz.prog (T_Zbu nf):=by exact trivial
 refine eF_ok fun t x h=> ?_
 obtain⟨ctx,name,t,_⟩:=t
 exact runF_ok (N:=17) ih Tryz.func73 (by kernel_rfl) rfl h
def ir_ZbJ:C:=.sq (.rg [.al 0 (kR 0)]) (.sq (.rg [.bd 1 0 [(0,1,(.i 1))],.st T0 T1 (kR 0)]) .rt)
noncomputable abbrev T_ZbJ(nf:Nat):XT:=[]
noncomputable def m_ZbJ(nf:Nat):Option (Ty):=runF (T_ZbJ nf) nf [] [.c 0 (.v (kR 0))] ir_ZbJ (())
theorem m_ZbJ_eq(nf:Nat):m_ZbJ nf=(some (Ty.mk (1:Int) ([]:List Str) ([]:List Ty))):=by kernel_rfl
noncomputable def e_ZbJ(nf:Nat):XE:=eF 115 [] [.v (kR 0)] (fun t=>m_ZbJ nf)
theorem o_ZbJ(nf:Nat):conOK Tryz.prog 115 (e_ZbJ nf).con:=by
 have ih:XT.ok Tryz.prog (T_ZbJ nf):=by exact trivial
 refine eF_ok fun t x h=> ?_
 exact runF_ok (N:=2) ih Tryz.func115 (by kernel_rfl) rfl h
def ir_ZbE:C:=.sq (.rg [.al 0 (kR 0)]) (.sq (.rg [.bd 1 0 [(0,1,(.i 2))],.st T0 T1 (kR 0)]) .rt)
noncomputable abbrev T_ZbE(nf:Nat):XT:=[]
noncomputable def m_ZbE(nf:Nat):Option (Ty):=runF (T_ZbE nf) nf [] [.c 0 (.v (kR 0))] ir_ZbE (())
theorem m_ZbE_eq(nf:Nat):m_ZbE nf=(some (Ty.mk (2:Int) ([]:List Str) ([]:List Ty))):=by kernel_rfl
noncomputable def e_ZbE(nf:Nat):XE:=eF 94 [] [.v (kR 0)] (fun t=>m_ZbE nf)
theorem o_ZbE(nf:Nat):conOK Tryz.prog 94 (e_ZbE nf).con:=by
 have ih:XT.ok Tryz.prog (T_ZbE nf):=by exact trivial
 refine eF_ok fun t x h=> ?_
 exact runF_ok (N:=2) ih Tryz.func94 (by kernel_rfl) rfl h
def ir_ZbH:C:=.sq (.rg [.bx 2 T0 (kR 0),.bx 3 T1 (kR 0),.al 4 (kR 0)]) (.sq (.dr [] [.ld 5 T2 (kR 0),.cv (some 6) 89 [(T5,.v (kR 0))],.ld 7 T3 (kR 0)] [.cv (some 8) 89 [(T7,.v (kR 0))],.bs 9 false (kR 0) [T6,T8],.bd 10 0 [(0,1,(.i 5)),(2,1,T9)],.st T4 T10 (kR 0)]) .rt)
noncomputable abbrev T_ZbH(nf:Nat):XT:=[e_ZbF nf]
noncomputable def m_ZbH(nf:Nat)(a:Ty)(b:Ty):Option (Ty):=runF (T_ZbH nf) nf [.v (kR 0),.v (kR 0)] [.c 4 (.v (kR 0))] ir_ZbH (a,b,())
theorem m_ZbH_eq(nf:Nat)(a:Ty)(b:Ty):m_ZbH nf a b=(cb (m_ZbF nf nf (Ty.h a)) fun r6=>cb (m_ZbF nf nf (Ty.h b)) fun r8=>some (Ty.mk (5:Int) ([]:List Str) ([r6,r8]:List Ty))):=by kernel_rfl
noncomputable def e_ZbH(nf:Nat):XE:=eF 187 [.v (kR 0),.v (kR 0)] [.v (kR 0)] (fun t=>m_ZbH nf t.1 t.2.1)
theorem o_ZbH(nf:Nat):conOK Tryz.prog 187 (e_ZbH nf).con:=by
 have ih:XT.ok Tryz.prog (T_ZbH nf):=by exact⟨o_ZbF nf,trivial⟩
 refine eF_ok fun t x h=> ?_
 obtain⟨a,b,_⟩:=t
 exact runF_ok (N:=11) ih Tryz.func187 (by kernel_rfl) rfl h
def ir_ZbC:C:=.sq (.rg [.bx 1 T0 (kR 0),.al 2 (kR 0)]) (.sq (.rg [.ld 3 T1 (kR 0),.cv (some 4) 89 [(T3,.v (kR 0))],.bs 5 false (kR 0) [T4],.bd 6 0 [(0,1,(.i 4)),(2,1,T5)],.st T2 T6 (kR 0)]) .rt)
noncomputable abbrev T_ZbC(nf:Nat):XT:=[e_ZbF nf]
noncomputable def m_ZbC(nf:Nat)(t:Ty):Option (Ty):=runF (T_ZbC nf) nf [.v (kR 0)] [.c 2 (.v (kR 0))] ir_ZbC (t,())
theorem m_ZbC_eq(nf:Nat)(t:Ty):m_ZbC nf t=(cb (m_ZbF nf nf (Ty.h t)) fun r4=>some (Ty.mk (4:Int) ([]:List Str) ([r4]:List Ty))):=by kernel_rfl
noncomputable def e_ZbC(nf:Nat):XE:=eF 188 [.v (kR 0)] [.v (kR 0)] (fun t=>m_ZbC nf t.1)
theorem o_ZbC(nf:Nat):conOK Tryz.prog 188 (e_ZbC nf).con:=by
 have ih:XT.ok Tryz.prog (T_ZbC nf):=by exact⟨o_ZbF nf,trivial⟩
 refine eF_ok fun t x h=> ?_
 obtain⟨t,_⟩:=t
 exact runF_ok (N:=7) ih Tryz.func188 (by kernel_rfl) rfl h
def c19_ZbM:C:=.sq (.rg [.ld 27 T5 (kR 0),.st T4 T27 (kR 0)]) .rt
def c9_ZbM:C:=.sq (.sq (.rg [.mv 11 T6,.mv 12 T1,.ln 13 false T12,.bi 14 .lss T11 T13]) (.cd T14 .skip (.ex 0))) (.sq (.bk 1 (.dr [24] [.fa 17 T5 0 2 2,.ld 18 T17 (kL (kR 0)),.mv 19 T1,.mv 20 T6,.ia 21 T19 T20 (kR 0),.ld 22 T21 (kR 0),.cv (some 23) 89 [(T22,.v (kR 0))],.bs 24 false (kR 0) [T23]] [.ap 25 [5,2] false (kR 0) T18 T24,.fa 26 T5 0 2 2,.st T26 T25 (kL (kR 0))])) (.rg [.mv 15 T6,.bi 16 .add T15 (.i 1),.mv 6 T16]))
def ir_ZbM:C:=.sq (.rg [.al 4 (kR 0)]) (.sq (.rg [.bs 7 true kS [],.mv 8 T0,.an 9 true kS T7 T8,.bd 10 0 [(0,1,(.i 3)),(1,1,T9)],.al 5 (kR 0),.st T5 T10 (kR 0)]) (.sq (.sq (.rg [.mv 6 (.i 0)]) (.bk 0 (.gb 5 2 false (kR 0) (.lk [1,4,5,6] [[4],[5],[5,2],[9]] c9_ZbM)))) c19_ZbM))
noncomputable abbrev T_ZbM(nf:Nat):XT:=[e_ZbF nf]
noncomputable def m_ZbM(nf:Nat)(labels:List Str)(args:List Ty):Option (Ty):=runF (T_ZbM nf) nf [.v (kL kS),.v (kL (kR 0))] [.c 4 (.v (kR 0))] ir_ZbM (labels,args,())
noncomputable def X_ZbM{R:Type}(nf:Nat):C->Env->(Xt->Env->Option R)->Option R:=xc (R:=R) (T_ZbM nf).S nf
noncomputable def l8_ZbM(nf:Nat)(m8:Nat)(args:List Ty)(labels:List Str)(x6_8:Int)(y5_2_8:List Ty):Option (Ty):=xit [1,4,5,6] [[4],[5],[5,2],[9]] (X_ZbM nf c9_ZbM) (qB 0 (qS (X_ZbM nf c19_ZbM) (KF [.c 4 (.v (kR 0))]))) m8 ⟨[(1,.v (kL (kR 0)) args),(4,.pt [4] 0),(5,.pt [5] 0),(6,.v kI x6_8)],[([4],.box [.v kI (0:Int),.nl kS,.nl (kR 0)]),([5],.box [.v kI (3:Int),.sl [9],.sl [5,2]]),([5,2],.row false false (kR 0) y5_2_8),([9],.row true false kS labels)]⟩
theorem l8_ZbM_eq(nf:Nat)(m8:Nat)(args:List Ty)(labels:List Str)(x6_8:Int)(y5_2_8:List Ty):l8_ZbM nf (m8+1) args labels x6_8 y5_2_8=(br (decide (x6_8<(List.length args:Int))) (gg (0<=x6_8∧x6_8<(List.length args:Int))<|cb (m_ZbF nf nf (gt args x6_8 Ty.zero)) fun r23=>gg (List.length y5_2_8+List.length ([r23]:List Ty)<=33554432)<|mark (l8_ZbM nf m8 args labels (w64 (x6_8+(1:Int))) (y5_2_8++([r23]:List Ty)))) (some (Ty.mk (3:Int) labels y5_2_8))):=by kernel_rfl
theorem m_ZbM_eq(nf:Nat)(labels:List Str)(args:List Ty):m_ZbM nf labels args=(gg (List.length labels<=33554432)<|mark (l8_ZbM nf nf args labels (0:Int) ([]:List Ty))):=by kernel_rfl
noncomputable def e_ZbM(nf:Nat):XE:=eF 190 [.v (kL kS),.v (kL (kR 0))] [.v (kR 0)] (fun t=>m_ZbM nf t.1 t.2.1)
theorem o_ZbM(nf:Nat):conOK Tryz.prog 190 (e_ZbM nf).con:=by
 have ih:XT.ok Tryz.prog (T_ZbM nf):=by exact⟨o_ZbF nf,trivial⟩
 refine eF_ok fun t x h=> ?_
 obtain⟨labels,args,_⟩:=t
 exact runF_ok (N:=28) ih Tryz.func190 (by kernel_rfl) rfl h
def c23_Zbq:C:=.sq (.rg [.bd 27 0 [],.st T4 T27 (kR 0),.mv 5 (.b false)]) .rt
def c7_Zbq:C:=.sq (.sq (.rg [.mv 10 T6,.bi 11 .geq T10 (.i 0)]) (.cd T11 .skip (.ex 0))) (.sq (.bk 1 (.sq (.rg [.mv 14 T0,.mv 15 T6,.ia 16 T14 T15 (kR 8),.fa 17 T16 8 0 0,.ld 18 T17 kS,.mv 19 T1,.bi 20 .eql T18 T19]) (.cd T20 (.sq (.rg [.mv 21 T0,.mv 22 T6,.ia 23 T21 T22 (kR 8),.fa 24 T23 8 1 1,.ld 25 T24 (kR 0),.cv (some 26) 89 [(T25,.v (kR 0))],.st T4 T26 (kR 0),.mv 5 (.b true)]) .rt) .skip))) (.rg [.mv 12 T6,.bi 13 .sub T12 (.i 1),.mv 6 T13]))
def ir_Zbq:C:=.sq (.rg [.al 4 (kR 0),.mv 5 (.b false)]) (.sq (.sq (.rg [.mv 7 T0,.ln 8 false T7,.bi 9 .sub T8 (.i 1),.mv 6 T9]) (.bk 0 (.lk [0,1,4,6] [[4]] c7_Zbq))) c23_Zbq)
noncomputable abbrev T_Zbq(nf:Nat):XT:=[e_ZbF nf]
noncomputable def m_Zbq(nf:Nat)(ctx:List Typing)(name:Str):Option (Ty×Bool):=runF (T_Zbq nf) nf [.v (kL (kR 8)),.v kS] [.c 4 (.v (kR 0)),.t 5 (.v .bool)] ir_Zbq (ctx,name,())
noncomputable def X_Zbq{R:Type}(nf:Nat):C->Env->(Xt->Env->Option R)->Option R:=xc (R:=R) (T_Zbq nf).S nf
noncomputable def l6_Zbq(nf:Nat)(m6:Nat)(ctx:List Typing)(name:Str)(x6_6:Int):Option (Ty×Bool):=xit [0,1,4,6] [[4]] (X_Zbq nf c7_Zbq) (qB 0 (qS (X_Zbq nf c23_Zbq) (KF [.c 4 (.v (kR 0)),.t 5 (.v .bool)]))) m6 ⟨[(0,.v (kL (kR 8)) ctx),(1,.v kS name),(4,.pt [4] 0),(6,.v kI x6_6)],[([4],.box [.v kI (0:Int),.nl kS,.nl (kR 0)])]⟩
theorem l6_Zbq_eq(nf:Nat)(m6:Nat)(ctx:List Typing)(name:Str)(x6_6:Int):l6_Zbq nf (m6+1) ctx name x6_6=(br (decide ((0:Int)<=x6_6)) (gg (0<=x6_6∧x6_6<(List.length ctx:Int))<|br (((gt ctx x6_6 Typing.zero).name)==name) (gg (0<=x6_6∧x6_6<(List.length ctx:Int))<|cb (m_ZbF nf nf ((gt ctx x6_6 Typing.zero).type)) fun r26=>some ((Ty.h r26),true)) (mark (l6_Zbq nf m6 ctx name (w64 (x6_6-(1:Int)))))) (some ((Ty.mk (0:Int) ([]:List Str) ([]:List Ty)),false))):=by kernel_rfl
theorem m_Zbq_eq(nf:Nat)(ctx:List Typing)(name:Str):m_Zbq nf ctx name=(mark (l6_Zbq nf nf ctx name (w64 ((List.length ctx:Int)-(1:Int))))):=by kernel_rfl
noncomputable def e_Zbq(nf:Nat):XE:=eF 71 [.v (kL (kR 8)),.v kS] [.v (kR 0),.v .bool] (fun t=>m_Zbq nf t.1 t.2.1)
theorem o_Zbq(nf:Nat):conOK Tryz.prog 71 (e_Zbq nf).con:=by
 have ih:XT.ok Tryz.prog (T_Zbq nf):=by exact⟨o_ZbF nf,trivial⟩
 refine eF_ok fun t x h=> ?_
 obtain⟨ctx,name,_⟩:=t
 exact runF_ok (N:=28) ih Tryz.func71 (by kernel_rfl) rfl h
def c23_Zbm:C:=.sq (.rg [.bd 29 0 [],.st T4 T29 (kR 0),.mv 5 (.b false)]) .rt
def c7_Zbm:C:=.sq (.sq (.rg [.mv 7 T6,.fa 8 T2 5 0 0,.ld 9 T8 (kL (kR 4)),.ln 10 false T9,.bi 11 .lss T7 T10]) (.cd T11 .skip (.ex 0))) (.sq (.bk 1 (.sq (.rg [.fa 14 T2 5 0 0,.ld 15 T14 (kL (kR 4)),.mv 16 T6,.ia 17 T15 T16 (kR 4),.fa 18 T17 4 0 0,.ld 19 T18 kS,.mv 20 T1,.bi 21 .eql T19 T20]) (.cd T21 (.sq (.rg [.fa 22 T2 5 0 0,.ld 23 T22 (kL (kR 4)),.mv 24 T6,.ia 25 T23 T24 (kR 4),.fa 26 T25 4 1 1,.ld 27 T26 (kR 0),.cv (some 28) 89 [(T27,.v (kR 0))],.st T4 T28 (kR 0),.mv 5 (.b true)]) .rt) .skip))) (.rg [.mv 12 T6,.bi 13 .add T12 (.i 1),.mv 6 T13]))
def ir_Zbm:C:=.sq (.rg [.bx 2 T0 (kR 5),.al 4 (kR 0),.mv 5 (.b false)]) (.sq (.sq (.rg [.mv 6 (.i 0)]) (.bk 0 (.lk [1,2,4,6] [[2],[4]] c7_Zbm))) c23_Zbm)
noncomputable abbrev T_Zbm(nf:Nat):XT:=[e_ZbF nf]
noncomputable def m_Zbm(nf:Nat)(s:Schema)(name:Str):Option (Ty×Bool):=runF (T_Zbm nf) nf [.v (kR 5),.v kS] [.c 4 (.v (kR 0)),.t 5 (.v .bool)] ir_Zbm (s,name,())
noncomputable def X_Zbm{R:Type}(nf:Nat):C->Env->(Xt->Env->Option R)->Option R:=xc (R:=R) (T_Zbm nf).S nf
noncomputable def l6_Zbm(nf:Nat)(m6:Nat)(name:Str)(s:Schema)(x6_6:Int):Option (Ty×Bool):=xit [1,2,4,6] [[2],[4]] (X_Zbm nf c7_Zbm) (qB 0 (qS (X_Zbm nf c23_Zbm) (KF [.c 4 (.v (kR 0)),.t 5 (.v .bool)]))) m6 ⟨[(1,.v kS name),(2,.pt [2] 0),(4,.pt [4] 0),(6,.v kI x6_6)],[([2],.box [.v (kL (kR 4)) s.tables]),([4],.box [.v kI (0:Int),.nl kS,.nl (kR 0)])]⟩
theorem l6_Zbm_eq(nf:Nat)(m6:Nat)(name:Str)(s:Schema)(x6_6:Int):l6_Zbm nf (m6+1) name s x6_6=(br (decide (x6_6<(List.length s.tables:Int))) (gg (0<=x6_6∧x6_6<(List.length s.tables:Int))<|br (((gt s.tables x6_6 TDecl.zero).name)==name) (gg (0<=x6_6∧x6_6<(List.length s.tables:Int))<|cb (m_ZbF nf nf ((gt s.tables x6_6 TDecl.zero).row)) fun r28=>some ((Ty.h r28),true)) (mark (l6_Zbm nf m6 name s (w64 (x6_6+(1:Int)))))) (some ((Ty.mk (0:Int) ([]:List Str) ([]:List Ty)),false))):=by kernel_rfl
theorem m_Zbm_eq(nf:Nat)(s:Schema)(name:Str):m_Zbm nf s name=(mark (l6_Zbm nf nf name s (0:Int))):=by kernel_rfl
noncomputable def e_Zbm(nf:Nat):XE:=eF 70 [.v (kR 5),.v kS] [.v (kR 0),.v .bool] (fun t=>m_Zbm nf t.1 t.2.1)
theorem o_Zbm(nf:Nat):conOK Tryz.prog 70 (e_Zbm nf).con:=by
 have ih:XT.ok Tryz.prog (T_Zbm nf):=by exact⟨o_ZbF nf,trivial⟩
 refine eF_ok fun t x h=> ?_
 obtain⟨s,name,_⟩:=t
 exact runF_ok (N:=30) ih Tryz.func70 (by kernel_rfl) rfl h
def ir_Zbp:C:=.sq (.rg [.bx 3 T0 (kR 5),.bx 5 T2 (kR 2),.al 6 (kR 0),.mv 7 (.b false)]) (.sq (.sq (.rg [.fa 12 T5 2 0 0,.ld 13 T12 kI]) (.bk 0 (.sq (.rg [.bi 15 .eql T13 (.i 1),.mv 14 T15]) (.cd T14 (.sq (.rg [.mv 17 T1,.fa 18 T5 2 1 1,.ld 19 T18 kS,.ca (some 20) 71 [(T17,.v (kL (kR 8))),(T19,.v kS)],.mv 16 T20,.xt 21 T16 0,.xt 22 T16 1,.al 8 (kR 0),.st T8 T21 (kR 0),.mv 9 T22]) (.sq (.rg [.ld 23 T8 (kR 0),.mv 24 T9,.st T6 T23 (kR 0),.mv 7 T24]) .rt)) (.sq (.rg [.bi 26 .eql T13 (.i 2),.mv 25 T26]) (.cd T25 (.sq (.rg [.cv (some 27) 115 [],.st T6 T27 (kR 0),.mv 7 (.b true)]) .rt) (.sq (.rg [.bi 29 .eql T13 (.i 3),.mv 28 T29]) (.cd T28 (.sq (.rg [.cv (some 30) 94 [],.st T6 T30 (kR 0),.mv 7 (.b true)]) .rt) (.sq (.rg [.bi 32 .eql T13 (.i 7),.mv 31 T32]) (.cd T31 (.sq (.rg [.fa 33 T5 2 3 3,.ld 34 T33 (kR 0),.cv (some 35) 188 [(T34,.v (kR 0))],.st T6 T35 (kR 0),.mv 7 (.b true)]) .rt) .skip)))))))))) (.sq (.rg [.ld 37 T3 (kR 5),.fa 38 T5 2 1 1,.ld 39 T38 kS,.ca (some 40) 70 [(T37,.v (kR 5)),(T39,.v kS)],.mv 36 T40,.xt 41 T36 0,.xt 42 T36 1,.al 10 (kR 0),.st T10 T41 (kR 0),.mv 11 T42]) (.sq (.rg [.ld 43 T10 (kR 0),.cv (some 44) 188 [(T43,.v (kR 0))],.mv 45 T11,.st T6 T44 (kR 0),.mv 7 T45]) .rt)))
noncomputable abbrev T_Zbp(nf:Nat):XT:=[e_Zbq nf,e_ZbJ nf,e_ZbE nf,e_ZbC nf,e_Zbm nf]
noncomputable def m_Zbp(nf:Nat)(s:Schema)(ctx:List Typing)(e:Tm):Option (Ty×Bool):=runF (T_Zbp nf) nf [.v (kR 5),.v (kL (kR 8)),.v (kR 2)] [.c 6 (.v (kR 0)),.t 7 (.v .bool)] ir_Zbp (s,ctx,e,())
theorem m_Zbp_eq(nf:Nat)(s:Schema)(ctx:List Typing)(e:Tm):m_Zbp nf s ctx e=(br (e.kind==(1:Int)) (cb (m_Zbq nf ctx e.name) fun r20=>some ((Ty.h r20.1),r20.2)) (br (e.kind==(2:Int)) (cb (m_ZbJ nf) fun r27=>some ((Ty.h r27),true)) (br (e.kind==(3:Int)) (cb (m_ZbE nf) fun r30=>some ((Ty.h r30),true)) (br (e.kind==(7:Int)) (cb (m_ZbC nf (Ty.h e.type)) fun r35=>some ((Ty.h r35),true)) (cb (m_Zbm nf s e.name) fun r40=>cb (m_ZbC nf (Ty.h r40.1)) fun r44=>some ((Ty.h r44),r40.2)))))):=by kernel_rfl
noncomputable def e_Zbp(nf:Nat):XE:=eF 176 [.v (kR 5),.v (kL (kR 8)),.v (kR 2)] [.v (kR 0),.v .bool] (fun t=>m_Zbp nf t.1 t.2.1 t.2.2.1)
theorem o_Zbp(nf:Nat):conOK Tryz.prog 176 (e_Zbp nf).con:=by
 have ih:XT.ok Tryz.prog (T_Zbp nf):=by exact⟨o_Zbq nf,o_ZbJ nf,o_ZbE nf,o_ZbC nf,o_Zbm nf,trivial⟩
 refine eF_ok fun t x h=> ?_
 obtain⟨s,ctx,e,_⟩:=t
 exact runF_ok (N:=46) ih Tryz.func176 (by kernel_rfl) rfl h
def c39_Zbr:C:=.sq (.rg [.cv (some 39) 94 [],.st T4 T39 (kR 0),.mv 5 (.b true)]) .rt
def c34_Zbr:C:=.cd T37 (.sq (.rg [.cv (some 38) 115 [],.st T4 T38 (kR 0),.mv 5 (.b true)]) .rt) .skip
def w34_Zbr:C:=.kp [4,37] [[4]] c34_Zbr
def c31_Zbr:C:=.sq (.sq (.rg [.mv 32 T0,.bi 33 .eql T32 (.s [43]),.mv 34 T33,.g 34 false (.mv 35 T0),.g 34 false (.bi 36 .eql T35 (.s [45])),.pk 37 T34 (.b true) T36]) w34_Zbr) c39_Zbr
def w31_Zbr:C:=.kp [0,4] [[4]] c31_Zbr
def c15_Zbr:C:=.sq (.sq (.rg [.mv 18 T7,.mv 19 T1,.ln 20 false T19,.bi 21 .lss T18 T20]) (.cd T21 .skip (.ex 0))) (.sq (.bk 1 (.sq (.rg [.mv 24 T1,.mv 25 T7,.ia 26 T24 T25 (kR 0),.fa 27 T26 0 0 0,.ld 28 T27 kI,.mv 29 T6,.bi 30 .neq T28 T29]) (.cd T30 (.sq (.rg [.bd 31 0 [],.st T4 T31 (kR 0),.mv 5 (.b false)]) .rt) .skip))) (.rg [.mv 22 T7,.bi 23 .add T22 (.i 1),.mv 7 T23]))
def c10_Zbr:C:=.sq (.sq (.rg [.mv 7 (.i 0)]) (.bk 0 (.lk [0,1,4,6,7] [[4]] c15_Zbr))) w31_Zbr
def w10_Zbr:C:=.kp [0,1,4,6] [[4]] c10_Zbr
def c7_Zbr:C:=.cd T17 (.rg [.mv 6 (.i 2)]) .skip
def w7_Zbr:C:=.kp [0,1,4,6,17] [[4]] c7_Zbr
def ir_Zbr:C:=.sq (.rg [.al 4 (kR 0),.mv 5 (.b false)]) (.sq (.rg [.mv 6 (.i 1)]) (.sq (.sq (.rg [.mv 8 T0,.bi 9 .eql T8 (.s [38]),.mv 10 T9,.g 10 false (.mv 11 T0),.g 10 false (.bi 12 .eql T11 (.s [124])),.pk 13 T10 (.b true) T12,.mv 14 T13,.g 14 false (.mv 15 T0),.g 14 false (.bi 16 .eql T15 (.s [33])),.pk 17 T14 (.b true) T16]) w7_Zbr) w10_Zbr))
noncomputable abbrev T_Zbr(nf:Nat):XT:=[e_ZbJ nf,e_ZbE nf]
noncomputable def m_Zbr(nf:Nat)(op:Str)(args:List Ty):Option (Ty×Bool):=runF (T_Zbr nf) nf [.v kS,.v (kL (kR 0))] [.c 4 (.v (kR 0)),.t 5 (.v .bool)] ir_Zbr (op,args,())
noncomputable def X_Zbr{R:Type}(nf:Nat):C->Env->(Xt->Env->Option R)->Option R:=xc (R:=R) (T_Zbr nf).S nf
noncomputable def j7_Zbr(nf:Nat)(op:Str)(args:List Ty)(x17_7:Bool):Option (Ty×Bool):=X_Zbr nf c7_Zbr ⟨[(0,.v kS op),(1,.v (kL (kR 0)) args),(4,.pt [4] 0),(6,.v kI (1:Int)),(17,.v .bool x17_7)],[([4],.box [.v kI (0:Int),.nl kS,.nl (kR 0)])]⟩ (qS (X_Zbr nf w10_Zbr) (KF [.c 4 (.v (kR 0)),.t 5 (.v .bool)]))
noncomputable def l14_Zbr(nf:Nat)(m14:Nat)(op:Str)(args:List Ty)(x6_10:Int)(x7_14:Int):Option (Ty×Bool):=xit [0,1,4,6,7] [[4]] (X_Zbr nf c15_Zbr) (qB 0 (qS (X_Zbr nf w31_Zbr) (KF [.c 4 (.v (kR 0)),.t 5 (.v .bool)]))) m14 ⟨[(0,.v kS op),(1,.v (kL (kR 0)) args),(4,.pt [4] 0),(6,.v kI x6_10),(7,.v kI x7_14)],[([4],.box [.v kI (0:Int),.nl kS,.nl (kR 0)])]⟩
noncomputable def j34_Zbr(nf:Nat)(x37_34:Bool):Option (Ty×Bool):=X_Zbr nf c34_Zbr ⟨[(4,.pt [4] 0),(37,.v .bool x37_34)],[([4],.box [.v kI (0:Int),.nl kS,.nl (kR 0)])]⟩ (qS (X_Zbr nf c39_Zbr) (KF [.c 4 (.v (kR 0)),.t 5 (.v .bool)]))
noncomputable def j31_Zbr(nf:Nat)(op:Str):Option (Ty×Bool):=X_Zbr nf c31_Zbr ⟨[(0,.v kS op),(4,.pt [4] 0)],[([4],.box [.v kI (0:Int),.nl kS,.nl (kR 0)])]⟩ (KF [.c 4 (.v (kR 0)),.t 5 (.v .bool)])
noncomputable def j10_Zbr(nf:Nat)(op:Str)(args:List Ty)(x6_10:Int):Option (Ty×Bool):=X_Zbr nf c10_Zbr ⟨[(0,.v kS op),(1,.v (kL (kR 0)) args),(4,.pt [4] 0),(6,.v kI x6_10)],[([4],.box [.v kI (0:Int),.nl kS,.nl (kR 0)])]⟩ (KF [.c 4 (.v (kR 0)),.t 5 (.v .bool)])
theorem j7_Zbr_eq(nf:Nat)(op:Str)(args:List Ty)(x17_7:Bool):j7_Zbr nf op args x17_7=(br x17_7 (mark (j10_Zbr nf op args (2:Int))) (mark (j10_Zbr nf op args (1:Int)))):=by
 unfold j7_Zbr j10_Zbr c7_Zbr w10_Zbr
 generalize c10_Zbr=x0
 revert x0
 refine id ?_
 intro x0
 kernel_rfl
theorem l14_Zbr_eq(nf:Nat)(m14:Nat)(op:Str)(args:List Ty)(x6_10:Int)(x7_14:Int):l14_Zbr nf (m14+1) op args x6_10 x7_14=(br (decide (x7_14<(List.length args:Int))) (gg (0<=x7_14∧x7_14<(List.length args:Int))<|br (!(((gt args x7_14 Ty.zero).kind)==x6_10)) (some ((Ty.mk (0:Int) ([]:List Str) ([]:List Ty)),false)) (mark (l14_Zbr nf m14 op args x6_10 (w64 (x7_14+(1:Int)))))) (mark (j31_Zbr nf op))):=by
 unfold l14_Zbr j31_Zbr c15_Zbr w31_Zbr
 generalize c31_Zbr=x0
 revert x0
 refine id ?_
 intro x0
 kernel_rfl
theorem j34_Zbr_eq(nf:Nat)(x37_34:Bool):j34_Zbr nf x37_34=(br x37_34 (cb (m_ZbJ nf) fun r38=>some ((Ty.h r38),true)) (cb (m_ZbE nf) fun r39=>some ((Ty.h r39),true))):=by kernel_rfl
theorem j31_Zbr_eq(nf:Nat)(op:Str):j31_Zbr nf op=(br ((op==([43]:Str))==false) (mark (j34_Zbr nf (op==([45]:Str)))) (mark (j34_Zbr nf true))):=by
 unfold j31_Zbr j34_Zbr c31_Zbr w34_Zbr c39_Zbr
 generalize c34_Zbr=x0
 revert x0
 refine id ?_
 intro x0
 kernel_rfl
theorem j10_Zbr_eq(nf:Nat)(op:Str)(args:List Ty)(x6_10:Int):j10_Zbr nf op args x6_10=(mark (l14_Zbr nf nf op args x6_10 (0:Int))):=by
 unfold j10_Zbr l14_Zbr c10_Zbr w31_Zbr
 generalize c31_Zbr=x0
 revert x0
 refine id ?_
 intro x0
 kernel_rfl
theorem m_Zbr_eq(nf:Nat)(op:Str)(args:List Ty):m_Zbr nf op args=(br ((op==([38]:Str))==false) (br ((op==([124]:Str))==false) (mark (j7_Zbr nf op args (op==([33]:Str)))) (mark (j7_Zbr nf op args true))) (mark (j7_Zbr nf op args true))):=by
 unfold m_Zbr j7_Zbr ir_Zbr w7_Zbr w10_Zbr
 generalize c7_Zbr=x0
 generalize c10_Zbr=x1
 revert x0 x1
 refine id ?_
 intro x0 x1
 kernel_rfl
noncomputable def e_Zbr(nf:Nat):XE:=eF 189 [.v kS,.v (kL (kR 0))] [.v (kR 0),.v .bool] (fun t=>m_Zbr nf t.1 t.2.1)
theorem o_Zbr(nf:Nat):conOK Tryz.prog 189 (e_Zbr nf).con:=by
 have ih:XT.ok Tryz.prog (T_Zbr nf):=by exact⟨o_ZbJ nf,o_ZbE nf,trivial⟩
 refine eF_ok fun t x h=> ?_
 obtain⟨op,args,_⟩:=t
 exact runF_ok (N:=40) ih Tryz.func189 (by kernel_rfl) rfl h
def c12_Zbc:C:=.sq (.rg [.fa 24 T2 0 2 2,.ld 25 T24 (kL (kR 0)),.mv 26 T6,.ia 27 T25 T26 (kR 0),.ld 28 T27 (kR 0),.cv (some 29) 89 [(T28,.v (kR 0))],.st T4 T29 (kR 0),.mv 5 (.b true)]) .rt
def c7_Zbc:C:=.cd T22 (.sq (.rg [.bd 23 0 [],.st T4 T23 (kR 0),.mv 5 (.b false)]) .rt) .skip
def w7_Zbc:C:=.kp [2,4,6,22] [[2],[4]] c7_Zbc
def ir_Zbc:C:=.sq (.rg [.bx 2 T0 (kR 0),.al 4 (kR 0),.mv 5 (.b false)]) (.sq (.rg [.fa 7 T2 0 1 1,.ld 8 T7 (kL kS),.mv 9 T1,.cv (some 10) 88 [(T8,.v (kL kS)),(T9,.v kS)],.mv 6 T10]) (.sq (.sq (.rg [.ld 11 T2 (kR 0),.cv (some 12) 87 [(T11,.v (kR 0))],.un 13 .not T12,.mv 14 T13,.g 14 false (.fa 15 T2 0 0 0),.g 14 false (.ld 16 T15 kI),.g 14 false (.bi 17 .neq T16 (.i 3)),.pk 18 T14 (.b true) T17,.mv 19 T18,.g 19 false (.mv 20 T6),.g 19 false (.bi 21 .lss T20 (.i 0)),.pk 22 T19 (.b true) T21]) w7_Zbc) c12_Zbc))
noncomputable abbrev T_Zbc(nf:Nat):XT:=[e_Zbd nf,e_Zbk nf,e_ZbF nf]
noncomputable def m_Zbc(nf:Nat)(t:Ty)(label:Str):Option (Ty×Bool):=runF (T_Zbc nf) nf [.v (kR 0),.v kS] [.c 4 (.v (kR 0)),.t 5 (.v .bool)] ir_Zbc (t,label,())
noncomputable def X_Zbc{R:Type}(nf:Nat):C->Env->(Xt->Env->Option R)->Option R:=xc (R:=R) (T_Zbc nf).S nf
noncomputable def j7_Zbc(nf:Nat)(r10:Int)(t:Ty)(x22_7:Bool):Option (Ty×Bool):=X_Zbc nf c7_Zbc ⟨[(2,.pt [2] 0),(4,.pt [4] 0),(6,.v kI r10),(22,.v .bool x22_7)],[([2],.box [.v kI t.kind,.v (kL kS) t.labels,.v (kL (kR 0)) t.args]),([4],.box [.v kI (0:Int),.nl kS,.nl (kR 0)])]⟩ (qS (X_Zbc nf c12_Zbc) (KF [.c 4 (.v (kR 0)),.t 5 (.v .bool)]))
theorem j7_Zbc_eq(nf:Nat)(r10:Int)(t:Ty)(x22_7:Bool):j7_Zbc nf r10 t x22_7=(br x22_7 (some ((Ty.mk (0:Int) ([]:List Str) ([]:List Ty)),false)) (gg (0<=r10∧r10<(List.length t.args:Int))<|cb (m_ZbF nf nf (gt t.args r10 Ty.zero)) fun r29=>some ((Ty.h r29),true))):=by kernel_rfl
theorem m_Zbc_eq(nf:Nat)(t:Ty)(label:Str):m_Zbc nf t label=(cb (m_Zbd nf t.labels label) fun r10=>cb (m_Zbk nf (Ty.h t)) fun r12=>br ((!r12)==false) (br ((!(t.kind==(3:Int)))==false) (mark (j7_Zbc nf r10 t (decide (r10<(0:Int))))) (mark (j7_Zbc nf r10 t true))) (mark (j7_Zbc nf r10 t true))):=by
 unfold m_Zbc j7_Zbc ir_Zbc w7_Zbc c12_Zbc
 generalize c7_Zbc=x0
 revert x0
 refine id ?_
 intro x0
 kernel_rfl
noncomputable def e_Zbc(nf:Nat):XE:=eF 191 [.v (kR 0),.v kS] [.v (kR 0),.v .bool] (fun t=>m_Zbc nf t.1 t.2.1)
theorem o_Zbc(nf:Nat):conOK Tryz.prog 191 (e_Zbc nf).con:=by
 have ih:XT.ok Tryz.prog (T_Zbc nf):=by exact⟨o_Zbd nf,o_Zbk nf,o_ZbF nf,trivial⟩
 refine eF_ok fun t x h=> ?_
 obtain⟨t,label,_⟩:=t
 exact runF_ok (N:=30) ih Tryz.func191 (by kernel_rfl) rfl h
def c31_ZbN:C:=.sq (.rg [.mv 4 (.b true)]) .rt
def c15_ZbN:C:=.sq (.sq (.rg [.mv 11 T5,.mv 12 T0,.ln 13 false T12,.bi 14 .lss T11 T13]) (.cd T14 .skip (.ex 0))) (.sq (.bk 1 (.sq (.dr [] [.mv 17 T0,.mv 18 T5,.ia 19 T17 T18 kS,.ld 20 T19 kS,.mv 21 T1,.mv 22 T5,.ia 23 T21 T22 kS,.ld 24 T23 kS] [.bi 25 .neq T20 T24]) (.cd T25 (.sq (.rg [.mv 4 (.b false)]) .rt) .skip))) (.rg [.mv 15 T5,.bi 16 .add T15 (.i 1),.mv 5 T16]))
def ir_ZbN:C:=.sq (.rg [.mv 4 (.b false)]) (.sq (.sq (.rg [.mv 6 T0,.ln 7 false T6,.mv 8 T1,.ln 9 false T8,.bi 10 .neq T7 T9]) (.cd T10 (.sq (.rg [.mv 4 (.b false)]) .rt) .skip)) (.sq (.sq (.rg [.mv 5 (.i 0)]) (.bk 0 (.lk [0,1,5] [] c15_ZbN))) c31_ZbN))
noncomputable abbrev T_ZbN(nf:Nat):XT:=[]
noncomputable def m_ZbN(nf:Nat)(a:List Str)(b:List Str):Option (Bool):=runF (T_ZbN nf) nf [.v (kL kS),.v (kL kS)] [.t 4 (.v .bool)] ir_ZbN (a,b,())
noncomputable def X_ZbN{R:Type}(nf:Nat):C->Env->(Xt->Env->Option R)->Option R:=xc (R:=R) (T_ZbN nf).S nf
noncomputable def l14_ZbN(nf:Nat)(m14:Nat)(a:List Str)(b:List Str)(x5_14:Int):Option (Bool):=xit [0,1,5] [] (X_ZbN nf c15_ZbN) (qB 0 (qS (X_ZbN nf c31_ZbN) (KF [.t 4 (.v .bool)]))) m14 ⟨[(0,.v (kL kS) a),(1,.v (kL kS) b),(5,.v kI x5_14)],[]⟩
theorem l14_ZbN_eq(nf:Nat)(m14:Nat)(a:List Str)(b:List Str)(x5_14:Int):l14_ZbN nf (m14+1) a b x5_14=(br (decide (x5_14<(List.length a:Int))) (gg (0<=x5_14∧x5_14<(List.length a:Int))<|gg (0<=x5_14∧x5_14<(List.length b:Int))<|br (!((gt a x5_14 ([]:Str))==(gt b x5_14 ([]:Str)))) (some false) (mark (l14_ZbN nf m14 a b (w64 (x5_14+(1:Int)))))) (some true)):=by kernel_rfl
theorem m_ZbN_eq(nf:Nat)(a:List Str)(b:List Str):m_ZbN nf a b=(br (!((List.length a:Int)==(List.length b:Int))) (some false) (mark (l14_ZbN nf nf a b (0:Int)))):=by kernel_rfl
noncomputable def e_ZbN(nf:Nat):XE:=eF 146 [.v (kL kS),.v (kL kS)] [.v .bool] (fun t=>m_ZbN nf t.1 t.2.1)
theorem o_ZbN(nf:Nat):conOK Tryz.prog 146 (e_ZbN nf).con:=by
 have ih:XT.ok Tryz.prog (T_ZbN nf):=by exact trivial
 refine eF_ok fun t x h=> ?_
 obtain⟨a,b,_⟩:=t
 exact runF_ok (N:=26) ih Tryz.func146 (by kernel_rfl) rfl h
def c31_Zbb:C:=.sq (.rg [.mv 4 (.b true)]) .rt
def c15_Zbb:C:=.sq (.sq (.rg [.mv 28 T5,.fa 29 T2 0 2 2,.ld 30 T29 (kL (kR 0)),.ln 31 false T30,.bi 32 .lss T28 T31]) (.cd T32 .skip (.ex 0))) (.sq (.bk 1 (.sq (.dr [] [.fa 35 T2 0 2 2,.ld 36 T35 (kL (kR 0)),.mv 37 T5,.ia 38 T36 T37 (kR 0),.ld 39 T38 (kR 0),.fa 40 T3 0 2 2,.ld 41 T40 (kL (kR 0)),.mv 42 T5,.ia 43 T41 T42 (kR 0),.ld 44 T43 (kR 0)] [.cv (some 45) 135 [(T39,.v (kR 0)),(T44,.v (kR 0))],.un 46 .not T45]) (.cd T46 (.sq (.rg [.mv 4 (.b false)]) .rt) .skip))) (.rg [.mv 33 T5,.bi 34 .add T33 (.i 1),.mv 5 T34]))
def c10_Zbb:C:=.sq (.sq (.rg [.mv 5 (.i 0)]) (.bk 0 (.lk [2,3,5] [[2],[3]] c15_Zbb))) c31_Zbb
def c5_Zbb:C:=.cd T27 (.sq (.rg [.mv 4 (.b false)]) .rt) .skip
def w5_Zbb:C:=.kp [2,3,27] [[2],[3]] c5_Zbb
def ir_Zbb:C:=.sq (.rg [.bx 2 T0 (kR 0),.bx 3 T1 (kR 0),.mv 4 (.b false)]) (.sq (.sq (.rg [.fa 6 T2 0 0 0,.ld 7 T6 kI,.fa 8 T3 0 0 0,.ld 9 T8 kI,.bi 10 .neq T7 T9,.mv 11 T10,.g 11 false (.fa 12 T2 0 1 1),.g 11 false (.ld 13 T12 (kL kS)),.g 11 false (.fa 14 T3 0 1 1),.g 11 false (.ld 15 T14 (kL kS)),.g 11 false (.cv (some 16) 146 [(T13,.v (kL kS)),(T15,.v (kL kS))]),.g 11 false (.un 17 .not T16),.pk 18 T11 (.b true) T17,.mv 19 T18,.g 19 false (.fa 20 T2 0 2 2),.g 19 false (.ld 21 T20 (kL (kR 0))),.g 19 false (.ln 22 false T21),.g 19 false (.fa 23 T3 0 2 2),.g 19 false (.ld 24 T23 (kL (kR 0))),.g 19 false (.ln 25 false T24),.g 19 false (.bi 26 .neq T22 T25),.pk 27 T19 (.b true) T26]) w5_Zbb) c10_Zbb)
noncomputable def B_Zbb(nf:Nat):XT:=[e_ZbN nf]
noncomputable def G_Zbb(nf:Nat):Nat->XT
 |0=>[]
 |kf+1=>[eF 135 [.v (kR 0),.v (kR 0)] [.v .bool] (fun t=>(fun(a:Ty) (b:Ty)=>runF (G_Zbb nf kf++B_Zbb nf) nf [.v (kR 0),.v (kR 0)] [.t 4 (.v .bool)] ir_Zbb (a,b,())) t.1 t.2.1)]
noncomputable abbrev T_Zbb(nf kf:Nat):XT:=G_Zbb nf kf++B_Zbb nf
noncomputable def m_Zbb(nf kf:Nat)(a:Ty)(b:Ty):Option (Bool):=runF (T_Zbb nf kf) nf [.v (kR 0),.v (kR 0)] [.t 4 (.v .bool)] ir_Zbb (a,b,())
noncomputable def X_Zbb{R:Type}(nf kf:Nat):C->Env->(Xt->Env->Option R)->Option R:=xc (R:=R) (T_Zbb nf kf).S nf
noncomputable def j5_Zbb(nf kf:Nat)(a:Ty)(b:Ty)(x27_5:Bool):Option (Bool):=X_Zbb nf kf c5_Zbb ⟨[(2,.pt [2] 0),(3,.pt [3] 0),(27,.v .bool x27_5)],[([2],.box [.v kI a.kind,.v (kL kS) a.labels,.v (kL (kR 0)) a.args]),([3],.box [.v kI b.kind,.v (kL kS) b.labels,.v (kL (kR 0)) b.args])]⟩ (qS (X_Zbb nf kf c10_Zbb) (KF [.t 4 (.v .bool)]))
noncomputable def l14_Zbb(nf kf:Nat)(m14:Nat)(a:Ty)(b:Ty)(x5_14:Int):Option (Bool):=xit [2,3,5] [[2],[3]] (X_Zbb nf kf c15_Zbb) (qB 0 (qS (X_Zbb nf kf c31_Zbb) (KF [.t 4 (.v .bool)]))) m14 ⟨[(2,.pt [2] 0),(3,.pt [3] 0),(5,.v kI x5_14)],[([2],.box [.v kI a.kind,.v (kL kS) a.labels,.v (kL (kR 0)) a.args]),([3],.box [.v kI b.kind,.v (kL kS) b.labels,.v (kL (kR 0)) b.args])]⟩
theorem j5_Zbb_eq(nf kf:Nat)(a:Ty)(b:Ty)(x27_5:Bool):j5_Zbb nf (kf+1) a b x27_5=(br x27_5 (some false) (mark (l14_Zbb nf (kf+1) nf a b (0:Int)))):=by kernel_rfl
theorem l14_Zbb_eq(nf kf:Nat)(m14:Nat)(a:Ty)(b:Ty)(x5_14:Int):l14_Zbb nf (kf+1) (m14+1) a b x5_14=(br (decide (x5_14<(List.length a.args:Int))) (gg (0<=x5_14∧x5_14<(List.length a.args:Int))<|gg (0<=x5_14∧x5_14<(List.length b.args:Int))<|cb (m_Zbb nf kf (gt a.args x5_14 Ty.zero) (gt b.args x5_14 Ty.zero)) fun r45=>br (!r45) (some false) (mark (l14_Zbb nf (kf+1) m14 a b (w64 (x5_14+(1:Int)))))) (some true)):=by kernel_rfl
theorem m_Zbb_eq(nf kf:Nat)(a:Ty)(b:Ty):m_Zbb nf (kf+1) a b=(br ((!(a.kind==b.kind))==false) (cb (m_ZbN nf a.labels b.labels) fun r16=>br ((!r16)==false) (mark (j5_Zbb nf (kf+1) a b (!((List.length a.args:Int)==(List.length b.args:Int))))) (mark (j5_Zbb nf (kf+1) a b true))) (mark (j5_Zbb nf (kf+1) a b true))):=by
 unfold m_Zbb j5_Zbb ir_Zbb w5_Zbb c10_Zbb c31_Zbb
 generalize c5_Zbb=x0
 revert x0
 refine id ?_
 intro x0
 kernel_rfl
noncomputable def e_Zbb(nf:Nat):XE:=eF 135 [.v (kR 0),.v (kR 0)] [.v .bool] (fun t=>m_Zbb nf nf t.1 t.2.1)
theorem gok_Zbb(nf:Nat):∀kf:Nat,XT.ok Tryz.prog (G_Zbb nf kf++B_Zbb nf)
 |0=>by exact⟨o_ZbN nf,trivial⟩
 |kf+1=>by
  have ih:=gok_Zbb nf kf
  refine⟨?_,(by exact⟨o_ZbN nf,trivial⟩)⟩
  ·refine eF_ok fun t x h=> ?_
   obtain⟨a,b,_⟩:=t
   exact runF_ok (N:=47) ih Tryz.func135 (by kernel_rfl) rfl h
theorem o_Zbb(nf:Nat):conOK Tryz.prog 135 (e_Zbb nf).con:=by
 have ih:=gok_Zbb nf nf
 refine eF_ok fun t x h=> ?_
 obtain⟨a,b,_⟩:=t
 exact runF_ok (N:=47) ih Tryz.func135 (by kernel_rfl) rfl h
def c69_Zbo:C:=.sq (.rg [.bd 128 0 [],.st T4 T128 (kR 0),.mv 5 (.b false)]) .rt
def c51_Zbo:C:=.cd T104 (.sq (.rg [.mv 105 T1,.ia 106 T105 (.i 0) (kR 0),.fa 107 T106 0 2 2,.ld 108 T107 (kL (kR 0)),.ia 109 T108 (.i 1) (kR 0),.ld 110 T109 (kR 0),.cv (some 111) 89 [(T110,.v (kR 0))],.st T4 T111 (kR 0),.mv 5 (.b true)]) .rt) .skip
def w51_Zbo:C:=.kp [1,4,104] [[4]] c51_Zbo
def ir_Zbo:C:=.sq (.rg [.bx 2 T0 (kR 2),.al 4 (kR 0),.mv 5 (.b false)]) (.sq (.sq (.rg [.fa 10 T2 2 0 0,.ld 11 T10 kI]) (.bk 0 (.sq (.rg [.bi 13 .eql T11 (.i 4),.mv 12 T13]) (.cd T12 (.sq (.rg [.fa 15 T2 2 1 1,.ld 16 T15 kS,.mv 17 T1,.ca (some 18) 189 [(T16,.v kS),(T17,.v (kL (kR 0)))],.mv 14 T18,.xt 19 T14 0,.xt 20 T14 1,.al 6 (kR 0),.st T6 T19 (kR 0),.mv 7 T20]) (.sq (.rg [.ld 21 T6 (kR 0),.mv 22 T7,.st T4 T21 (kR 0),.mv 5 T22]) .rt)) (.sq (.rg [.bi 24 .eql T11 (.i 5),.mv 23 T24]) (.cd T23 (.sq (.rg [.fa 25 T2 2 4 6,.ld 26 T25 (kL kS),.mv 27 T1,.cv (some 28) 190 [(T26,.v (kL kS)),(T27,.v (kL (kR 0)))],.st T4 T28 (kR 0),.mv 5 (.b true)]) .rt) (.sq (.rg [.bi 30 .eql T11 (.i 6),.mv 29 T30]) (.cd T29 (.sq (.dw [37,8] [31] [.mv 32 T1,.ia 33 T32 (.i 0) (kR 0),.ld 34 T33 (kR 0),.fa 35 T2 2 1 1,.ld 36 T35 kS,.ca (some 37) 191 [(T34,.v (kR 0)),(T36,.v kS)],.mv 31 T37,.xt 38 T31 0,.xt 39 T31 1,.al 8 (kR 0)] 8 T38 (kR 0) [.mv 9 T39]) (.sq (.rg [.ld 40 T8 (kR 0),.mv 41 T9,.st T4 T40 (kR 0),.mv 5 T41]) .rt)) (.sq (.rg [.bi 43 .eql T11 (.i 8),.mv 42 T43]) (.cd T42 (.sq (.rg [.mv 44 T1,.ia 45 T44 (.i 0) (kR 0),.ld 46 T45 (kR 0),.cv (some 47) 188 [(T46,.v (kR 0))],.st T4 T47 (kR 0),.mv 5 (.b true)]) .rt) (.sq (.rg [.bi 49 .eql T11 (.i 9),.mv 48 T49]) (.cd T48 (.sq (.dw [] [58,65] [.mv 50 T1,.ia 51 T50 (.i 0) (kR 0),.ld 52 T51 (kR 0),.mv 53 T1,.ia 54 T53 (.i 0) (kR 0),.fa 55 T54 0 0 0,.ld 56 T55 kI,.bi 57 .eql T56 (.i 4),.mv 58 T57,.g 58 true (.mv 59 T1),.g 58 true (.ia 60 T59 (.i 0) (kR 0)),.g 58 true (.ld 61 T60 (kR 0)),.g 58 true (.mv 62 T1),.g 58 true (.ia 63 T62 (.i 1) (kR 0)),.g 58 true (.ld 64 T63 (kR 0)),.g 58 true (.cv (some 65) 135 [(T61,.v (kR 0)),(T64,.v (kR 0))]),.pk 66 T58 T65 (.b false)] 4 T52 (kR 0) [.mv 5 T66]) .rt) (.sq (.rg [.bi 68 .eql T11 (.i 11),.mv 67 T68]) (.cd T67 (.sq (.dw [] [77,84] [.mv 69 T1,.ia 70 T69 (.i 1) (kR 0),.ld 71 T70 (kR 0),.mv 72 T1,.ia 73 T72 (.i 0) (kR 0),.fa 74 T73 0 0 0,.ld 75 T74 kI,.bi 76 .eql T75 (.i 2),.mv 77 T76,.g 77 true (.mv 78 T1),.g 77 true (.ia 79 T78 (.i 1) (kR 0)),.g 77 true (.ld 80 T79 (kR 0)),.g 77 true (.mv 81 T1),.g 77 true (.ia 82 T81 (.i 2) (kR 0)),.g 77 true (.ld 83 T82 (kR 0)),.g 77 true (.cv (some 84) 135 [(T80,.v (kR 0)),(T83,.v (kR 0))]),.pk 85 T77 T84 (.b false)] 4 T71 (kR 0) [.mv 5 T85]) .rt) (.sq (.rg [.bi 87 .eql T11 (.i 14),.mv 86 T87]) (.cd T86 (.sq (.dr [] [.mv 88 T1,.ia 89 T88 (.i 0) (kR 0),.fa 90 T89 0 0 0,.ld 91 T90 kI,.bi 92 .eql T91 (.i 5),.mv 93 T92,.g 93 true (.mv 94 T1),.g 93 true (.ia 95 T94 (.i 0) (kR 0)),.g 93 true (.fa 96 T95 0 2 2),.g 93 true (.ld 97 T96 (kL (kR 0))),.g 93 true (.ia 98 T97 (.i 0) (kR 0)),.g 93 true (.ld 99 T98 (kR 0)),.g 93 true (.mv 100 T1),.g 93 true (.ia 101 T100 (.i 1) (kR 0)),.g 93 true (.ld 102 T101 (kR 0))] [.g 93 true (.cv (some 103) 135 [(T99,.v (kR 0)),(T102,.v (kR 0))]),.pk 104 T93 T103 (.b false)]) w51_Zbo) (.sq (.rg [.bi 113 .eql T11 (.i 15),.mv 112 T113]) (.cd T112 (.sq (.dw [] [1,115,116,117,118] [.cv (some 114) 94 [],.mv 115 T1,.ia 116 T115 (.i 0) (kR 0),.fa 117 T116 0 0 0,.ld 118 T117 kI,.bi 119 .eql T118 (.i 4)] 4 T114 (kR 0) [.mv 5 T119]) .rt) (.sq (.rg [.bi 121 .eql T11 (.i 16),.mv 120 T121]) (.cd T120 (.sq (.dw [] [1,123,124,125,126] [.cv (some 122) 115 [],.mv 123 T1,.ia 124 T123 (.i 0) (kR 0),.fa 125 T124 0 0 0,.ld 126 T125 kI,.bi 127 .eql T126 (.i 4)] 4 T122 (kR 0) [.mv 5 T127]) .rt) .skip)))))))))))))))))))) c69_Zbo)
noncomputable abbrev T_Zbo(nf:Nat):XT:=[e_Zbr nf,e_ZbM nf,e_Zbc nf,e_ZbC nf,e_Zbb nf,e_ZbF nf,e_ZbE nf,e_ZbJ nf]
noncomputable def m_Zbo(nf:Nat)(e:Tm)(args:List Ty):Option (Ty×Bool):=runF (T_Zbo nf) nf [.v (kR 2),.v (kL (kR 0))] [.c 4 (.v (kR 0)),.t 5 (.v .bool)] ir_Zbo (e,args,())
noncomputable def X_Zbo{R:Type}(nf:Nat):C->Env->(Xt->Env->Option R)->Option R:=xc (R:=R) (T_Zbo nf).S nf
noncomputable def j51_Zbo(nf:Nat)(args:List Ty)(x104_51:Bool):Option (Ty×Bool):=X_Zbo nf c51_Zbo ⟨[(1,.v (kL (kR 0)) args),(4,.pt [4] 0),(104,.v .bool x104_51)],[([4],.box [.v kI (0:Int),.nl kS,.nl (kR 0)])]⟩ (qB 0 (qS (X_Zbo nf c69_Zbo) (KF [.c 4 (.v (kR 0)),.t 5 (.v .bool)])))
theorem j51_Zbo_eq(nf:Nat)(args:List Ty)(x104_51:Bool):j51_Zbo nf args x104_51=(br x104_51 (gg (0<=(0:Int)∧(0:Int)<(List.length args:Int))<|gg (0<=(1:Int)∧(1:Int)<(List.length ((gt args (0:Int) Ty.zero).args):Int))<|cb (m_ZbF nf nf (gt ((gt args (0:Int) Ty.zero).args) (1:Int) Ty.zero)) fun r111=>some ((Ty.h r111),true)) (some ((Ty.mk (0:Int) ([]:List Str) ([]:List Ty)),false))):=by kernel_rfl
theorem m_Zbo_eq(nf:Nat)(e:Tm)(args:List Ty):m_Zbo nf e args=(br (e.kind==(4:Int)) (cb (m_Zbr nf e.name args) fun r18=>some ((Ty.h r18.1),r18.2)) (br (e.kind==(5:Int)) (cb (m_ZbM nf e.labels args) fun r28=>some ((Ty.h r28),true)) (br (e.kind==(6:Int)) (gg (0<=(0:Int)∧(0:Int)<(List.length args:Int))<|cb (m_Zbc nf (gt args (0:Int) Ty.zero) e.name) fun r37=>some ((Ty.h r37.1),r37.2)) (br (e.kind==(8:Int)) (gg (0<=(0:Int)∧(0:Int)<(List.length args:Int))<|cb (m_ZbC nf (gt args (0:Int) Ty.zero)) fun r47=>some ((Ty.h r47),true)) (br (e.kind==(9:Int)) (gg (0<=(0:Int)∧(0:Int)<(List.length args:Int))<|gg (0<=(0:Int)∧(0:Int)<(List.length args:Int))<|br ((((gt args (0:Int) Ty.zero).kind)==(4:Int))==true) (gg (0<=(0:Int)∧(0:Int)<(List.length args:Int))<|gg (0<=(1:Int)∧(1:Int)<(List.length args:Int))<|cb (m_Zbb nf nf (gt args (0:Int) Ty.zero) (gt args (1:Int) Ty.zero)) fun r65=>some ((Ty.h (gt args (0:Int) Ty.zero)),r65)) (some ((Ty.h (gt args (0:Int) Ty.zero)),false))) (br (e.kind==(11:Int)) (gg (0<=(1:Int)∧(1:Int)<(List.length args:Int))<|gg (0<=(0:Int)∧(0:Int)<(List.length args:Int))<|br ((((gt args (0:Int) Ty.zero).kind)==(2:Int))==true) (gg (0<=(1:Int)∧(1:Int)<(List.length args:Int))<|gg (0<=(2:Int)∧(2:Int)<(List.length args:Int))<|cb (m_Zbb nf nf (gt args (1:Int) Ty.zero) (gt args (2:Int) Ty.zero)) fun r84=>some ((Ty.h (gt args (1:Int) Ty.zero)),r84)) (some ((Ty.h (gt args (1:Int) Ty.zero)),false))) (br (e.kind==(14:Int)) (gg (0<=(0:Int)∧(0:Int)<(List.length args:Int))<|br ((((gt args (0:Int) Ty.zero).kind)==(5:Int))==true) (gg (0<=(0:Int)∧(0:Int)<(List.length args:Int))<|gg (0<=(0:Int)∧(0:Int)<(List.length ((gt args (0:Int) Ty.zero).args):Int))<|gg (0<=(1:Int)∧(1:Int)<(List.length args:Int))<|cb (m_Zbb nf nf (gt ((gt args (0:Int) Ty.zero).args) (0:Int) Ty.zero) (gt args (1:Int) Ty.zero)) fun r103=>mark (j51_Zbo nf args r103)) (mark (j51_Zbo nf args false))) (br (e.kind==(15:Int)) (cb (m_ZbE nf) fun r114=>gg (0<=(0:Int)∧(0:Int)<(List.length args:Int))<|some ((Ty.h r114),(((gt args (0:Int) Ty.zero).kind)==(4:Int)))) (br (e.kind==(16:Int)) (cb (m_ZbJ nf) fun r122=>gg (0<=(0:Int)∧(0:Int)<(List.length args:Int))<|some ((Ty.h r122),(((gt args (0:Int) Ty.zero).kind)==(4:Int)))) (some ((Ty.mk (0:Int) ([]:List Str) ([]:List Ty)),false))))))))))):=by
 unfold m_Zbo j51_Zbo ir_Zbo w51_Zbo c69_Zbo
 generalize c51_Zbo=x0
 revert x0
 refine id ?_
 intro x0
 kernel_rfl
noncomputable def e_Zbo(nf:Nat):XE:=eF 177 [.v (kR 2),.v (kL (kR 0))] [.v (kR 0),.v .bool] (fun t=>m_Zbo nf t.1 t.2.1)
theorem o_Zbo(nf:Nat):conOK Tryz.prog 177 (e_Zbo nf).con:=by
 have ih:XT.ok Tryz.prog (T_Zbo nf):=by exact⟨o_Zbr nf,o_ZbM nf,o_Zbc nf,o_ZbC nf,o_Zbb nf,o_ZbF nf,o_ZbE nf,o_ZbJ nf,trivial⟩
 refine eF_ok fun t x h=> ?_
 obtain⟨e,args,_⟩:=t
 exact runF_ok (N:=129) ih Tryz.func177 (by kernel_rfl) rfl h
def c22_Zbn:C:=.sq (.dw [69,12] [55] [.ld 56 T3 (kR 5),.mv 57 T1,.fa 58 T5 2 1 1,.ld 59 T58 kS,.fa 60 T10 0 2 2,.ld 61 T60 (kL (kR 0)),.ia 62 T61 (.i 0) (kR 0),.ld 63 T62 (kR 0),.cv (some 64) 73 [(T57,.v (kL (kR 8))),(T59,.v kS),(T63,.v (kR 0))],.fa 65 T5 2 5 7,.ld 66 T65 (kL (kR 2)),.ia 67 T66 (.i 1) (kR 2),.ld 68 T67 (kR 2),.ca (some 69) 134 [(T56,.v (kR 5)),(T64,.v (kL (kR 8))),(T68,.v (kR 2))],.mv 55 T69,.xt 70 T55 0,.xt 71 T55 1,.al 12 (kR 0)] 12 T70 (kR 0) [.mv 13 T71]) (.sq (.dw [] [12,74,75,76,77] [.ld 72 T12 (kR 0),.mv 73 T13,.mv 74 T73,.g 74 true (.fa 75 T12 0 0 0),.g 74 true (.ld 76 T75 kI),.g 74 true (.bi 77 .eql T76 (.i 4)),.pk 78 T74 T77 (.b false)] 6 T72 (kR 0) [.mv 7 T78]) .rt)
def c17_Zbn:C:=.cd T53 (.sq (.rg [.bd 54 0 [],.st T6 T54 (kR 0),.mv 7 (.b false)]) .rt) .skip
def w17_Zbn:C:=.kp [1,3,5,6,10,53] [[3],[5],[6],[10]] c17_Zbn
def ir_Zbn:C:=.sq (.rg [.bx 3 T0 (kR 5),.bx 5 T2 (kR 2),.al 6 (kR 0),.mv 7 (.b false)]) (.sq (.sq (.rg [.fa 14 T5 2 0 0,.ld 15 T14 kI,.bi 16 .eql T15 (.i 13)]) (.cd T16 (.sq (.dw [29,8] [17] [.ld 18 T3 (kR 5),.mv 19 T1,.fa 20 T5 2 1 1,.ld 21 T20 kS,.fa 22 T5 2 3 3,.ld 23 T22 (kR 0),.cv (some 24) 73 [(T19,.v (kL (kR 8))),(T21,.v kS),(T23,.v (kR 0))],.fa 25 T5 2 5 7,.ld 26 T25 (kL (kR 2)),.ia 27 T26 (.i 0) (kR 2),.ld 28 T27 (kR 2),.ca (some 29) 134 [(T18,.v (kR 5)),(T24,.v (kL (kR 8))),(T28,.v (kR 2))],.mv 17 T29,.xt 30 T17 0,.xt 31 T17 1,.al 8 (kR 0)] 8 T30 (kR 0) [.mv 9 T31]) (.sq (.rg [.fa 32 T5 2 3 3,.ld 33 T32 (kR 0),.ld 34 T8 (kR 0),.cv (some 35) 187 [(T33,.v (kR 0)),(T34,.v (kR 0))],.mv 36 T9,.st T6 T35 (kR 0),.mv 7 T36]) .rt)) .skip)) (.sq (.dw [44,10] [37] [.ld 38 T3 (kR 5),.mv 39 T1,.fa 40 T5 2 5 7,.ld 41 T40 (kL (kR 2)),.ia 42 T41 (.i 0) (kR 2),.ld 43 T42 (kR 2),.ca (some 44) 134 [(T38,.v (kR 5)),(T39,.v (kL (kR 8))),(T43,.v (kR 2))],.mv 37 T44,.xt 45 T37 0,.xt 46 T37 1,.al 10 (kR 0)] 10 T45 (kR 0) [.mv 11 T46]) (.sq (.sq (.rg [.mv 47 T11,.un 48 .not T47,.mv 49 T48,.g 49 false (.fa 50 T10 0 0 0),.g 49 false (.ld 51 T50 kI),.g 49 false (.bi 52 .neq T51 (.i 4)),.pk 53 T49 (.b true) T52]) w17_Zbn) c22_Zbn)))
def c49_Zbs:C:=.sq (.gz 12 (kL (kR 0)) (.rg [.ld 75 T5 (kR 2),.mv 76 T12,.ca (some 77) 177 [(T75,.v (kR 2)),(T76,.v (kL (kR 0)))],.mv 74 T77,.xt 78 T74 0,.xt 79 T74 1,.al 16 (kR 0),.st T16 T78 (kR 0),.mv 17 T79])) (.sq (.rg [.ld 80 T16 (kR 0),.mv 81 T17,.st T6 T80 (kR 0),.mv 7 T81]) .rt)
def w49_Zbs:C:=.kp [5,6,12] [[5],[6],[12]] c49_Zbs
def c29_Zbs:C:=.sq (.sq (.rg [.mv 49 T13,.fa 50 T5 2 5 7,.ld 51 T50 (kL (kR 2)),.ln 52 false T51,.bi 53 .lss T49 T52]) (.cd T53 .skip (.ex 0))) (.sq (.bk 1 (.sq (.dw [64,14] [56] [.ld 57 T3 (kR 5),.mv 58 T1,.fa 59 T5 2 5 7,.ld 60 T59 (kL (kR 2)),.mv 61 T13,.ia 62 T60 T61 (kR 2),.ld 63 T62 (kR 2),.ca (some 64) 134 [(T57,.v (kR 5)),(T58,.v (kL (kR 8))),(T63,.v (kR 2))],.mv 56 T64,.xt 65 T56 0,.xt 66 T56 1,.al 14 (kR 0)] 14 T65 (kR 0) [.mv 15 T66]) (.sq (.sq (.rg [.mv 67 T15,.un 68 .not T67]) (.cd T68 (.sq (.rg [.bd 69 0 [],.st T6 T69 (kR 0),.mv 7 (.b false)]) .rt) .skip)) (.gt 12 false (kR 0) (.rg [.mv 70 T12,.ld 71 T14 (kR 0),.bs 72 false (kR 0) [T71],.ap 73 [12] false (kR 0) T70 T72,.mv 12 T73]))))) (.rg [.mv 54 T13,.bi 55 .add T54 (.i 1),.mv 13 T55]))
def c12_Zbs:C:=.sq (.sq (.rg [.fa 35 T5 2 5 7,.ld 36 T35 (kL (kR 2)),.ln 37 false T36,.bi 38 .eql T37 (.i 0)]) (.cd T38 (.sq (.rg [.ld 40 T3 (kR 5),.mv 41 T1,.ld 42 T5 (kR 2),.ca (some 43) 176 [(T40,.v (kR 5)),(T41,.v (kL (kR 8))),(T42,.v (kR 2))],.mv 39 T43,.xt 44 T39 0,.xt 45 T39 1,.al 10 (kR 0),.st T10 T44 (kR 0),.mv 11 T45]) (.sq (.rg [.ld 46 T10 (kR 0),.mv 47 T11,.st T6 T46 (kR 0),.mv 7 T47]) .rt)) .skip)) (.sq (.rg [.bs 48 false (kR 0) [],.mv 12 T48]) (.sq (.sq (.rg [.mv 13 (.i 0)]) (.bk 0 (.gt 12 false (kR 0) (.lk [1,3,5,6,12,13] [[3],[5],[6],[12]] c29_Zbs)))) w49_Zbs))
def c5_Zbs:C:=.cd T25 (.sq (.rg [.ld 27 T3 (kR 5),.mv 28 T1,.ld 29 T5 (kR 2),.ca (some 30) 175 [(T27,.v (kR 5)),(T28,.v (kL (kR 8))),(T29,.v (kR 2))],.mv 26 T30,.xt 31 T26 0,.xt 32 T26 1,.al 8 (kR 0),.st T8 T31 (kR 0),.mv 9 T32]) (.sq (.rg [.ld 33 T8 (kR 0),.mv 34 T9,.st T6 T33 (kR 0),.mv 7 T34]) .rt)) .skip
def w5_Zbs:C:=.kp [1,3,5,6,25] [[3],[5],[6]] c5_Zbs
def ir_Zbs:C:=.sq (.rg [.bx 3 T0 (kR 5),.bx 5 T2 (kR 2),.al 6 (kR 0),.mv 7 (.b false)]) (.sq (.sq (.rg [.fa 18 T5 2 0 0,.ld 19 T18 kI,.bi 20 .eql T19 (.i 13),.mv 21 T20,.g 21 false (.fa 22 T5 2 0 0),.g 21 false (.ld 23 T22 kI),.g 21 false (.bi 24 .eql T23 (.i 10)),.pk 25 T21 (.b true) T24]) w5_Zbs) c12_Zbs)
def c12_Zbt:C:=.sq (.rg [.ld 25 T8 (kR 0),.st T6 T25 (kR 0),.mv 7 (.b true)]) .rt
def c7_Zbt:C:=.cd T23 (.sq (.rg [.bd 24 0 [],.st T6 T24 (kR 0),.mv 7 (.b false)]) .rt) .skip
def w7_Zbt:C:=.kp [6,8,23] [[6],[8]] c7_Zbt
def ir_Zbt:C:=.sq (.rg [.bx 3 T0 (kR 5),.bx 5 T2 (kR 2),.al 6 (kR 0),.mv 7 (.b false)]) (.sq (.rg [.ld 11 T3 (kR 5),.mv 12 T1,.ld 13 T5 (kR 2),.ca (some 14) 160 [(T11,.v (kR 5)),(T12,.v (kL (kR 8))),(T13,.v (kR 2))],.mv 10 T14,.xt 15 T10 0,.xt 16 T10 1,.al 8 (kR 0),.st T8 T15 (kR 0),.mv 9 T16]) (.sq (.sq (.rg [.mv 17 T9,.un 18 .not T17,.mv 19 T18,.g 19 false (.ld 20 T8 (kR 0)),.g 19 false (.cv (some 21) 87 [(T20,.v (kR 0))]),.g 19 false (.un 22 .not T21),.pk 23 T19 (.b true) T22]) w7_Zbt) c12_Zbt))
noncomputable def B_Zbn(nf:Nat):XT:=[e_Zbu nf,e_ZbH nf,e_Zbp nf,e_Zbo nf,e_Zbk nf]
noncomputable def G_Zbn(nf:Nat):Nat->XT
 |0=>[]
 |kf+1=>[eF 175 [.v (kR 5),.v (kL (kR 8)),.v (kR 2)] [.v (kR 0),.v .bool] (fun t=>(fun(s:Schema) (ctx:List Typing) (e:Tm)=>runF (G_Zbn nf kf++B_Zbn nf) nf [.v (kR 5),.v (kL (kR 8)),.v (kR 2)] [.c 6 (.v (kR 0)),.t 7 (.v .bool)] ir_Zbn (s,ctx,e,())) t.1 t.2.1 t.2.2.1),
  eF 160 [.v (kR 5),.v (kL (kR 8)),.v (kR 2)] [.v (kR 0),.v .bool] (fun t=>(fun(s:Schema) (ctx:List Typing) (e:Tm)=>runF (G_Zbn nf kf++B_Zbn nf) nf [.v (kR 5),.v (kL (kR 8)),.v (kR 2)] [.c 6 (.v (kR 0)),.t 7 (.v .bool)] ir_Zbs (s,ctx,e,())) t.1 t.2.1 t.2.2.1),
  eF 134 [.v (kR 5),.v (kL (kR 8)),.v (kR 2)] [.v (kR 0),.v .bool] (fun t=>(fun(s:Schema) (ctx:List Typing) (e:Tm)=>runF (G_Zbn nf kf++B_Zbn nf) nf [.v (kR 5),.v (kL (kR 8)),.v (kR 2)] [.c 6 (.v (kR 0)),.t 7 (.v .bool)] ir_Zbt (s,ctx,e,())) t.1 t.2.1 t.2.2.1)]
noncomputable abbrev T_Zbn(nf kf:Nat):XT:=G_Zbn nf kf++B_Zbn nf
noncomputable abbrev T_Zbs(nf kf:Nat):XT:=G_Zbn nf kf++B_Zbn nf
noncomputable abbrev T_Zbt(nf kf:Nat):XT:=G_Zbn nf kf++B_Zbn nf
noncomputable def m_Zbn(nf kf:Nat)(s:Schema)(ctx:List Typing)(e:Tm):Option (Ty×Bool):=runF (T_Zbn nf kf) nf [.v (kR 5),.v (kL (kR 8)),.v (kR 2)] [.c 6 (.v (kR 0)),.t 7 (.v .bool)] ir_Zbn (s,ctx,e,())
noncomputable def X_Zbn{R:Type}(nf kf:Nat):C->Env->(Xt->Env->Option R)->Option R:=xc (R:=R) (T_Zbn nf kf).S nf
noncomputable def m_Zbs(nf kf:Nat)(s:Schema)(ctx:List Typing)(e:Tm):Option (Ty×Bool):=runF (T_Zbs nf kf) nf [.v (kR 5),.v (kL (kR 8)),.v (kR 2)] [.c 6 (.v (kR 0)),.t 7 (.v .bool)] ir_Zbs (s,ctx,e,())
noncomputable def X_Zbs{R:Type}(nf kf:Nat):C->Env->(Xt->Env->Option R)->Option R:=xc (R:=R) (T_Zbs nf kf).S nf
noncomputable def m_Zbt(nf kf:Nat)(s:Schema)(ctx:List Typing)(e:Tm):Option (Ty×Bool):=runF (T_Zbt nf kf) nf [.v (kR 5),.v (kL (kR 8)),.v (kR 2)] [.c 6 (.v (kR 0)),.t 7 (.v .bool)] ir_Zbt (s,ctx,e,())
noncomputable def X_Zbt{R:Type}(nf kf:Nat):C->Env->(Xt->Env->Option R)->Option R:=xc (R:=R) (T_Zbt nf kf).S nf
noncomputable def j17_Zbn(nf kf:Nat)(ctx:List Typing)(s:Schema)(e:Tm)(r44:Ty×Bool)(x53_17:Bool):Option (Ty×Bool):=X_Zbn nf kf c17_Zbn ⟨[(1,.v (kL (kR 8)) ctx),(3,.pt [3] 0),(5,.pt [5] 0),(6,.pt [6] 0),(10,.pt [10] 0),(53,.v .bool x53_17)],[([3],.box [.v (kL (kR 4)) s.tables]),([5],.box [.v kI e.kind,.v kS e.name,.v kI e.n,.v kI e.type.kind,.v (kL kS) e.type.labels,.v (kL (kR 0)) e.type.args,.v (kL kS) e.labels,.v (kL (kR 2)) e.args]),([6],.box [.v kI (0:Int),.nl kS,.nl (kR 0)]),([10],.box [.v kI r44.1.kind,.v (kL kS) r44.1.labels,.v (kL (kR 0)) r44.1.args])]⟩ (qS (X_Zbn nf kf c22_Zbn) (KF [.c 6 (.v (kR 0)),.t 7 (.v .bool)]))
theorem j17_Zbn_eq(nf kf:Nat)(ctx:List Typing)(s:Schema)(e:Tm)(r44:Ty×Bool)(x53_17:Bool):j17_Zbn nf (kf+1) ctx s e r44 x53_17=(br x53_17 (some ((Ty.mk (0:Int) ([]:List Str) ([]:List Ty)),false)) (gg (0<=(0:Int)∧(0:Int)<(List.length r44.1.args:Int))<|cb (m_Zbu nf ctx e.name (gt r44.1.args (0:Int) Ty.zero)) fun r64=>gg (0<=(1:Int)∧(1:Int)<(List.length e.args:Int))<|cb (m_Zbt nf kf s r64 (gt e.args (1:Int) Tm.zero)) fun r69=>br (r69.2==true) (some ((Ty.h r69.1),(r69.1.kind==(4:Int)))) (some ((Ty.h r69.1),false)))):=by kernel_rfl
theorem m_Zbn_eq(nf kf:Nat)(s:Schema)(ctx:List Typing)(e:Tm):m_Zbn nf (kf+1) s ctx e=(br (e.kind==(13:Int)) (cb (m_Zbu nf ctx e.name (Ty.h e.type)) fun r24=>gg (0<=(0:Int)∧(0:Int)<(List.length e.args:Int))<|cb (m_Zbt nf kf s r24 (gt e.args (0:Int) Tm.zero)) fun r29=>cb (m_ZbH nf (Ty.h e.type) (Ty.h r29.1)) fun r35=>some ((Ty.h r35),r29.2)) (gg (0<=(0:Int)∧(0:Int)<(List.length e.args:Int))<|cb (m_Zbt nf kf s ctx (gt e.args (0:Int) Tm.zero)) fun r44=>br ((!r44.2)==false) (mark (j17_Zbn nf (kf+1) ctx s e r44 (!(r44.1.kind==(4:Int))))) (mark (j17_Zbn nf (kf+1) ctx s e r44 true)))):=by
 unfold m_Zbn j17_Zbn ir_Zbn w17_Zbn c22_Zbn
 generalize c17_Zbn=x0
 revert x0
 refine id ?_
 intro x0
 kernel_rfl
noncomputable def j5_Zbs(nf kf:Nat)(ctx:List Typing)(s:Schema)(e:Tm)(x25_5:Bool):Option (Ty×Bool):=X_Zbs nf kf c5_Zbs ⟨[(1,.v (kL (kR 8)) ctx),(3,.pt [3] 0),(5,.pt [5] 0),(6,.pt [6] 0),(25,.v .bool x25_5)],[([3],.box [.v (kL (kR 4)) s.tables]),([5],.box [.v kI e.kind,.v kS e.name,.v kI e.n,.v kI e.type.kind,.v (kL kS) e.type.labels,.v (kL (kR 0)) e.type.args,.v (kL kS) e.labels,.v (kL (kR 2)) e.args]),([6],.box [.v kI (0:Int),.nl kS,.nl (kR 0)])]⟩ (qS (X_Zbs nf kf c12_Zbs) (KF [.c 6 (.v (kR 0)),.t 7 (.v .bool)]))
noncomputable def l28_Zbs(nf kf:Nat)(m28:Nat)(ctx:List Typing)(s:Schema)(e:Tm)(x13_28:Int)(y12_28:List Ty):Option (Ty×Bool):=xit [1,3,5,6,12,13] [[3],[5],[6],[12]] (X_Zbs nf kf c29_Zbs) (qB 0 (qS (X_Zbs nf kf w49_Zbs) (KF [.c 6 (.v (kR 0)),.t 7 (.v .bool)]))) m28 ⟨[(1,.v (kL (kR 8)) ctx),(3,.pt [3] 0),(5,.pt [5] 0),(6,.pt [6] 0),(12,.sl [12]),(13,.v kI x13_28)],[([3],.box [.v (kL (kR 4)) s.tables]),([5],.box [.v kI e.kind,.v kS e.name,.v kI e.n,.v kI e.type.kind,.v (kL kS) e.type.labels,.v (kL (kR 0)) e.type.args,.v (kL kS) e.labels,.v (kL (kR 2)) e.args]),([6],.box [.v kI (0:Int),.nl kS,.nl (kR 0)]),([12],.row false false (kR 0) y12_28)]⟩
noncomputable def j49_Zbs(nf kf:Nat)(e:Tm)(y12_28:List Ty):Option (Ty×Bool):=X_Zbs nf kf c49_Zbs ⟨[(5,.pt [5] 0),(6,.pt [6] 0),(12,.sl [12])],[([5],.box [.v kI e.kind,.v kS e.name,.v kI e.n,.v kI e.type.kind,.v (kL kS) e.type.labels,.v (kL (kR 0)) e.type.args,.v (kL kS) e.labels,.v (kL (kR 2)) e.args]),([6],.box [.v kI (0:Int),.nl kS,.nl (kR 0)]),([12],.row false false (kR 0) y12_28)]⟩ (KF [.c 6 (.v (kR 0)),.t 7 (.v .bool)])
theorem j5_Zbs_eq(nf kf:Nat)(ctx:List Typing)(s:Schema)(e:Tm)(x25_5:Bool):j5_Zbs nf (kf+1) ctx s e x25_5=(br x25_5 (cb (m_Zbn nf kf s ctx (Tm.h e)) fun r30=>some ((Ty.h r30.1),r30.2)) (br ((List.length e.args:Int)==(0:Int)) (cb (m_Zbp nf s ctx (Tm.h e)) fun r43=>some ((Ty.h r43.1),r43.2)) (mark (l28_Zbs nf (kf+1) nf ctx s e (0:Int) ([]:List Ty))))):=by
 unfold j5_Zbs l28_Zbs c5_Zbs c12_Zbs w49_Zbs
 generalize c49_Zbs=x0
 revert x0
 refine id ?_
 intro x0
 kernel_rfl
theorem l28_Zbs_eq(nf kf:Nat)(m28:Nat)(ctx:List Typing)(s:Schema)(e:Tm)(x13_28:Int)(y12_28:List Ty):l28_Zbs nf (kf+1) (m28+1) ctx s e x13_28 y12_28=(br (decide (x13_28<(List.length e.args:Int))) (gg (0<=x13_28∧x13_28<(List.length e.args:Int))<|cb (m_Zbt nf kf s ctx (gt e.args x13_28 Tm.zero)) fun r64=>br (!r64.2) (some ((Ty.mk (0:Int) ([]:List Str) ([]:List Ty)),false)) (gg (List.length y12_28+List.length ([(Ty.h r64.1)]:List Ty)<=33554432)<|mark (l28_Zbs nf (kf+1) m28 ctx s e (w64 (x13_28+(1:Int))) (y12_28++([(Ty.h r64.1)]:List Ty))))) (mark (j49_Zbs nf (kf+1) e y12_28))):=by
 unfold l28_Zbs j49_Zbs c29_Zbs w49_Zbs
 generalize c49_Zbs=x0
 revert x0
 refine id ?_
 intro x0
 kernel_rfl
theorem j49_Zbs_eq(nf kf:Nat)(e:Tm)(y12_28:List Ty):j49_Zbs nf (kf+1) e y12_28=(cb (m_Zbo nf (Tm.h e) y12_28) fun r77=>some ((Ty.h r77.1),r77.2)):=by kernel_rfl
theorem m_Zbs_eq(nf kf:Nat)(s:Schema)(ctx:List Typing)(e:Tm):m_Zbs nf (kf+1) s ctx e=(br ((e.kind==(13:Int))==false) (mark (j5_Zbs nf (kf+1) ctx s e (e.kind==(10:Int)))) (mark (j5_Zbs nf (kf+1) ctx s e true))):=by
 unfold m_Zbs j5_Zbs ir_Zbs w5_Zbs c12_Zbs w49_Zbs
 generalize c5_Zbs=x0
 generalize c49_Zbs=x1
 revert x0 x1
 refine id ?_
 intro x0 x1
 kernel_rfl
noncomputable def j7_Zbt(nf kf:Nat)(r14:Ty×Bool)(x23_7:Bool):Option (Ty×Bool):=X_Zbt nf kf c7_Zbt ⟨[(6,.pt [6] 0),(8,.pt [8] 0),(23,.v .bool x23_7)],[([6],.box [.v kI (0:Int),.nl kS,.nl (kR 0)]),([8],.box [.v kI r14.1.kind,.v (kL kS) r14.1.labels,.v (kL (kR 0)) r14.1.args])]⟩ (qS (X_Zbt nf kf c12_Zbt) (KF [.c 6 (.v (kR 0)),.t 7 (.v .bool)]))
theorem j7_Zbt_eq(nf kf:Nat)(r14:Ty×Bool)(x23_7:Bool):j7_Zbt nf (kf+1) r14 x23_7=(br x23_7 (some ((Ty.mk (0:Int) ([]:List Str) ([]:List Ty)),false)) (some ((Ty.h r14.1),true))):=by kernel_rfl
theorem m_Zbt_eq(nf kf:Nat)(s:Schema)(ctx:List Typing)(e:Tm):m_Zbt nf (kf+1) s ctx e=(cb (m_Zbs nf kf s ctx (Tm.h e)) fun r14=>br ((!r14.2)==false) (cb (m_Zbk nf (Ty.h r14.1)) fun r21=>mark (j7_Zbt nf (kf+1) r14 (!r21))) (mark (j7_Zbt nf (kf+1) r14 true))):=by
 unfold m_Zbt j7_Zbt ir_Zbt w7_Zbt c12_Zbt
 generalize c7_Zbt=x0
 revert x0
 refine id ?_
 intro x0
 kernel_rfl
noncomputable def e_Zbt(nf:Nat):XE:=eF 134 [.v (kR 5),.v (kL (kR 8)),.v (kR 2)] [.v (kR 0),.v .bool] (fun t=>m_Zbt nf nf t.1 t.2.1 t.2.2.1)
theorem gok_Zbn(nf:Nat):∀kf:Nat,XT.ok Tryz.prog (G_Zbn nf kf++B_Zbn nf)
 |0=>by exact⟨o_Zbu nf,o_ZbH nf,o_Zbp nf,o_Zbo nf,o_Zbk nf,trivial⟩
 |kf+1=>by
  have ih:=gok_Zbn nf kf
  refine⟨?_,?_,?_,(by exact⟨o_Zbu nf,o_ZbH nf,o_Zbp nf,o_Zbo nf,o_Zbk nf,trivial⟩)⟩
  ·refine eF_ok fun t x h=> ?_
   obtain⟨s,ctx,e,_⟩:=t
   exact runF_ok (N:=79) ih Tryz.func175 (by kernel_rfl) rfl h
  ·refine eF_ok fun t x h=> ?_
   obtain⟨s,ctx,e,_⟩:=t
   exact runF_ok (N:=82) ih Tryz.func160 (by kernel_rfl) rfl h
  ·refine eF_ok fun t x h=> ?_
   obtain⟨s,ctx,e,_⟩:=t
   exact runF_ok (N:=26) ih Tryz.func134 (by kernel_rfl) rfl h
theorem o_Zbt(nf:Nat):conOK Tryz.prog 134 (e_Zbt nf).con:=by
 have ih:=gok_Zbn nf nf
 refine eF_ok fun t x h=> ?_
 obtain⟨s,ctx,e,_⟩:=t
 exact runF_ok (N:=26) ih Tryz.func134 (by kernel_rfl) rfl h
end Go.Q
