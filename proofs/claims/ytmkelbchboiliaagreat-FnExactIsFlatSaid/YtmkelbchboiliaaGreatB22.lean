/- Typing: the reference's side. -/
import Derived.Test.YtmkelbchboiliaaGreatA7
import Derived.Test.YtmkelbchboiliaaGreatProg
import Derived.KernelRfl
set_option linter.unusedVariables false
set_option linter.unusedSimpArgs false
namespace Go.Q
open Go.Proofs
set_option maxRecDepth 20000
set_option maxHeartbeats 4000000
def c19_ZbG:C:=.sq (.rg [.ld 30 T3 (kR 0),.st T2 T30 (kR 0)]) .rt
def c9_ZbG:C:=.sq (.sq (.rg [.mv 12 T4,.fa 13 T1 0 2 2,.ld 14 T13 (kL (kR 0)),.ln 15 false T14,.bi 16 .lss T12 T15]) (.cd T16 .skip (.ex 0))) (.sq (.bk 1 (.gb 3 2 true (kR 0) (.dr [26,27] [.fa 19 T3 0 2 2,.ld 20 T19 (kL (kR 0)),.fa 21 T1 0 2 2,.ld 22 T21 (kL (kR 0)),.mv 23 T4,.ia 24 T22 T23 (kR 0),.ld 25 T24 (kR 0),.ca (some 26) 89 [(T25,.v (kR 0))],.bl 27 (kR 0) [T26]] [.apl 28 [3,2] (kR 0) T20 27,.fa 29 T3 0 2 2,.st T29 T28 (kL (kR 0))]))) (.rg [.mv 17 T4,.bi 18 .add T17 (.i 1),.mv 4 T18]))
def ir_ZbG:C:=.sq (.rg [.bx 1 T0 (kR 0),.al 2 (kR 0)]) (.sq (.dr [10,3] [.fa 5 T1 0 0 0,.ld 6 T5 kI,.bs 7 true kS [],.fa 8 T1 0 1 1,.ld 9 T8 (kL kS),.an 10 true kS T7 T9,.bd 11 0 [(0,1,T6),(1,1,T10)],.al 3 (kR 0)] [.st T3 T11 (kR 0)]) (.sq (.sq (.rg [.mv 4 (.i 0)]) (.bk 0 (.gb 3 2 true (kR 0) (.lk [1,2,3,4] [[1],[2],[3],[3,2],[10]] c9_ZbG)))) c19_ZbG))
noncomputable def B_ZbG(nf:Nat):XT:=[]
noncomputable def G_ZbG(nf:Nat):Nat->XT
 |0=>[]
 |kf+1=>[eF 89 [.v (kR 0)] [.o (kR 0)] (fun t=>(fun(t:Ty)=>runF (G_ZbG nf kf++B_ZbG nf) nf [.v (kR 0)] [.c 2 (.o (kR 0))] ir_ZbG (t,())) t.1)]
noncomputable abbrev T_ZbG(nf kf:Nat):XT:=G_ZbG nf kf++B_ZbG nf
noncomputable def m_ZbG(nf kf:Nat)(t:Ty):Option (Ty):=runF (T_ZbG nf kf) nf [.v (kR 0)] [.c 2 (.o (kR 0))] ir_ZbG (t,())
noncomputable def X_ZbG{R:Type}(nf kf:Nat):C->Env->(Xt->Env->Option R)->Option R:=xc (R:=R) (T_ZbG nf kf).S nf
noncomputable def l8_ZbG(nf kf:Nat)(m8:Nat)(t:Ty)(x4_8:Int)(y3_2_8:List Ty):Option (Ty):=xit [1,2,3,4] [[1],[2],[3],[3,2],[10]] (X_ZbG nf kf c9_ZbG) (qB 0 (qS (X_ZbG nf kf c19_ZbG) (KF [.c 2 (.o (kR 0))]))) m8 ⟨[(1,.pt [1] 0),(2,.pt [2] 0),(3,.pt [3] 0),(4,.v kI x4_8)],[([1],.box [.v kI t.kind,.v (kL kS) t.labels,.v (kL (kR 0)) t.args]),([2],.box [.v kI (0:Int),.nl kS,.nl (kR 0)]),([3],.box [.v kI t.kind,.sl [10],.sl [3,2]]),([3,2],.row true false (kR 0) y3_2_8),([10],.row true false kS t.labels)]⟩
theorem l8_ZbG_eq(nf kf:Nat)(m8:Nat)(t:Ty)(x4_8:Int)(y3_2_8:List Ty):l8_ZbG nf (kf+1) (m8+1) t x4_8 y3_2_8=(br (decide (x4_8<(List.length t.args:Int))) (gg (0<=x4_8∧x4_8<(List.length t.args:Int))<|cb (m_ZbG nf kf (gt t.args x4_8 Ty.zero)) fun r26=>gg (List.length y3_2_8+List.length ([(Ty.h r26)]:List Ty)<=33554432)<|mark (l8_ZbG nf (kf+1) m8 t (w64 (x4_8+(1:Int))) (y3_2_8++([(Ty.h r26)]:List Ty)))) (some (Ty.mk t.kind t.labels y3_2_8))):=by kernel_rfl
theorem m_ZbG_eq(nf kf:Nat)(t:Ty):m_ZbG nf (kf+1) t=(gg (List.length t.labels<=33554432)<|mark (l8_ZbG nf (kf+1) nf t (0:Int) ([]:List Ty))):=by kernel_rfl
noncomputable def e_ZbG(nf:Nat):XE:=eF 89 [.v (kR 0)] [.o (kR 0)] (fun t=>m_ZbG nf nf t.1)
theorem gok_ZbG(nf:Nat):∀kf:Nat,XT.ok Tryz.prog (G_ZbG nf kf++B_ZbG nf)
 |0=>by exact trivial
 |kf+1=>by
  have ih:=gok_ZbG nf kf
  refine⟨?_,(by exact trivial)⟩
  ·refine eF_ok fun t x h=> ?_
   obtain⟨t,_⟩:=t
   exact runF_ok (N:=31) ih Tryz.func89 (by kernel_rfl) rfl h
theorem o_ZbG(nf:Nat):conOK Tryz.prog 89 (e_ZbG nf).con:=by
 have ih:=gok_ZbG nf nf
 refine eF_ok fun t x h=> ?_
 obtain⟨t,_⟩:=t
 exact runF_ok (N:=31) ih Tryz.func89 (by kernel_rfl) rfl h
def ir_ZbB:C:=.sq (.rg [.mv 6 (.b false)]) (.sq (.rg [.mv 7 T0,.mv 8 T1,.bi 9 .geq T7 T8,.mv 10 T9,.g 10 true (.mv 11 T0),.g 10 true (.mv 12 T2),.g 10 true (.bi 13 .leq T11 T12),.pk 14 T10 T13 (.b false),.mv 6 T14]) .rt)
noncomputable abbrev T_ZbB(nf:Nat):XT:=[]
noncomputable def m_ZbB(nf:Nat)(x:Int)(lo:Int)(hi:Int):Option (Bool):=runF (T_ZbB nf) nf [.v kI,.v kI,.v kI] [.t 6 (.v .bool)] ir_ZbB (x,lo,hi,())
theorem m_ZbB_eq(nf:Nat)(x:Int)(lo:Int)(hi:Int):m_ZbB nf x lo hi=(br ((decide (lo<=x))==true) (some (decide (x<=hi))) (some false)):=by kernel_rfl
noncomputable def e_ZbB(nf:Nat):XE:=eF 92 [.v kI,.v kI,.v kI] [.v .bool] (fun t=>m_ZbB nf t.1 t.2.1 t.2.2.1)
theorem o_ZbB(nf:Nat):conOK Tryz.prog 92 (e_ZbB nf).con:=by
 have ih:XT.ok Tryz.prog (T_ZbB nf):=by exact trivial
 refine eF_ok fun t x h=> ?_
 obtain⟨x,lo,hi,_⟩:=t
 exact runF_ok (N:=15) ih Tryz.func92 (by kernel_rfl) rfl h
def ir_ZbC:C:=.sq (.rg [.mv 4 (.i 0)]) (.sq (.sq (.rg [.mv 5 T0,.mv 6 T1,.bi 7 .gtr T5 T6]) (.cd T7 (.sq (.rg [.mv 8 T0,.mv 4 T8]) .rt) .skip)) (.sq (.rg [.mv 9 T1,.mv 4 T9]) .rt))
noncomputable abbrev T_ZbC(nf:Nat):XT:=[]
noncomputable def m_ZbC(nf:Nat)(a:Int)(b:Int):Option (Int):=runF (T_ZbC nf) nf [.v kI,.v kI] [.t 4 (.v kI)] ir_ZbC (a,b,())
theorem m_ZbC_eq(nf:Nat)(a:Int)(b:Int):m_ZbC nf a b=(br (decide (b<a)) (some a) (some b)):=by kernel_rfl
noncomputable def e_ZbC(nf:Nat):XE:=eF 155 [.v kI,.v kI] [.v kI] (fun t=>m_ZbC nf t.1 t.2.1)
theorem o_ZbC(nf:Nat):conOK Tryz.prog 155 (e_ZbC nf).con:=by
 have ih:XT.ok Tryz.prog (T_ZbC nf):=by exact trivial
 refine eF_ok fun t x h=> ?_
 obtain⟨a,b,_⟩:=t
 exact runF_ok (N:=10) ih Tryz.func155 (by kernel_rfl) rfl h
def c23_ZaW:C:=.sq (.rg [.mv 2 (.b true)]) .rt
def c7_ZaW:C:=.sq (.sq (.rg [.mv 4 T3,.mv 5 T0,.ln 6 false T5,.bi 7 .lss T4 T6]) (.cd T7 .skip (.ex 0))) (.sq (.bk 1 (.sq (.dr [] [.mv 10 T0,.mv 11 T3,.bi 12 .sub T11 (.i 1),.ia 13 T10 T12 kS,.ld 14 T13 kS,.mv 15 T0,.mv 16 T3,.ia 17 T15 T16 kS,.ld 18 T17 kS] [.bi 19 .geq T14 T18]) (.cd T19 (.sq (.rg [.mv 2 (.b false)]) .rt) .skip))) (.rg [.mv 8 T3,.bi 9 .add T8 (.i 1),.mv 3 T9]))
def ir_ZaW:C:=.sq (.rg [.mv 2 (.b false)]) (.sq (.sq (.rg [.mv 3 (.i 1)]) (.bk 0 (.lk [0,3] [] c7_ZaW))) c23_ZaW)
noncomputable abbrev T_ZaW(nf:Nat):XT:=[]
noncomputable def m_ZaW(nf:Nat)(list:List Str):Option (Bool):=runF (T_ZaW nf) nf [.v (kL kS)] [.t 2 (.v .bool)] ir_ZaW (list,())
noncomputable def X_ZaW{R:Type}(nf:Nat):C->Env->(Xt->Env->Option R)->Option R:=xc (R:=R) (T_ZaW nf).S nf
noncomputable def l6_ZaW(nf:Nat)(m6:Nat)(list:List Str)(x3_6:Int):Option (Bool):=xit [0,3] [] (X_ZaW nf c7_ZaW) (qB 0 (qS (X_ZaW nf c23_ZaW) (KF [.t 2 (.v .bool)]))) m6 ⟨[(0,.v (kL kS) list),(3,.v kI x3_6)],[]⟩
theorem l6_ZaW_eq(nf:Nat)(m6:Nat)(list:List Str)(x3_6:Int):l6_ZaW nf (m6+1) list x3_6=(br (decide (x3_6<(List.length list:Int))) (gg (0<=(w64 (x3_6-(1:Int)))∧(w64 (x3_6-(1:Int)))<(List.length list:Int))<|gg (0<=x3_6∧x3_6<(List.length list:Int))<|br (!(Op.bytesLess (gt list (w64 (x3_6-(1:Int))) ([]:Str)) (gt list x3_6 ([]:Str)))) (some false) (mark (l6_ZaW nf m6 list (w64 (x3_6+(1:Int)))))) (some true)):=by kernel_rfl
theorem m_ZaW_eq(nf:Nat)(list:List Str):m_ZaW nf list=(mark (l6_ZaW nf nf list (1:Int))):=by kernel_rfl
noncomputable def e_ZaW(nf:Nat):XE:=eF 75 [.v (kL kS)] [.v .bool] (fun t=>m_ZaW nf t.1)
theorem o_ZaW(nf:Nat):conOK Tryz.prog 75 (e_ZaW nf).con:=by
 have ih:XT.ok Tryz.prog (T_ZaW nf):=by exact trivial
 refine eF_ok fun t x h=> ?_
 obtain⟨list,_⟩:=t
 exact runF_ok (N:=20) ih Tryz.func75 (by kernel_rfl) rfl h
def c25_Zbf:C:=.sq (.rg [.mv 39 T0,.ln 40 true T39,.cv (some 41) 92 [(T40,.v kI),((.i 1),.v kI),((.i 4),.v kI)],.mv 42 T41,.g 42 true (.mv 43 T0),.g 42 true (.bi 44 .neq T43 (.s [105,102])),.pk 45 T42 T44 (.b false),.mv 46 T45,.g 46 true (.mv 47 T0),.g 46 true (.bi 48 .neq T47 (.s [102,111,114])),.pk 49 T46 T48 (.b false),.mv 2 T49]) .rt
def w25_Zbf:C:=.kp [0] [] c25_Zbf
def c24_Zbf:C:=.rg [.mv 9 T3,.bi 10 .add T9 (.i 1),.mv 3 T10]
def c19_Zbf:C:=.cd T38 (.sq (.rg [.mv 2 (.b false)]) .rt) .skip
def w19_Zbf:C:=.kp [0,3,38] [] c19_Zbf
def c17_Zbf:C:=.sq (.rg [.mv 21 T4,.un 22 .not T21,.mv 23 T22,.g 23 true (.mv 24 T3),.g 23 true (.bi 25 .eql T24 (.i 0)),.g 23 true (.mv 26 T25),.g 26 false (.mv 27 T0),.g 26 false (.mv 28 T3),.g 26 false (.ix 29 T27 T28),.g 26 false (.bi 30 .lss T29 (.k .u8 48)),.g 23 true (.pk 31 T26 (.b true) T30),.g 23 true (.mv 32 T31),.g 32 false (.mv 33 T0),.g 32 false (.mv 34 T3),.g 32 false (.ix 35 T33 T34),.g 32 false (.bi 36 .gtr T35 (.k .u8 57)),.g 23 true (.pk 37 T32 (.b true) T36),.pk 38 T23 T37 (.b false)]) w19_Zbf
def w17_Zbf:C:=.kp [0,3,4] [] c17_Zbf
def c7_Zbf:C:=.sq (.sq (.rg [.mv 5 T3,.mv 6 T0,.ln 7 true T6,.bi 8 .lss T5 T7]) (.cd T8 .skip (.ex 0))) (.sq (.bk 1 (.sq (.rg [.mv 11 T0,.mv 12 T3,.ix 13 T11 T12,.bi 14 .geq T13 (.k .u8 97),.mv 15 T14,.g 15 true (.mv 16 T0),.g 15 true (.mv 17 T3),.g 15 true (.ix 18 T16 T17),.g 15 true (.bi 19 .leq T18 (.k .u8 122)),.pk 20 T15 T19 (.b false),.mv 4 T20]) w17_Zbf)) c24_Zbf)
def ir_Zbf:C:=.sq (.rg [.mv 2 (.b false)]) (.sq (.sq (.rg [.mv 3 (.i 0)]) (.bk 0 (.lk [0,3] [] c7_Zbf))) w25_Zbf)
noncomputable abbrev T_Zbf(nf:Nat):XT:=[e_ZbB nf]
noncomputable def m_Zbf(nf:Nat)(s:Str):Option (Bool):=runF (T_Zbf nf) nf [.v kS] [.t 2 (.v .bool)] ir_Zbf (s,())
noncomputable def X_Zbf{R:Type}(nf:Nat):C->Env->(Xt->Env->Option R)->Option R:=xc (R:=R) (T_Zbf nf).S nf
noncomputable def j19_Zbf(nf:Nat)(m6:Nat)(s:Str)(x3_6:Int)(x38_19:Bool):Option (Bool):=X_Zbf nf c19_Zbf ⟨[(0,.v kS s),(3,.v kI x3_6),(38,.v .bool x38_19)],[]⟩ (qB 1 (qS (X_Zbf nf c24_Zbf) (qM [0,3] [] (X_Zbf nf c7_Zbf) m6 (qB 0 (qS (X_Zbf nf w25_Zbf) (KF [.t 2 (.v .bool)]))))))
noncomputable def j17_Zbf(nf:Nat)(m6:Nat)(s:Str)(x3_6:Int)(x4_17:Bool):Option (Bool):=X_Zbf nf c17_Zbf ⟨[(0,.v kS s),(3,.v kI x3_6),(4,.v .bool x4_17)],[]⟩ (qB 1 (qS (X_Zbf nf c24_Zbf) (qM [0,3] [] (X_Zbf nf c7_Zbf) m6 (qB 0 (qS (X_Zbf nf w25_Zbf) (KF [.t 2 (.v .bool)]))))))
noncomputable def l6_Zbf(nf:Nat)(m6:Nat)(s:Str)(x3_6:Int):Option (Bool):=xit [0,3] [] (X_Zbf nf c7_Zbf) (qB 0 (qS (X_Zbf nf w25_Zbf) (KF [.t 2 (.v .bool)]))) m6 ⟨[(0,.v kS s),(3,.v kI x3_6)],[]⟩
noncomputable def j25_Zbf(nf:Nat)(s:Str):Option (Bool):=X_Zbf nf c25_Zbf ⟨[(0,.v kS s)],[]⟩ (KF [.t 2 (.v .bool)])
theorem j19_Zbf_eq(nf:Nat)(m6:Nat)(s:Str)(x3_6:Int)(x38_19:Bool):j19_Zbf nf m6 s x3_6 x38_19=(br x38_19 (some false) (mark (l6_Zbf nf m6 s (w64 (x3_6+(1:Int)))))):=by
 unfold j19_Zbf l6_Zbf c19_Zbf w25_Zbf c24_Zbf
 generalize c25_Zbf=x0
 revert x0
 refine id ?_
 intro x0
 kernel_rfl
theorem j17_Zbf_eq(nf:Nat)(m6:Nat)(s:Str)(x3_6:Int)(x4_17:Bool):j17_Zbf nf m6 s x3_6 x4_17=(br ((!x4_17)==true) (br ((x3_6==(0:Int))==false) (gg (0<=x3_6∧x3_6<(List.length s:Int))<|br ((decide (((List.getD s (Int.toNat x3_6) 0).toNat:Int)<(48:Int)))==false) (gg (0<=x3_6∧x3_6<(List.length s:Int))<|mark (j19_Zbf nf m6 s x3_6 (decide ((57:Int)<((List.getD s (Int.toNat x3_6) 0).toNat:Int))))) (mark (j19_Zbf nf m6 s x3_6 true))) (mark (j19_Zbf nf m6 s x3_6 true))) (mark (j19_Zbf nf m6 s x3_6 false))):=by
 unfold j17_Zbf j19_Zbf c17_Zbf w25_Zbf c24_Zbf w19_Zbf
 generalize c25_Zbf=x0
 generalize c19_Zbf=x1
 revert x0 x1
 refine id ?_
 intro x0 x1
 kernel_rfl
theorem l6_Zbf_eq(nf:Nat)(m6:Nat)(s:Str)(x3_6:Int):l6_Zbf nf (m6+1) s x3_6=(br (decide (x3_6<(List.length s:Int))) (gg (0<=x3_6∧x3_6<(List.length s:Int))<|br ((decide ((97:Int)<=((List.getD s (Int.toNat x3_6) 0).toNat:Int)))==true) (gg (0<=x3_6∧x3_6<(List.length s:Int))<|mark (j17_Zbf nf m6 s x3_6 (decide (((List.getD s (Int.toNat x3_6) 0).toNat:Int)<=(122:Int))))) (mark (j17_Zbf nf m6 s x3_6 false))) (mark (j25_Zbf nf s))):=by
 unfold l6_Zbf j17_Zbf j25_Zbf c7_Zbf w25_Zbf w17_Zbf c24_Zbf
 generalize c25_Zbf=x0
 generalize c17_Zbf=x1
 revert x0 x1
 refine id ?_
 intro x0 x1
 kernel_rfl
theorem j25_Zbf_eq(nf:Nat)(s:Str):j25_Zbf nf s=(cb (m_ZbB nf (List.length s:Int) (1:Int) (4:Int)) fun r41=>br (r41==true) (br ((!(s==([105,102]:Str)))==true) (some (!(s==([102,111,114]:Str)))) (some false)) (some false)):=by kernel_rfl
theorem m_Zbf_eq(nf:Nat)(s:Str):m_Zbf nf s=(mark (l6_Zbf nf nf s (0:Int))):=by
 unfold m_Zbf l6_Zbf ir_Zbf w25_Zbf
 generalize c25_Zbf=x0
 revert x0
 refine id ?_
 intro x0
 kernel_rfl
noncomputable def e_Zbf(nf:Nat):XE:=eF 72 [.v kS] [.v .bool] (fun t=>m_Zbf nf t.1)
theorem o_Zbf(nf:Nat):conOK Tryz.prog 72 (e_Zbf nf).con:=by
 have ih:XT.ok Tryz.prog (T_Zbf nf):=by exact⟨o_ZbB nf,trivial⟩
 refine eF_ok fun t x h=> ?_
 obtain⟨s,_⟩:=t
 exact runF_ok (N:=50) ih Tryz.func72 (by kernel_rfl) rfl h
def c23_Zbb:C:=.sq (.rg [.mv 4 (.i (-1))]) .rt
def c7_Zbb:C:=.sq (.sq (.rg [.mv 6 T5,.mv 7 T0,.ln 8 false T7,.bi 9 .lss T6 T8]) (.cd T9 .skip (.ex 0))) (.sq (.bk 1 (.sq (.rg [.mv 12 T0,.mv 13 T5,.ia 14 T12 T13 kS,.ld 15 T14 kS,.mv 16 T1,.bi 17 .eql T15 T16]) (.cd T17 (.sq (.rg [.mv 18 T5,.mv 4 T18]) .rt) .skip))) (.rg [.mv 10 T5,.bi 11 .add T10 (.i 1),.mv 5 T11]))
def ir_Zbb:C:=.sq (.rg [.mv 4 (.i 0)]) (.sq (.sq (.rg [.mv 5 (.i 0)]) (.bk 0 (.lk [0,1,5] [] c7_Zbb))) c23_Zbb)
noncomputable abbrev T_Zbb(nf:Nat):XT:=[]
noncomputable def m_Zbb(nf:Nat)(list:List Str)(s:Str):Option (Int):=runF (T_Zbb nf) nf [.v (kL kS),.v kS] [.t 4 (.v kI)] ir_Zbb (list,s,())
noncomputable def X_Zbb{R:Type}(nf:Nat):C->Env->(Xt->Env->Option R)->Option R:=xc (R:=R) (T_Zbb nf).S nf
noncomputable def l6_Zbb(nf:Nat)(m6:Nat)(list:List Str)(s:Str)(x5_6:Int):Option (Int):=xit [0,1,5] [] (X_Zbb nf c7_Zbb) (qB 0 (qS (X_Zbb nf c23_Zbb) (KF [.t 4 (.v kI)]))) m6 ⟨[(0,.v (kL kS) list),(1,.v kS s),(5,.v kI x5_6)],[]⟩
theorem l6_Zbb_eq(nf:Nat)(m6:Nat)(list:List Str)(s:Str)(x5_6:Int):l6_Zbb nf (m6+1) list s x5_6=(br (decide (x5_6<(List.length list:Int))) (gg (0<=x5_6∧x5_6<(List.length list:Int))<|br ((gt list x5_6 ([]:Str))==s) (some x5_6) (mark (l6_Zbb nf m6 list s (w64 (x5_6+(1:Int)))))) (some (-1:Int))):=by kernel_rfl
theorem m_Zbb_eq(nf:Nat)(list:List Str)(s:Str):m_Zbb nf list s=(mark (l6_Zbb nf nf list s (0:Int))):=by kernel_rfl
noncomputable def e_Zbb(nf:Nat):XE:=eF 88 [.v (kL kS),.v kS] [.v kI] (fun t=>m_Zbb nf t.1 t.2.1)
theorem o_Zbb(nf:Nat):conOK Tryz.prog 88 (e_Zbb nf).con:=by
 have ih:XT.ok Tryz.prog (T_Zbb nf):=by exact trivial
 refine eF_ok fun t x h=> ?_
 obtain⟨list,s,_⟩:=t
 exact runF_ok (N:=19) ih Tryz.func88 (by kernel_rfl) rfl h
def c23_ZbL:C:=.sq (.rg [.mv 16 T0,.ln 17 false T16,.cv (some 18) 92 [(T17,.v kI),((.i 1),.v kI),((.i 4),.v kI)],.mv 19 T18,.g 19 true (.mv 20 T0),.g 19 true (.cv (some 21) 75 [(T20,.v (kL kS))]),.pk 22 T19 T21 (.b false),.mv 2 T22]) .rt
def w23_ZbL:C:=.kp [0] [] c23_ZbL
def c7_ZbL:C:=.sq (.sq (.rg [.mv 4 T3,.mv 5 T0,.ln 6 false T5,.bi 7 .lss T4 T6]) (.cd T7 .skip (.ex 0))) (.sq (.bk 1 (.sq (.rg [.mv 10 T0,.mv 11 T3,.ia 12 T10 T11 kS,.ld 13 T12 kS,.cv (some 14) 72 [(T13,.v kS)],.un 15 .not T14]) (.cd T15 (.sq (.rg [.mv 2 (.b false)]) .rt) .skip))) (.rg [.mv 8 T3,.bi 9 .add T8 (.i 1),.mv 3 T9]))
def ir_ZbL:C:=.sq (.rg [.mv 2 (.b false)]) (.sq (.sq (.rg [.mv 3 (.i 0)]) (.bk 0 (.lk [0,3] [] c7_ZbL))) w23_ZbL)
noncomputable abbrev T_ZbL(nf:Nat):XT:=[e_Zbf nf,e_ZbB nf,e_ZaW nf]
noncomputable def m_ZbL(nf:Nat)(list:List Str):Option (Bool):=runF (T_ZbL nf) nf [.v (kL kS)] [.t 2 (.v .bool)] ir_ZbL (list,())
noncomputable def X_ZbL{R:Type}(nf:Nat):C->Env->(Xt->Env->Option R)->Option R:=xc (R:=R) (T_ZbL nf).S nf
noncomputable def l6_ZbL(nf:Nat)(m6:Nat)(list:List Str)(x3_6:Int):Option (Bool):=xit [0,3] [] (X_ZbL nf c7_ZbL) (qB 0 (qS (X_ZbL nf w23_ZbL) (KF [.t 2 (.v .bool)]))) m6 ⟨[(0,.v (kL kS) list),(3,.v kI x3_6)],[]⟩
noncomputable def j23_ZbL(nf:Nat)(list:List Str):Option (Bool):=X_ZbL nf c23_ZbL ⟨[(0,.v (kL kS) list)],[]⟩ (KF [.t 2 (.v .bool)])
theorem l6_ZbL_eq(nf:Nat)(m6:Nat)(list:List Str)(x3_6:Int):l6_ZbL nf (m6+1) list x3_6=(br (decide (x3_6<(List.length list:Int))) (gg (0<=x3_6∧x3_6<(List.length list:Int))<|cb (m_Zbf nf (gt list x3_6 ([]:Str))) fun r14=>br (!r14) (some false) (mark (l6_ZbL nf m6 list (w64 (x3_6+(1:Int)))))) (mark (j23_ZbL nf list))):=by
 unfold l6_ZbL j23_ZbL c7_ZbL w23_ZbL
 generalize c23_ZbL=x0
 revert x0
 refine id ?_
 intro x0
 kernel_rfl
theorem j23_ZbL_eq(nf:Nat)(list:List Str):j23_ZbL nf list=(cb (m_ZbB nf (List.length list:Int) (1:Int) (4:Int)) fun r18=>br (r18==true) (cb (m_ZaW nf list) fun r21=>some r21) (some false)):=by kernel_rfl
theorem m_ZbL_eq(nf:Nat)(list:List Str):m_ZbL nf list=(mark (l6_ZbL nf nf list (0:Int))):=by
 unfold m_ZbL l6_ZbL ir_ZbL w23_ZbL
 generalize c23_ZbL=x0
 revert x0
 refine id ?_
 intro x0
 kernel_rfl
noncomputable def e_ZbL(nf:Nat):XE:=eF 156 [.v (kL kS)] [.v .bool] (fun t=>m_ZbL nf t.1)
theorem o_ZbL(nf:Nat):conOK Tryz.prog 156 (e_ZbL nf).con:=by
 have ih:XT.ok Tryz.prog (T_ZbL nf):=by exact⟨o_Zbf nf,o_ZbB nf,o_ZaW nf,trivial⟩
 refine eF_ok fun t x h=> ?_
 obtain⟨list,_⟩:=t
 exact runF_ok (N:=23) ih Tryz.func156 (by kernel_rfl) rfl h
def c23_ZbJ:C:=.sq (.rg [.fa 20 T2 0 0 0,.ld 21 T20 kI,.mv 22 T1,.bi 23 .eql T21 T22,.mv 4 T23]) .rt
def c7_ZbJ:C:=.sq (.sq (.rg [.mv 6 T5,.fa 7 T2 0 2 2,.ld 8 T7 (kL (kR 0)),.ln 9 false T8,.bi 10 .lss T6 T9]) (.cd T10 .skip (.ex 0))) (.sq (.bk 1 (.sq (.rg [.fa 13 T2 0 2 2,.ld 14 T13 (kL (kR 0)),.mv 15 T5,.ia 16 T14 T15 (kR 0),.ld 17 T16 (kR 0),.mv 18 T1,.cv (some 19) 90 [(T17,.v (kR 0)),(T18,.v kI)]]) (.cd T19 (.sq (.rg [.mv 4 (.b true)]) .rt) .skip))) (.rg [.mv 11 T5,.bi 12 .add T11 (.i 1),.mv 5 T12]))
def ir_ZbJ:C:=.sq (.rg [.bx 2 T0 (kR 0),.mv 4 (.b false)]) (.sq (.sq (.rg [.mv 5 (.i 0)]) (.bk 0 (.lk [1,2,5] [[2]] c7_ZbJ))) c23_ZbJ)
noncomputable def B_ZbJ(nf:Nat):XT:=[]
noncomputable def G_ZbJ(nf:Nat):Nat->XT
 |0=>[]
 |kf+1=>[eF 90 [.v (kR 0),.v kI] [.v .bool] (fun t=>(fun(t:Ty) (kind:Int)=>runF (G_ZbJ nf kf++B_ZbJ nf) nf [.v (kR 0),.v kI] [.t 4 (.v .bool)] ir_ZbJ (t,kind,())) t.1 t.2.1)]
noncomputable abbrev T_ZbJ(nf kf:Nat):XT:=G_ZbJ nf kf++B_ZbJ nf
noncomputable def m_ZbJ(nf kf:Nat)(t:Ty)(kind:Int):Option (Bool):=runF (T_ZbJ nf kf) nf [.v (kR 0),.v kI] [.t 4 (.v .bool)] ir_ZbJ (t,kind,())
noncomputable def X_ZbJ{R:Type}(nf kf:Nat):C->Env->(Xt->Env->Option R)->Option R:=xc (R:=R) (T_ZbJ nf kf).S nf
noncomputable def l6_ZbJ(nf kf:Nat)(m6:Nat)(kind:Int)(t:Ty)(x5_6:Int):Option (Bool):=xit [1,2,5] [[2]] (X_ZbJ nf kf c7_ZbJ) (qB 0 (qS (X_ZbJ nf kf c23_ZbJ) (KF [.t 4 (.v .bool)]))) m6 ⟨[(1,.v kI kind),(2,.pt [2] 0),(5,.v kI x5_6)],[([2],.box [.v kI t.kind,.v (kL kS) t.labels,.v (kL (kR 0)) t.args])]⟩
theorem l6_ZbJ_eq(nf kf:Nat)(m6:Nat)(kind:Int)(t:Ty)(x5_6:Int):l6_ZbJ nf (kf+1) (m6+1) kind t x5_6=(br (decide (x5_6<(List.length t.args:Int))) (gg (0<=x5_6∧x5_6<(List.length t.args:Int))<|cb (m_ZbJ nf kf (gt t.args x5_6 Ty.zero) kind) fun r19=>br r19 (some true) (mark (l6_ZbJ nf (kf+1) m6 kind t (w64 (x5_6+(1:Int)))))) (some (t.kind==kind))):=by kernel_rfl
theorem m_ZbJ_eq(nf kf:Nat)(t:Ty)(kind:Int):m_ZbJ nf (kf+1) t kind=(mark (l6_ZbJ nf (kf+1) nf kind t (0:Int))):=by kernel_rfl
noncomputable def e_ZbJ(nf:Nat):XE:=eF 90 [.v (kR 0),.v kI] [.v .bool] (fun t=>m_ZbJ nf nf t.1 t.2.1)
theorem gok_ZbJ(nf:Nat):∀kf:Nat,XT.ok Tryz.prog (G_ZbJ nf kf++B_ZbJ nf)
 |0=>by exact trivial
 |kf+1=>by
  have ih:=gok_ZbJ nf kf
  refine⟨?_,(by exact trivial)⟩
  ·refine eF_ok fun t x h=> ?_
   obtain⟨t,kind,_⟩:=t
   exact runF_ok (N:=24) ih Tryz.func90 (by kernel_rfl) rfl h
theorem o_ZbJ(nf:Nat):conOK Tryz.prog 90 (e_ZbJ nf).con:=by
 have ih:=gok_ZbJ nf nf
 refine eF_ok fun t x h=> ?_
 obtain⟨t,kind,_⟩:=t
 exact runF_ok (N:=24) ih Tryz.func90 (by kernel_rfl) rfl h
def c19_ZbM:C:=.sq (.rg [.mv 26 T1,.mv 4 T26]) .rt
def c15_ZbM:C:=.sq (.bk 1 (.rg [.fa 19 T2 0 2 2,.ld 20 T19 (kL (kR 0)),.mv 21 T5,.ia 22 T20 T21 (kR 0),.ld 23 T22 (kR 0),.mv 24 T1,.cv (some 25) 128 [(T23,.v (kR 0)),(T24,.v kI)],.mv 1 T25])) (.rg [.mv 17 T5,.bi 18 .add T17 (.i 1),.mv 5 T18])
def c12_ZbM:C:=.cd T16 .skip (.ex 0)
def w12_ZbM:C:=.kp [1,2,5,16] [[2]] c12_ZbM
def c9_ZbM:C:=.sq (.sq (.rg [.mv 8 T5,.fa 9 T2 0 2 2,.ld 10 T9 (kL (kR 0)),.ln 11 false T10,.bi 12 .lss T8 T11,.mv 13 T12,.g 13 true (.mv 14 T1),.g 13 true (.bi 15 .geq T14 (.i 0)),.pk 16 T13 T15 (.b false)]) w12_ZbM) c15_ZbM
def ir_ZbM:C:=.sq (.rg [.bx 2 T0 (kR 0),.mv 4 (.i 0)]) (.sq (.rg [.mv 6 T1,.bi 7 .sub T6 (.i 1),.mv 1 T7]) (.sq (.sq (.rg [.mv 5 (.i 0)]) (.bk 0 (.lk [1,2,5] [[2]] c9_ZbM))) c19_ZbM))
noncomputable def B_ZbM(nf:Nat):XT:=[]
noncomputable def G_ZbM(nf:Nat):Nat->XT
 |0=>[]
 |kf+1=>[eF 128 [.v (kR 0),.v kI] [.v kI] (fun t=>(fun(t:Ty) (left:Int)=>runF (G_ZbM nf kf++B_ZbM nf) nf [.v (kR 0),.v kI] [.t 4 (.v kI)] ir_ZbM (t,left,())) t.1 t.2.1)]
noncomputable abbrev T_ZbM(nf kf:Nat):XT:=G_ZbM nf kf++B_ZbM nf
noncomputable def m_ZbM(nf kf:Nat)(t:Ty)(left:Int):Option (Int):=runF (T_ZbM nf kf) nf [.v (kR 0),.v kI] [.t 4 (.v kI)] ir_ZbM (t,left,())
noncomputable def X_ZbM{R:Type}(nf kf:Nat):C->Env->(Xt->Env->Option R)->Option R:=xc (R:=R) (T_ZbM nf kf).S nf
noncomputable def j12_ZbM(nf kf:Nat)(m8:Nat)(x1_8:Int)(x5_8:Int)(t:Ty)(x16_12:Bool):Option (Int):=X_ZbM nf kf c12_ZbM ⟨[(1,.v kI x1_8),(2,.pt [2] 0),(5,.v kI x5_8),(16,.v .bool x16_12)],[([2],.box [.v kI t.kind,.v (kL kS) t.labels,.v (kL (kR 0)) t.args])]⟩ (qS (X_ZbM nf kf c15_ZbM) (qM [1,2,5] [[2]] (X_ZbM nf kf c9_ZbM) m8 (qB 0 (qS (X_ZbM nf kf c19_ZbM) (KF [.t 4 (.v kI)])))))
noncomputable def l8_ZbM(nf kf:Nat)(m8:Nat)(t:Ty)(x1_8:Int)(x5_8:Int):Option (Int):=xit [1,2,5] [[2]] (X_ZbM nf kf c9_ZbM) (qB 0 (qS (X_ZbM nf kf c19_ZbM) (KF [.t 4 (.v kI)]))) m8 ⟨[(1,.v kI x1_8),(2,.pt [2] 0),(5,.v kI x5_8)],[([2],.box [.v kI t.kind,.v (kL kS) t.labels,.v (kL (kR 0)) t.args])]⟩
theorem j12_ZbM_eq(nf kf:Nat)(m8:Nat)(x1_8:Int)(x5_8:Int)(t:Ty)(x16_12:Bool):j12_ZbM nf (kf+1) m8 x1_8 x5_8 t x16_12=(br x16_12 (gg (0<=x5_8∧x5_8<(List.length t.args:Int))<|cb (m_ZbM nf kf (gt t.args x5_8 Ty.zero) x1_8) fun r25=>mark (l8_ZbM nf (kf+1) m8 t r25 (w64 (x5_8+(1:Int))))) (some x1_8)):=by kernel_rfl
theorem l8_ZbM_eq(nf kf:Nat)(m8:Nat)(t:Ty)(x1_8:Int)(x5_8:Int):l8_ZbM nf (kf+1) (m8+1) t x1_8 x5_8=(br ((decide (x5_8<(List.length t.args:Int)))==true) (mark (j12_ZbM nf (kf+1) m8 x1_8 x5_8 t (decide ((0:Int)<=x1_8)))) (mark (j12_ZbM nf (kf+1) m8 x1_8 x5_8 t false))):=by
 unfold l8_ZbM j12_ZbM c9_ZbM c19_ZbM w12_ZbM c15_ZbM
 generalize c12_ZbM=x0
 revert x0
 refine id ?_
 intro x0
 kernel_rfl
theorem m_ZbM_eq(nf kf:Nat)(t:Ty)(left:Int):m_ZbM nf (kf+1) t left=(mark (l8_ZbM nf (kf+1) nf t (w64 (left-(1:Int))) (0:Int))):=by kernel_rfl
noncomputable def e_ZbM(nf:Nat):XE:=eF 128 [.v (kR 0),.v kI] [.v kI] (fun t=>m_ZbM nf nf t.1 t.2.1)
theorem gok_ZbM(nf:Nat):∀kf:Nat,XT.ok Tryz.prog (G_ZbM nf kf++B_ZbM nf)
 |0=>by exact trivial
 |kf+1=>by
  have ih:=gok_ZbM nf kf
  refine⟨?_,(by exact trivial)⟩
  ·refine eF_ok fun t x h=> ?_
   obtain⟨t,left,_⟩:=t
   exact runF_ok (N:=27) ih Tryz.func128 (by kernel_rfl) rfl h
theorem o_ZbM(nf:Nat):conOK Tryz.prog 128 (e_ZbM nf).con:=by
 have ih:=gok_ZbM nf nf
 refine eF_ok fun t x h=> ?_
 obtain⟨t,left,_⟩:=t
 exact runF_ok (N:=27) ih Tryz.func128 (by kernel_rfl) rfl h
def c19_ZaX:C:=.sq (.rg [.mv 20 T3,.bi 21 .add T20 (.i 1),.mv 2 T21]) .rt
def c9_ZaX:C:=.sq (.sq (.rg [.mv 5 T4,.fa 6 T1 0 2 2,.ld 7 T6 (kL (kR 0)),.ln 8 false T7,.bi 9 .lss T5 T8]) (.cd T9 .skip (.ex 0))) (.sq (.bk 1 (.rg [.mv 12 T3,.fa 13 T1 0 2 2,.ld 14 T13 (kL (kR 0)),.mv 15 T4,.ia 16 T14 T15 (kR 0),.ld 17 T16 (kR 0),.cv (some 18) 129 [(T17,.v (kR 0))],.cv (some 19) 155 [(T12,.v kI),(T18,.v kI)],.mv 3 T19])) (.rg [.mv 10 T4,.bi 11 .add T10 (.i 1),.mv 4 T11]))
def ir_ZaX:C:=.sq (.rg [.bx 1 T0 (kR 0),.mv 2 (.i 0)]) (.sq (.rg [.mv 3 (.i 0)]) (.sq (.sq (.rg [.mv 4 (.i 0)]) (.bk 0 (.lk [1,3,4] [[1]] c9_ZaX))) c19_ZaX))
noncomputable def B_ZaX(nf:Nat):XT:=[e_ZbC nf]
noncomputable def G_ZaX(nf:Nat):Nat->XT
 |0=>[]
 |kf+1=>[eF 129 [.v (kR 0)] [.v kI] (fun t=>(fun(t:Ty)=>runF (G_ZaX nf kf++B_ZaX nf) nf [.v (kR 0)] [.t 2 (.v kI)] ir_ZaX (t,())) t.1)]
noncomputable abbrev T_ZaX(nf kf:Nat):XT:=G_ZaX nf kf++B_ZaX nf
noncomputable def m_ZaX(nf kf:Nat)(t:Ty):Option (Int):=runF (T_ZaX nf kf) nf [.v (kR 0)] [.t 2 (.v kI)] ir_ZaX (t,())
noncomputable def X_ZaX{R:Type}(nf kf:Nat):C->Env->(Xt->Env->Option R)->Option R:=xc (R:=R) (T_ZaX nf kf).S nf
noncomputable def l8_ZaX(nf kf:Nat)(m8:Nat)(t:Ty)(x3_8:Int)(x4_8:Int):Option (Int):=xit [1,3,4] [[1]] (X_ZaX nf kf c9_ZaX) (qB 0 (qS (X_ZaX nf kf c19_ZaX) (KF [.t 2 (.v kI)]))) m8 ⟨[(1,.pt [1] 0),(3,.v kI x3_8),(4,.v kI x4_8)],[([1],.box [.v kI t.kind,.v (kL kS) t.labels,.v (kL (kR 0)) t.args])]⟩
theorem l8_ZaX_eq(nf kf:Nat)(m8:Nat)(t:Ty)(x3_8:Int)(x4_8:Int):l8_ZaX nf (kf+1) (m8+1) t x3_8 x4_8=(br (decide (x4_8<(List.length t.args:Int))) (gg (0<=x4_8∧x4_8<(List.length t.args:Int))<|cb (m_ZaX nf kf (gt t.args x4_8 Ty.zero)) fun r18=>cb (m_ZbC nf x3_8 r18) fun r19=>mark (l8_ZaX nf (kf+1) m8 t r19 (w64 (x4_8+(1:Int))))) (some (w64 (x3_8+(1:Int))))):=by kernel_rfl
theorem m_ZaX_eq(nf kf:Nat)(t:Ty):m_ZaX nf (kf+1) t=(mark (l8_ZaX nf (kf+1) nf t (0:Int) (0:Int))):=by kernel_rfl
noncomputable def e_ZaX(nf:Nat):XE:=eF 129 [.v (kR 0)] [.v kI] (fun t=>m_ZaX nf nf t.1)
theorem gok_ZaX(nf:Nat):∀kf:Nat,XT.ok Tryz.prog (G_ZaX nf kf++B_ZaX nf)
 |0=>by exact⟨o_ZbC nf,trivial⟩
 |kf+1=>by
  have ih:=gok_ZaX nf kf
  refine⟨?_,(by exact⟨o_ZbC nf,trivial⟩)⟩
  ·refine eF_ok fun t x h=> ?_
   obtain⟨t,_⟩:=t
   exact runF_ok (N:=22) ih Tryz.func129 (by kernel_rfl) rfl h
theorem o_ZaX(nf:Nat):conOK Tryz.prog 129 (e_ZaX nf).con:=by
 have ih:=gok_ZaX nf nf
 refine eF_ok fun t x h=> ?_
 obtain⟨t,_⟩:=t
 exact runF_ok (N:=22) ih Tryz.func129 (by kernel_rfl) rfl h
def c62_ZbH:C:=.sq (.rg [.fa 64 T1 0 1 1,.ld 65 T64 (kL kS),.ln 66 false T65,.bi 67 .eql T66 (.i 0),.mv 68 T67,.g 68 true (.fa 69 T1 0 2 2),.g 68 true (.ld 70 T69 (kL (kR 0))),.g 68 true (.ln 71 false T70),.g 68 true (.mv 72 T4),.g 68 true (.bi 73 .eql T71 T72),.pk 74 T68 T73 (.b false),.mv 2 T74]) .rt
def w62_ZbH:C:=.kp [1,4] [[1]] c62_ZbH
def c51_ZbH:C:=.cd T57 (.rg [.mv 4 (.i 0)]) (.sq (.rg [.bi 61 .eql T56 (.i 4),.mv 60 T61]) (.cd T60 (.rg [.mv 4 (.i 1)]) (.sq (.rg [.bi 63 .eql T56 (.i 5),.mv 62 T63]) (.cd T62 (.rg [.mv 4 (.i 2)]) .skip))))
def w51_ZbH:C:=.kp [1,4,56,57] [[1]] c51_ZbH
def c39_ZbH:C:=.sq (.rg [.mv 4 (.i (-1))]) (.sq (.sq (.rg [.fa 55 T1 0 0 0,.ld 56 T55 kI]) (.bk 2 (.sq (.sq (.rg [.bi 58 .eql T56 (.i 1),.mv 57 T58]) (.cd T57 .skip (.rg [.bi 59 .eql T56 (.i 2),.mv 57 T59]))) w51_ZbH))) w62_ZbH)
def c34_ZbH:C:=.cd T54 (.sq (.rg [.mv 2 (.b false)]) .rt) .skip
def w34_ZbH:C:=.kp [1,54] [[1]] c34_ZbH
def c31_ZbH:C:=.sq (.sq (.rg [.fa 39 T1 0 0 0,.ld 40 T39 kI,.bi 41 .eql T40 (.i 4),.mv 42 T41,.g 42 true (.fa 43 T1 0 2 2),.g 42 true (.ld 44 T43 (kL (kR 0))),.g 42 true (.ln 45 false T44),.g 42 true (.bi 46 .eql T45 (.i 1)),.pk 47 T42 T46 (.b false),.mv 48 T47,.g 48 true (.fa 49 T1 0 2 2),.g 48 true (.ld 50 T49 (kL (kR 0))),.g 48 true (.ia 51 T50 (.i 0) (kR 0)),.g 48 true (.ld 52 T51 (kR 0)),.g 48 true (.cv (some 53) 90 [(T52,.v (kR 0)),((.i 5),.v kI)]),.pk 54 T48 T53 (.b false)]) w34_ZbH) c39_ZbH
def c29_ZbH:C:=.rt
def w29_ZbH:C:=.kp [2] [] c29_ZbH
def c23_ZbH:C:=.sq (.sq (.rg [.fa 19 T1 0 0 0,.ld 20 T19 kI,.bi 21 .eql T20 (.i 3)]) (.cd T21 (.sq (.rg [.fa 22 T1 0 2 2,.ld 23 T22 (kL (kR 0)),.ln 24 false T23,.fa 25 T1 0 1 1,.ld 26 T25 (kL kS),.ln 27 false T26,.bi 28 .eql T24 T27,.mv 29 T28,.g 29 true (.fa 30 T1 0 1 1),.g 29 true (.ld 31 T30 (kL kS)),.g 29 true (.cv (some 32) 156 [(T31,.v (kL kS))]),.pk 33 T29 T32 (.b false),.mv 34 T33,.g 34 true (.ld 35 T1 (kR 0)),.g 34 true (.cv (some 36) 90 [(T35,.v (kR 0)),((.i 5),.v kI)]),.g 34 true (.un 37 .not T36),.pk 38 T34 T37 (.b false),.mv 2 T38]) w29_ZbH) .skip)) c31_ZbH
def w23_ZbH:C:=.kp [1] [[1]] c23_ZbH
def c7_ZbH:C:=.sq (.sq (.rg [.mv 5 T3,.fa 6 T1 0 2 2,.ld 7 T6 (kL (kR 0)),.ln 8 false T7,.bi 9 .lss T5 T8]) (.cd T9 .skip (.ex 0))) (.sq (.bk 1 (.sq (.rg [.fa 12 T1 0 2 2,.ld 13 T12 (kL (kR 0)),.mv 14 T3,.ia 15 T13 T14 (kR 0),.ld 16 T15 (kR 0),.cv (some 17) 130 [(T16,.v (kR 0))],.un 18 .not T17]) (.cd T18 (.sq (.rg [.mv 2 (.b false)]) .rt) .skip))) (.rg [.mv 10 T3,.bi 11 .add T10 (.i 1),.mv 3 T11]))
def ir_ZbH:C:=.sq (.rg [.bx 1 T0 (kR 0),.mv 2 (.b false)]) (.sq (.sq (.rg [.mv 3 (.i 0)]) (.bk 0 (.lk [1,3] [[1]] c7_ZbH))) w23_ZbH)
noncomputable def B_ZbH(nf:Nat):XT:=[e_ZbL nf,e_ZbJ nf]
noncomputable def G_ZbH(nf:Nat):Nat->XT
 |0=>[]
 |kf+1=>[eF 130 [.v (kR 0)] [.v .bool] (fun t=>(fun(t:Ty)=>runF (G_ZbH nf kf++B_ZbH nf) nf [.v (kR 0)] [.t 2 (.v .bool)] ir_ZbH (t,())) t.1)]
noncomputable abbrev T_ZbH(nf kf:Nat):XT:=G_ZbH nf kf++B_ZbH nf
noncomputable def m_ZbH(nf kf:Nat)(t:Ty):Option (Bool):=runF (T_ZbH nf kf) nf [.v (kR 0)] [.t 2 (.v .bool)] ir_ZbH (t,())
noncomputable def X_ZbH{R:Type}(nf kf:Nat):C->Env->(Xt->Env->Option R)->Option R:=xc (R:=R) (T_ZbH nf kf).S nf
noncomputable def l6_ZbH(nf kf:Nat)(m6:Nat)(t:Ty)(x3_6:Int):Option (Bool):=xit [1,3] [[1]] (X_ZbH nf kf c7_ZbH) (qB 0 (qS (X_ZbH nf kf w23_ZbH) (KF [.t 2 (.v .bool)]))) m6 ⟨[(1,.pt [1] 0),(3,.v kI x3_6)],[([1],.box [.v kI t.kind,.v (kL kS) t.labels,.v (kL (kR 0)) t.args])]⟩
noncomputable def j29_ZbH(nf kf:Nat)(x2_29:Bool):Option (Bool):=X_ZbH nf kf c29_ZbH ⟨[(2,.v .bool x2_29)],[]⟩ (qS (X_ZbH nf kf c31_ZbH) (KF [.t 2 (.v .bool)]))
noncomputable def j34_ZbH(nf kf:Nat)(t:Ty)(x54_34:Bool):Option (Bool):=X_ZbH nf kf c34_ZbH ⟨[(1,.pt [1] 0),(54,.v .bool x54_34)],[([1],.box [.v kI t.kind,.v (kL kS) t.labels,.v (kL (kR 0)) t.args])]⟩ (qS (X_ZbH nf kf c39_ZbH) (KF [.t 2 (.v .bool)]))
noncomputable def j51_ZbH(nf kf:Nat)(t:Ty)(x57_51:Bool):Option (Bool):=X_ZbH nf kf c51_ZbH ⟨[(1,.pt [1] 0),(4,.v kI (-1:Int)),(56,.v kI t.kind),(57,.v .bool x57_51)],[([1],.box [.v kI t.kind,.v (kL kS) t.labels,.v (kL (kR 0)) t.args])]⟩ (qB 2 (qS (X_ZbH nf kf w62_ZbH) (KF [.t 2 (.v .bool)])))
noncomputable def j62_ZbH(nf kf:Nat)(t:Ty)(x4_62:Int):Option (Bool):=X_ZbH nf kf c62_ZbH ⟨[(1,.pt [1] 0),(4,.v kI x4_62)],[([1],.box [.v kI t.kind,.v (kL kS) t.labels,.v (kL (kR 0)) t.args])]⟩ (KF [.t 2 (.v .bool)])
noncomputable def j23_ZbH(nf kf:Nat)(t:Ty):Option (Bool):=X_ZbH nf kf c23_ZbH ⟨[(1,.pt [1] 0)],[([1],.box [.v kI t.kind,.v (kL kS) t.labels,.v (kL (kR 0)) t.args])]⟩ (KF [.t 2 (.v .bool)])
theorem l6_ZbH_eq(nf kf:Nat)(m6:Nat)(t:Ty)(x3_6:Int):l6_ZbH nf (kf+1) (m6+1) t x3_6=(br (decide (x3_6<(List.length t.args:Int))) (gg (0<=x3_6∧x3_6<(List.length t.args:Int))<|cb (m_ZbH nf kf (gt t.args x3_6 Ty.zero)) fun r17=>br (!r17) (some false) (mark (l6_ZbH nf (kf+1) m6 t (w64 (x3_6+(1:Int)))))) (mark (j23_ZbH nf (kf+1) t))):=by
 unfold l6_ZbH j23_ZbH c7_ZbH w23_ZbH
 generalize c23_ZbH=x0
 revert x0
 refine id ?_
 intro x0
 kernel_rfl
theorem j29_ZbH_eq(nf kf:Nat)(x2_29:Bool):j29_ZbH nf (kf+1) x2_29=(some x2_29):=by
 unfold j29_ZbH c29_ZbH c31_ZbH w34_ZbH c39_ZbH w51_ZbH w62_ZbH
 generalize c34_ZbH=x0
 generalize c51_ZbH=x1
 generalize c62_ZbH=x2
 revert x0 x1 x2
 refine id ?_
 intro x0 x1 x2
 kernel_rfl
theorem j34_ZbH_eq(nf kf:Nat)(t:Ty)(x54_34:Bool):j34_ZbH nf (kf+1) t x54_34=(br x54_34 (some false) (br (t.kind==(1:Int)) (mark (j51_ZbH nf (kf+1) t (t.kind==(1:Int)))) (mark (j51_ZbH nf (kf+1) t (t.kind==(2:Int)))))):=by
 unfold j34_ZbH j51_ZbH c34_ZbH c39_ZbH w51_ZbH w62_ZbH
 generalize c51_ZbH=x0
 generalize c62_ZbH=x1
 revert x0 x1
 refine id ?_
 intro x0 x1
 kernel_rfl
theorem j51_ZbH_eq(nf kf:Nat)(t:Ty)(x57_51:Bool):j51_ZbH nf (kf+1) t x57_51=(br x57_51 (mark (j62_ZbH nf (kf+1) t (0:Int))) (br (t.kind==(4:Int)) (mark (j62_ZbH nf (kf+1) t (1:Int))) (br (t.kind==(5:Int)) (mark (j62_ZbH nf (kf+1) t (2:Int))) (mark (j62_ZbH nf (kf+1) t (-1:Int)))))):=by
 unfold j51_ZbH j62_ZbH c51_ZbH w62_ZbH
 generalize c62_ZbH=x0
 revert x0
 refine id ?_
 intro x0
 kernel_rfl
theorem j62_ZbH_eq(nf kf:Nat)(t:Ty)(x4_62:Int):j62_ZbH nf (kf+1) t x4_62=(br (((List.length t.labels:Int)==(0:Int))==true) (some ((List.length t.args:Int)==x4_62)) (some false)):=by kernel_rfl
theorem j23_ZbH_eq(nf kf:Nat)(t:Ty):j23_ZbH nf (kf+1) t=(br (t.kind==(3:Int)) (br (((List.length t.args:Int)==(List.length t.labels:Int))==true) (cb (m_ZbL nf t.labels) fun r32=>br (r32==true) (cb (m_ZbJ nf nf (Ty.h t) (5:Int)) fun r36=>mark (j29_ZbH nf (kf+1) (!r36))) (mark (j29_ZbH nf (kf+1) false))) (mark (j29_ZbH nf (kf+1) false))) (br ((t.kind==(4:Int))==true) (br (((List.length t.args:Int)==(1:Int))==true) (gg (0<=(0:Int)∧(0:Int)<(List.length t.args:Int))<|cb (m_ZbJ nf nf (gt t.args (0:Int) Ty.zero) (5:Int)) fun r53=>mark (j34_ZbH nf (kf+1) t r53)) (mark (j34_ZbH nf (kf+1) t false))) (mark (j34_ZbH nf (kf+1) t false)))):=by
 unfold j23_ZbH j29_ZbH j34_ZbH c23_ZbH w29_ZbH c31_ZbH w34_ZbH c39_ZbH w51_ZbH w62_ZbH
 generalize c29_ZbH=x0
 generalize c34_ZbH=x1
 generalize c51_ZbH=x2
 generalize c62_ZbH=x3
 revert x0 x1 x2 x3
 refine id ?_
 intro x0 x1 x2 x3
 kernel_rfl
theorem m_ZbH_eq(nf kf:Nat)(t:Ty):m_ZbH nf (kf+1) t=(mark (l6_ZbH nf (kf+1) nf t (0:Int))):=by
 unfold m_ZbH l6_ZbH ir_ZbH w23_ZbH
 generalize c23_ZbH=x0
 revert x0
 refine id ?_
 intro x0
 kernel_rfl
noncomputable def e_ZbH(nf:Nat):XE:=eF 130 [.v (kR 0)] [.v .bool] (fun t=>m_ZbH nf nf t.1)
theorem gok_ZbH(nf:Nat):∀kf:Nat,XT.ok Tryz.prog (G_ZbH nf kf++B_ZbH nf)
 |0=>by exact⟨o_ZbL nf,o_ZbJ nf,trivial⟩
 |kf+1=>by
  have ih:=gok_ZbH nf kf
  refine⟨?_,(by exact⟨o_ZbL nf,o_ZbJ nf,trivial⟩)⟩
  ·refine eF_ok fun t x h=> ?_
   obtain⟨t,_⟩:=t
   exact runF_ok (N:=75) ih Tryz.func130 (by kernel_rfl) rfl h
theorem o_ZbH(nf:Nat):conOK Tryz.prog 130 (e_ZbH nf).con:=by
 have ih:=gok_ZbH nf nf
 refine eF_ok fun t x h=> ?_
 obtain⟨t,_⟩:=t
 exact runF_ok (N:=75) ih Tryz.func130 (by kernel_rfl) rfl h
def ir_Zbi:C:=.sq (.rg [.bx 1 T0 (kR 0),.mv 2 (.b false)]) (.sq (.rg [.ld 3 T1 (kR 0),.cv (some 4) 128 [(T3,.v (kR 0)),((.i 24),.v kI)],.bi 5 .geq T4 (.i 0),.mv 6 T5,.g 6 true (.ld 7 T1 (kR 0)),.g 6 true (.cv (some 8) 129 [(T7,.v (kR 0))]),.g 6 true (.bi 9 .leq T8 (.i 7)),.pk 10 T6 T9 (.b false),.mv 11 T10,.g 11 true (.ld 12 T1 (kR 0)),.g 11 true (.cv (some 13) 130 [(T12,.v (kR 0))]),.pk 14 T11 T13 (.b false),.mv 2 T14]) .rt)
noncomputable abbrev T_Zbi(nf:Nat):XT:=[e_ZbM nf,e_ZaX nf,e_ZbH nf]
noncomputable def m_Zbi(nf:Nat)(t:Ty):Option (Bool):=runF (T_Zbi nf) nf [.v (kR 0)] [.t 2 (.v .bool)] ir_Zbi (t,())
theorem m_Zbi_eq(nf:Nat)(t:Ty):m_Zbi nf t=(cb (m_ZbM nf nf (Ty.h t) (24:Int)) fun r4=>br ((decide ((0:Int)<=r4))==true) (cb (m_ZaX nf nf (Ty.h t)) fun r8=>br ((decide (r8<=(7:Int)))==true) (cb (m_ZbH nf nf (Ty.h t)) fun r13=>some r13) (some false)) (some false)):=by kernel_rfl
noncomputable def e_Zbi(nf:Nat):XE:=eF 87 [.v (kR 0)] [.v .bool] (fun t=>m_Zbi nf t.1)
theorem o_Zbi(nf:Nat):conOK Tryz.prog 87 (e_Zbi nf).con:=by
 have ih:XT.ok Tryz.prog (T_Zbi nf):=by exact⟨o_ZbM nf,o_ZaX nf,o_ZbH nf,trivial⟩
 refine eF_ok fun t x h=> ?_
 obtain⟨t,_⟩:=t
 exact runF_ok (N:=15) ih Tryz.func87 (by kernel_rfl) rfl h
def ir_Zbd:C:=.sq (.rg [.bx 1 T0 (kR 0),.mv 2 (.b false)]) (.sq (.rg [.ld 3 T1 (kR 0),.cv (some 4) 87 [(T3,.v (kR 0))],.mv 5 T4,.g 5 true (.ld 6 T1 (kR 0)),.g 5 true (.cv (some 7) 90 [(T6,.v (kR 0)),((.i 5),.v kI)]),.g 5 true (.un 8 .not T7),.pk 9 T5 T8 (.b false),.mv 2 T9]) .rt)
noncomputable abbrev T_Zbd(nf:Nat):XT:=[e_Zbi nf,e_ZbJ nf]
noncomputable def m_Zbd(nf:Nat)(t:Ty):Option (Bool):=runF (T_Zbd nf) nf [.v (kR 0)] [.t 2 (.v .bool)] ir_Zbd (t,())
theorem m_Zbd_eq(nf:Nat)(t:Ty):m_Zbd nf t=(cb (m_Zbi nf (Ty.h t)) fun r4=>br (r4==true) (cb (m_ZbJ nf nf (Ty.h t) (5:Int)) fun r7=>some (!r7)) (some false)):=by kernel_rfl
noncomputable def e_Zbd(nf:Nat):XE:=eF 51 [.v (kR 0)] [.v .bool] (fun t=>m_Zbd nf t.1)
theorem o_Zbd(nf:Nat):conOK Tryz.prog 51 (e_Zbd nf).con:=by
 have ih:XT.ok Tryz.prog (T_Zbd nf):=by exact⟨o_Zbi nf,o_ZbJ nf,trivial⟩
 refine eF_ok fun t x h=> ?_
 obtain⟨t,_⟩:=t
 exact runF_ok (N:=10) ih Tryz.func51 (by kernel_rfl) rfl h
def ir_ZbE:C:=.sq (.rg [.bx 1 T0 (kR 0),.mv 2 (.b false)]) (.sq (.rg [.fa 3 T1 0 0 0,.ld 4 T3 kI,.bi 5 .eql T4 (.i 1),.mv 6 T5,.g 6 false (.fa 7 T1 0 0 0),.g 6 false (.ld 8 T7 kI),.g 6 false (.bi 9 .eql T8 (.i 2)),.pk 10 T6 (.b true) T9,.mv 2 T10]) .rt)
noncomputable abbrev T_ZbE(nf:Nat):XT:=[]
noncomputable def m_ZbE(nf:Nat)(t:Ty):Option (Bool):=runF (T_ZbE nf) nf [.v (kR 0)] [.t 2 (.v .bool)] ir_ZbE (t,())
theorem m_ZbE_eq(nf:Nat)(t:Ty):m_ZbE nf t=(br ((t.kind==(1:Int))==false) (some (t.kind==(2:Int))) (some true)):=by kernel_rfl
noncomputable def e_ZbE(nf:Nat):XE:=eF 113 [.v (kR 0)] [.v .bool] (fun t=>m_ZbE nf t.1)
theorem o_ZbE(nf:Nat):conOK Tryz.prog 113 (e_ZbE nf).con:=by
 have ih:XT.ok Tryz.prog (T_ZbE nf):=by exact trivial
 refine eF_ok fun t x h=> ?_
 obtain⟨t,_⟩:=t
 exact runF_ok (N:=11) ih Tryz.func113 (by kernel_rfl) rfl h
def c31_Zbg:C:=.sq (.rg [.mv 2 (.b true)]) .rt
def c15_Zbg:C:=.sq (.sq (.rg [.mv 12 T3,.fa 13 T1 0 2 2,.ld 14 T13 (kL (kR 0)),.ln 15 false T14,.bi 16 .lss T12 T15]) (.cd T16 .skip (.ex 0))) (.sq (.bk 1 (.sq (.rg [.fa 19 T1 0 2 2,.ld 20 T19 (kL (kR 0)),.mv 21 T3,.ia 22 T20 T21 (kR 0),.ld 23 T22 (kR 0),.cv (some 24) 113 [(T23,.v (kR 0))],.un 25 .not T24]) (.cd T25 (.sq (.rg [.mv 2 (.b false)]) .rt) .skip))) (.rg [.mv 17 T3,.bi 18 .add T17 (.i 1),.mv 3 T18]))
def c10_Zbg:C:=.sq (.sq (.rg [.mv 3 (.i 0)]) (.bk 0 (.lk [1,3] [[1]] c15_Zbg))) c31_Zbg
def c5_Zbg:C:=.cd T11 (.sq (.rg [.mv 2 (.b false)]) .rt) .skip
def w5_Zbg:C:=.kp [1,11] [[1]] c5_Zbg
def ir_Zbg:C:=.sq (.rg [.bx 1 T0 (kR 0),.mv 2 (.b false)]) (.sq (.sq (.rg [.ld 4 T1 (kR 0),.cv (some 5) 87 [(T4,.v (kR 0))],.un 6 .not T5,.mv 7 T6,.g 7 false (.fa 8 T1 0 0 0),.g 7 false (.ld 9 T8 kI),.g 7 false (.bi 10 .neq T9 (.i 3)),.pk 11 T7 (.b true) T10]) w5_Zbg) c10_Zbg)
noncomputable abbrev T_Zbg(nf:Nat):XT:=[e_Zbi nf,e_ZbE nf]
noncomputable def m_Zbg(nf:Nat)(t:Ty):Option (Bool):=runF (T_Zbg nf) nf [.v (kR 0)] [.t 2 (.v .bool)] ir_Zbg (t,())
noncomputable def X_Zbg{R:Type}(nf:Nat):C->Env->(Xt->Env->Option R)->Option R:=xc (R:=R) (T_Zbg nf).S nf
noncomputable def j5_Zbg(nf:Nat)(t:Ty)(x11_5:Bool):Option (Bool):=X_Zbg nf c5_Zbg ⟨[(1,.pt [1] 0),(11,.v .bool x11_5)],[([1],.box [.v kI t.kind,.v (kL kS) t.labels,.v (kL (kR 0)) t.args])]⟩ (qS (X_Zbg nf c10_Zbg) (KF [.t 2 (.v .bool)]))
noncomputable def l14_Zbg(nf:Nat)(m14:Nat)(t:Ty)(x3_14:Int):Option (Bool):=xit [1,3] [[1]] (X_Zbg nf c15_Zbg) (qB 0 (qS (X_Zbg nf c31_Zbg) (KF [.t 2 (.v .bool)]))) m14 ⟨[(1,.pt [1] 0),(3,.v kI x3_14)],[([1],.box [.v kI t.kind,.v (kL kS) t.labels,.v (kL (kR 0)) t.args])]⟩
theorem j5_Zbg_eq(nf:Nat)(t:Ty)(x11_5:Bool):j5_Zbg nf t x11_5=(br x11_5 (some false) (mark (l14_Zbg nf nf t (0:Int)))):=by kernel_rfl
theorem l14_Zbg_eq(nf:Nat)(m14:Nat)(t:Ty)(x3_14:Int):l14_Zbg nf (m14+1) t x3_14=(br (decide (x3_14<(List.length t.args:Int))) (gg (0<=x3_14∧x3_14<(List.length t.args:Int))<|cb (m_ZbE nf (gt t.args x3_14 Ty.zero)) fun r24=>br (!r24) (some false) (mark (l14_Zbg nf m14 t (w64 (x3_14+(1:Int)))))) (some true)):=by kernel_rfl
theorem m_Zbg_eq(nf:Nat)(t:Ty):m_Zbg nf t=(cb (m_Zbi nf (Ty.h t)) fun r5=>br ((!r5)==false) (mark (j5_Zbg nf t (!(t.kind==(3:Int))))) (mark (j5_Zbg nf t true))):=by
 unfold m_Zbg j5_Zbg ir_Zbg w5_Zbg c10_Zbg c31_Zbg
 generalize c5_Zbg=x0
 revert x0
 refine id ?_
 intro x0
 kernel_rfl
noncomputable def e_Zbg(nf:Nat):XE:=eF 74 [.v (kR 0)] [.v .bool] (fun t=>m_Zbg nf t.1)
theorem o_Zbg(nf:Nat):conOK Tryz.prog 74 (e_Zbg nf).con:=by
 have ih:XT.ok Tryz.prog (T_Zbg nf):=by exact⟨o_Zbi nf,o_ZbE nf,trivial⟩
 refine eF_ok fun t x h=> ?_
 obtain⟨t,_⟩:=t
 exact runF_ok (N:=26) ih Tryz.func74 (by kernel_rfl) rfl h
def c27_Zbh:C:=.sq (.rg [.mv 40 T3,.ln 41 false T40,.bi 42 .leq T41 (.i 4),.mv 43 T42,.g 43 true (.mv 44 T3),.g 43 true (.cv (some 45) 75 [(T44,.v (kL kS))]),.pk 46 T43 T45 (.b false),.mv 2 T46]) .rt
def w27_Zbh:C:=.kp [3] [[3]] c27_Zbh
def c26_Zbh:C:=.rg [.mv 11 T4,.bi 12 .add T11 (.i 1),.mv 4 T12]
def c25_Zbh:C:=.gt 3 true kS (.rg [.mv 31 T3,.fa 32 T1 5 0 0,.ld 33 T32 (kL (kR 4)),.mv 34 T4,.ia 35 T33 T34 (kR 4),.fa 36 T35 4 0 0,.ld 37 T36 kS,.bs 38 true kS [T37],.ap 39 [3] true kS T31 T38,.mv 3 T39])
def c20_Zbh:C:=.cd T30 (.sq (.rg [.mv 2 (.b false)]) .rt) .skip
def w20_Zbh:C:=.kp [1,3,4,30] [[1],[3]] c20_Zbh
def c9_Zbh:C:=.sq (.sq (.rg [.mv 6 T4,.fa 7 T1 5 0 0,.ld 8 T7 (kL (kR 4)),.ln 9 false T8,.bi 10 .lss T6 T9]) (.cd T10 .skip (.ex 0))) (.sq (.bk 1 (.sq (.sq (.rg [.fa 13 T1 5 0 0,.ld 14 T13 (kL (kR 4)),.mv 15 T4,.ia 16 T14 T15 (kR 4),.fa 17 T16 4 0 0,.ld 18 T17 kS,.cv (some 19) 72 [(T18,.v kS)],.un 20 .not T19,.mv 21 T20,.g 21 false (.fa 22 T1 5 0 0),.g 21 false (.ld 23 T22 (kL (kR 4))),.g 21 false (.mv 24 T4),.g 21 false (.ia 25 T23 T24 (kR 4)),.g 21 false (.fa 26 T25 4 1 1),.g 21 false (.ld 27 T26 (kR 0)),.g 21 false (.cv (some 28) 74 [(T27,.v (kR 0))]),.g 21 false (.un 29 .not T28),.pk 30 T21 (.b true) T29]) w20_Zbh) c25_Zbh)) c26_Zbh)
def ir_Zbh:C:=.sq (.rg [.bx 1 T0 (kR 5),.mv 2 (.b false)]) (.sq (.rg [.bs 5 true kS [],.mv 3 T5]) (.sq (.sq (.rg [.mv 4 (.i 0)]) (.bk 0 (.gt 3 true kS (.lk [1,3,4] [[1],[3]] c9_Zbh)))) w27_Zbh))
noncomputable abbrev T_Zbh(nf:Nat):XT:=[e_Zbf nf,e_Zbg nf,e_ZaW nf]
noncomputable def m_Zbh(nf:Nat)(s:Schema):Option (Bool):=runF (T_Zbh nf) nf [.v (kR 5)] [.t 2 (.v .bool)] ir_Zbh (s,())
noncomputable def X_Zbh{R:Type}(nf:Nat):C->Env->(Xt->Env->Option R)->Option R:=xc (R:=R) (T_Zbh nf).S nf
noncomputable def j20_Zbh(nf:Nat)(m8:Nat)(x4_8:Int)(s:Schema)(y3_8:List Str)(x30_20:Bool):Option (Bool):=X_Zbh nf c20_Zbh ⟨[(1,.pt [1] 0),(3,.sl [3]),(4,.v kI x4_8),(30,.v .bool x30_20)],[([1],.box [.v (kL (kR 4)) s.tables]),([3],.row true false kS y3_8)]⟩ (qS (X_Zbh nf c25_Zbh) (qB 1 (qS (X_Zbh nf c26_Zbh) (qM [1,3,4] [[1],[3]] (X_Zbh nf c9_Zbh) m8 (qB 0 (qS (X_Zbh nf w27_Zbh) (KF [.t 2 (.v .bool)])))))))
noncomputable def l8_Zbh(nf:Nat)(m8:Nat)(s:Schema)(x4_8:Int)(y3_8:List Str):Option (Bool):=xit [1,3,4] [[1],[3]] (X_Zbh nf c9_Zbh) (qB 0 (qS (X_Zbh nf w27_Zbh) (KF [.t 2 (.v .bool)]))) m8 ⟨[(1,.pt [1] 0),(3,.sl [3]),(4,.v kI x4_8)],[([1],.box [.v (kL (kR 4)) s.tables]),([3],.row true false kS y3_8)]⟩
noncomputable def j27_Zbh(nf:Nat)(y3_8:List Str):Option (Bool):=X_Zbh nf c27_Zbh ⟨[(3,.sl [3])],[([3],.row true false kS y3_8)]⟩ (KF [.t 2 (.v .bool)])
theorem j20_Zbh_eq(nf:Nat)(m8:Nat)(x4_8:Int)(s:Schema)(y3_8:List Str)(x30_20:Bool):j20_Zbh nf m8 x4_8 s y3_8 x30_20=(br x30_20 (some false) (gg (0<=x4_8∧x4_8<(List.length s.tables:Int))<|gg (List.length y3_8+List.length ([((gt s.tables x4_8 TDecl.zero).name)]:List Str)<=33554432)<|mark (l8_Zbh nf m8 s (w64 (x4_8+(1:Int))) (y3_8++([((gt s.tables x4_8 TDecl.zero).name)]:List Str))))):=by
 unfold j20_Zbh l8_Zbh c20_Zbh w27_Zbh c26_Zbh c25_Zbh
 generalize c27_Zbh=x0
 revert x0
 refine id ?_
 intro x0
 kernel_rfl
theorem l8_Zbh_eq(nf:Nat)(m8:Nat)(s:Schema)(x4_8:Int)(y3_8:List Str):l8_Zbh nf (m8+1) s x4_8 y3_8=(br (decide (x4_8<(List.length s.tables:Int))) (gg (0<=x4_8∧x4_8<(List.length s.tables:Int))<|cb (m_Zbf nf ((gt s.tables x4_8 TDecl.zero).name)) fun r19=>br ((!r19)==false) (gg (0<=x4_8∧x4_8<(List.length s.tables:Int))<|cb (m_Zbg nf ((gt s.tables x4_8 TDecl.zero).row)) fun r28=>mark (j20_Zbh nf m8 x4_8 s y3_8 (!r28))) (mark (j20_Zbh nf m8 x4_8 s y3_8 true))) (mark (j27_Zbh nf y3_8))):=by
 unfold l8_Zbh j20_Zbh j27_Zbh c9_Zbh w27_Zbh w20_Zbh c25_Zbh c26_Zbh
 generalize c27_Zbh=x0
 generalize c20_Zbh=x1
 revert x0 x1
 refine id ?_
 intro x0 x1
 kernel_rfl
theorem j27_Zbh_eq(nf:Nat)(y3_8:List Str):j27_Zbh nf y3_8=(br ((decide ((List.length y3_8:Int)<=(4:Int)))==true) (cb (m_ZaW nf y3_8) fun r45=>some r45) (some false)):=by kernel_rfl
theorem m_Zbh_eq(nf:Nat)(s:Schema):m_Zbh nf s=(mark (l8_Zbh nf nf s (0:Int) ([]:List Str))):=by
 unfold m_Zbh l8_Zbh ir_Zbh w27_Zbh
 generalize c27_Zbh=x0
 revert x0
 refine id ?_
 intro x0
 kernel_rfl
noncomputable def e_Zbh(nf:Nat):XE:=eF 33 [.v (kR 5)] [.v .bool] (fun t=>m_Zbh nf t.1)
theorem o_Zbh(nf:Nat):conOK Tryz.prog 33 (e_Zbh nf).con:=by
 have ih:XT.ok Tryz.prog (T_Zbh nf):=by exact⟨o_Zbf nf,o_Zbg nf,o_ZaW nf,trivial⟩
 refine eF_ok fun t x h=> ?_
 obtain⟨s,_⟩:=t
 exact runF_ok (N:=47) ih Tryz.func33 (by kernel_rfl) rfl h
def c39_Zbk:C:=.sq (.rg [.mv 2 (.i 0)]) .rt
def c28_Zbk:C:=.cd T4 (.sq (.rg [.mv 2 (.i 2)]) .rt) (.sq (.rg [.bi 12 .eql T3 (.s [33]),.mv 11 T12]) (.cd T11 (.sq (.rg [.mv 2 (.i 1)]) .rt) .skip))
def w28_Zbk:C:=.kp [3,4] [] c28_Zbk
def ir_Zbk:C:=.sq (.rg [.mv 2 (.i 0)]) (.sq (.sq (.rg [.mv 3 T0]) (.bk 0 (.sq (.sq (.rg [.bi 5 .eql T3 (.s [43]),.mv 4 T5]) (.cd T4 .skip (.sq (.rg [.bi 6 .eql T3 (.s [45]),.mv 4 T6]) (.cd T4 .skip (.sq (.rg [.bi 7 .eql T3 (.s [61]),.mv 4 T7]) (.cd T4 .skip (.sq (.rg [.bi 8 .eql T3 (.s [60]),.mv 4 T8]) (.cd T4 .skip (.sq (.rg [.bi 9 .eql T3 (.s [38]),.mv 4 T9]) (.cd T4 .skip (.rg [.bi 10 .eql T3 (.s [124]),.mv 4 T10]))))))))))) w28_Zbk))) c39_Zbk)
noncomputable abbrev T_Zbk(nf:Nat):XT:=[]
noncomputable def m_Zbk(nf:Nat)(op:Str):Option (Int):=runF (T_Zbk nf) nf [.v kS] [.t 2 (.v kI)] ir_Zbk (op,())
noncomputable def X_Zbk{R:Type}(nf:Nat):C->Env->(Xt->Env->Option R)->Option R:=xc (R:=R) (T_Zbk nf).S nf
noncomputable def j28_Zbk(nf:Nat)(op:Str)(x4_28:Bool):Option (Int):=X_Zbk nf c28_Zbk ⟨[(3,.v kS op),(4,.v .bool x4_28)],[]⟩ (qB 0 (qS (X_Zbk nf c39_Zbk) (KF [.t 2 (.v kI)])))
theorem j28_Zbk_eq(nf:Nat)(op:Str)(x4_28:Bool):j28_Zbk nf op x4_28=(br x4_28 (some (2:Int)) (br (op==([33]:Str)) (some (1:Int)) (some (0:Int)))):=by kernel_rfl
theorem m_Zbk_eq(nf:Nat)(op:Str):m_Zbk nf op=(br (op==([43]:Str)) (mark (j28_Zbk nf op (op==([43]:Str)))) (br (op==([45]:Str)) (mark (j28_Zbk nf op (op==([45]:Str)))) (br (op==([61]:Str)) (mark (j28_Zbk nf op (op==([61]:Str)))) (br (op==([60]:Str)) (mark (j28_Zbk nf op (op==([60]:Str)))) (br (op==([38]:Str)) (mark (j28_Zbk nf op (op==([38]:Str)))) (mark (j28_Zbk nf op (op==([124]:Str))))))))):=by
 unfold m_Zbk j28_Zbk ir_Zbk w28_Zbk c39_Zbk
 generalize c28_Zbk=x0
 revert x0
 refine id ?_
 intro x0
 kernel_rfl
noncomputable def e_Zbk(nf:Nat):XE:=eF 173 [.v kS] [.v kI] (fun t=>m_Zbk nf t.1)
theorem o_Zbk(nf:Nat):conOK Tryz.prog 173 (e_Zbk nf).con:=by
 have ih:XT.ok Tryz.prog (T_Zbk nf):=by exact trivial
 refine eF_ok fun t x h=> ?_
 obtain⟨op,_⟩:=t
 exact runF_ok (N:=13) ih Tryz.func173 (by kernel_rfl) rfl h
def ir_ZbS:C:=.sq (.rg [.mv 2 (.b false)]) (.sq (.rg [.mv 3 T0,.bi 4 .eql T3 (.i 1),.mv 5 T4,.g 5 false (.mv 6 T0),.g 5 false (.bi 7 .eql T6 (.i 6)),.pk 8 T5 (.b true) T7,.mv 9 T8,.g 9 false (.mv 10 T0),.g 9 false (.bi 11 .eql T10 (.i 10)),.pk 12 T9 (.b true) T11,.mv 13 T12,.g 13 false (.mv 14 T0),.g 13 false (.bi 15 .eql T14 (.i 12)),.pk 16 T13 (.b true) T15,.mv 17 T16,.g 17 false (.mv 18 T0),.g 17 false (.bi 19 .eql T18 (.i 13)),.pk 20 T17 (.b true) T19,.mv 2 T20]) .rt)
noncomputable abbrev T_ZbS(nf:Nat):XT:=[]
noncomputable def m_ZbS(nf:Nat)(kind:Int):Option (Bool):=runF (T_ZbS nf) nf [.v kI] [.t 2 (.v .bool)] ir_ZbS (kind,())
theorem m_ZbS_eq(nf:Nat)(kind:Int):m_ZbS nf kind=(br ((kind==(1:Int))==false) (br ((kind==(6:Int))==false) (br ((kind==(10:Int))==false) (br ((kind==(12:Int))==false) (some (kind==(13:Int))) (some true)) (some true)) (some true)) (some true)):=by kernel_rfl
noncomputable def e_ZbS(nf:Nat):XE:=eF 174 [.v kI] [.v .bool] (fun t=>m_ZbS nf t.1)
theorem o_ZbS(nf:Nat):conOK Tryz.prog 174 (e_ZbS nf).con:=by
 have ih:XT.ok Tryz.prog (T_ZbS nf):=by exact trivial
 refine eF_ok fun t x h=> ?_
 obtain⟨kind,_⟩:=t
 exact runF_ok (N:=21) ih Tryz.func174 (by kernel_rfl) rfl h
def c53_ZbQ:C:=.sq (.rg [.fa 93 T1 2 2 2,.ld 94 T93 kI,.mv 95 T4,.cv (some 96) 92 [(T94,.v kI),((.i 0),.v kI),(T95,.v kI)],.mv 2 T96]) .rt
def w53_ZbQ:C:=.kp [1,4] [[1]] c53_ZbQ
def c38_ZbQ:C:=.sq (.rg [.mv 4 (.i 0)]) (.sq (.sq (.rg [.fa 87 T1 2 0 0,.ld 88 T87 kI]) (.bk 0 (.sq (.rg [.bi 90 .eql T88 (.i 2),.mv 89 T90]) (.cd T89 (.rg [.mv 4 (.i 999)]) (.sq (.rg [.bi 92 .eql T88 (.i 3),.mv 91 T92]) (.cd T91 (.rg [.mv 4 (.i 1)]) .skip)))))) w53_ZbQ)
def c33_ZbQ:C:=.cd T86 (.sq (.rg [.mv 2 (.b false)]) .rt) .skip
def w33_ZbQ:C:=.kp [1,86] [[1]] c33_ZbQ
def c30_ZbQ:C:=.sq (.sq (.rg [.fa 67 T1 2 0 0,.ld 68 T67 kI,.bi 69 .eql T68 (.i 5),.mv 70 T69,.g 70 true (.fa 71 T1 2 4 6),.g 70 true (.ld 72 T71 (kL kS)),.g 70 true (.cv (some 73) 156 [(T72,.v (kL kS))]),.g 70 true (.un 74 .not T73),.pk 75 T70 T74 (.b false),.mv 76 T75,.g 76 false (.fa 77 T1 2 0 0),.g 76 false (.ld 78 T77 kI),.g 76 false (.bi 79 .neq T78 (.i 5)),.g 76 false (.mv 80 T79),.g 80 true (.fa 81 T1 2 4 6),.g 80 true (.ld 82 T81 (kL kS)),.g 80 true (.ln 83 false T82),.g 80 true (.bi 84 .gtr T83 (.i 0)),.g 76 false (.pk 85 T80 T84 (.b false)),.pk 86 T76 (.b true) T85]) w33_ZbQ) c38_ZbQ
def c25_ZbQ:C:=.cd T66 (.sq (.rg [.mv 2 (.b false)]) .rt) .skip
def w25_ZbQ:C:=.kp [1,66] [[1]] c25_ZbQ
def c22_ZbQ:C:=.sq (.sq (.rg [.mv 38 T3,.fa 39 T1 2 3 3,.ld 40 T39 (kR 0),.cv (some 41) 87 [(T40,.v (kR 0))],.be 42 true T38 T41,.mv 43 T42,.g 43 false (.mv 44 T3),.g 43 false (.un 45 .not T44),.g 43 false (.mv 46 T45),.g 46 true (.fa 47 T1 2 3 3),.g 46 true (.fa 48 T47 0 0 0),.g 46 true (.ld 49 T48 kI),.g 46 true (.bi 50 .neq T49 (.i 0)),.g 46 true (.mv 51 T50),.g 51 false (.fa 52 T1 2 3 3),.g 51 false (.fa 53 T52 0 1 1),.g 51 false (.ld 54 T53 (kL kS)),.g 51 false (.ln 55 false T54),.g 51 false (.bi 56 .gtr T55 (.i 0)),.g 46 true (.pk 57 T51 (.b true) T56),.g 46 true (.mv 58 T57),.g 58 false (.fa 59 T1 2 3 3),.g 58 false (.fa 60 T59 0 2 2),.g 58 false (.ld 61 T60 (kL (kR 0))),.g 58 false (.ln 62 false T61),.g 58 false (.bi 63 .gtr T62 (.i 0)),.g 46 true (.pk 64 T58 (.b true) T63),.g 43 false (.pk 65 T46 T64 (.b false)),.pk 66 T43 (.b true) T65]) w25_ZbQ) c30_ZbQ
def w22_ZbQ:C:=.kp [1,3] [[1]] c22_ZbQ
def c20_ZbQ:C:=.sq (.rg [.fa 30 T1 2 0 0,.ld 31 T30 kI,.bi 32 .eql T31 (.i 7),.mv 33 T32,.g 33 false (.fa 34 T1 2 0 0),.g 33 false (.ld 35 T34 kI),.g 33 false (.bi 36 .eql T35 (.i 13)),.pk 37 T33 (.b true) T36,.mv 3 T37]) w22_ZbQ
def w20_ZbQ:C:=.kp [1] [[1]] c20_ZbQ
def c15_ZbQ:C:=.cd T29 (.sq (.rg [.mv 2 (.b false)]) .rt) .skip
def w15_ZbQ:C:=.kp [1,29] [[1]] c15_ZbQ
def ir_ZbQ:C:=.sq (.rg [.bx 1 T0 (kR 2),.mv 2 (.b false)]) (.sq (.sq (.rg [.fa 5 T1 2 0 0,.ld 6 T5 kI,.bi 7 .eql T6 (.i 4)]) (.cd T7 (.sq (.rg [.fa 8 T1 2 1 1,.ld 9 T8 kS,.cv (some 10) 173 [(T9,.v kS)],.bi 11 .eql T10 (.i 0)]) (.cd T11 (.sq (.rg [.mv 2 (.b false)]) .rt) .skip)) (.sq (.dr [] [.fa 12 T1 2 0 0,.ld 13 T12 kI,.cv (some 14) 174 [(T13,.v kI)],.fa 15 T1 2 1 1,.ld 16 T15 kS] [.cv (some 17) 72 [(T16,.v kS)],.be 18 true T14 T17,.mv 19 T18,.g 19 false (.fa 20 T1 2 0 0),.g 19 false (.ld 21 T20 kI),.g 19 false (.cv (some 22) 174 [(T21,.v kI)]),.g 19 false (.un 23 .not T22),.g 19 false (.mv 24 T23),.g 24 true (.fa 25 T1 2 1 1),.g 24 true (.ld 26 T25 kS),.g 24 true (.bi 27 .neq T26 (.s [])),.g 19 false (.pk 28 T24 T27 (.b false)),.pk 29 T19 (.b true) T28]) w15_ZbQ))) w20_ZbQ)
noncomputable abbrev T_ZbQ(nf:Nat):XT:=[e_Zbk nf,e_ZbS nf,e_Zbf nf,e_Zbi nf,e_ZbL nf,e_ZbB nf]
noncomputable def m_ZbQ(nf:Nat)(e:Tm):Option (Bool):=runF (T_ZbQ nf) nf [.v (kR 2)] [.t 2 (.v .bool)] ir_ZbQ (e,())
noncomputable def X_ZbQ{R:Type}(nf:Nat):C->Env->(Xt->Env->Option R)->Option R:=xc (R:=R) (T_ZbQ nf).S nf
noncomputable def j15_ZbQ(nf:Nat)(e:Tm)(x29_15:Bool):Option (Bool):=X_ZbQ nf c15_ZbQ ⟨[(1,.pt [1] 0),(29,.v .bool x29_15)],[([1],.box [.v kI e.kind,.v kS e.name,.v kI e.n,.v kI e.type.kind,.v (kL kS) e.type.labels,.v (kL (kR 0)) e.type.args,.v (kL kS) e.labels,.v (kL (kR 2)) e.args])]⟩ (qS (X_ZbQ nf w20_ZbQ) (KF [.t 2 (.v .bool)]))
noncomputable def j25_ZbQ(nf:Nat)(e:Tm)(x66_25:Bool):Option (Bool):=X_ZbQ nf c25_ZbQ ⟨[(1,.pt [1] 0),(66,.v .bool x66_25)],[([1],.box [.v kI e.kind,.v kS e.name,.v kI e.n,.v kI e.type.kind,.v (kL kS) e.type.labels,.v (kL (kR 0)) e.type.args,.v (kL kS) e.labels,.v (kL (kR 2)) e.args])]⟩ (qS (X_ZbQ nf c30_ZbQ) (KF [.t 2 (.v .bool)]))
noncomputable def j33_ZbQ(nf:Nat)(e:Tm)(x86_33:Bool):Option (Bool):=X_ZbQ nf c33_ZbQ ⟨[(1,.pt [1] 0),(86,.v .bool x86_33)],[([1],.box [.v kI e.kind,.v kS e.name,.v kI e.n,.v kI e.type.kind,.v (kL kS) e.type.labels,.v (kL (kR 0)) e.type.args,.v (kL kS) e.labels,.v (kL (kR 2)) e.args])]⟩ (qS (X_ZbQ nf c38_ZbQ) (KF [.t 2 (.v .bool)]))
noncomputable def j53_ZbQ(nf:Nat)(e:Tm)(x4_53:Int):Option (Bool):=X_ZbQ nf c53_ZbQ ⟨[(1,.pt [1] 0),(4,.v kI x4_53)],[([1],.box [.v kI e.kind,.v kS e.name,.v kI e.n,.v kI e.type.kind,.v (kL kS) e.type.labels,.v (kL (kR 0)) e.type.args,.v (kL kS) e.labels,.v (kL (kR 2)) e.args])]⟩ (KF [.t 2 (.v .bool)])
noncomputable def j22_ZbQ(nf:Nat)(e:Tm)(x3_22:Bool):Option (Bool):=X_ZbQ nf c22_ZbQ ⟨[(1,.pt [1] 0),(3,.v .bool x3_22)],[([1],.box [.v kI e.kind,.v kS e.name,.v kI e.n,.v kI e.type.kind,.v (kL kS) e.type.labels,.v (kL (kR 0)) e.type.args,.v (kL kS) e.labels,.v (kL (kR 2)) e.args])]⟩ (KF [.t 2 (.v .bool)])
noncomputable def j20_ZbQ(nf:Nat)(e:Tm):Option (Bool):=X_ZbQ nf c20_ZbQ ⟨[(1,.pt [1] 0)],[([1],.box [.v kI e.kind,.v kS e.name,.v kI e.n,.v kI e.type.kind,.v (kL kS) e.type.labels,.v (kL (kR 0)) e.type.args,.v (kL kS) e.labels,.v (kL (kR 2)) e.args])]⟩ (KF [.t 2 (.v .bool)])
theorem j15_ZbQ_eq(nf:Nat)(e:Tm)(x29_15:Bool):j15_ZbQ nf e x29_15=(br x29_15 (some false) (mark (j20_ZbQ nf e))):=by
 unfold j15_ZbQ j20_ZbQ c15_ZbQ w20_ZbQ
 generalize c20_ZbQ=x0
 revert x0
 refine id ?_
 intro x0
 kernel_rfl
theorem j25_ZbQ_eq(nf:Nat)(e:Tm)(x66_25:Bool):j25_ZbQ nf e x66_25=(br x66_25 (some false) (br ((e.kind==(5:Int))==true) (cb (m_ZbL nf e.labels) fun r73=>br ((!r73)==false) (br ((!(e.kind==(5:Int)))==true) (mark (j33_ZbQ nf e (decide ((0:Int)<(List.length e.labels:Int))))) (mark (j33_ZbQ nf e false))) (mark (j33_ZbQ nf e true))) (br ((!(e.kind==(5:Int)))==true) (mark (j33_ZbQ nf e (decide ((0:Int)<(List.length e.labels:Int))))) (mark (j33_ZbQ nf e false))))):=by
 unfold j25_ZbQ j33_ZbQ c25_ZbQ c30_ZbQ w33_ZbQ c38_ZbQ w53_ZbQ
 generalize c33_ZbQ=x0
 generalize c53_ZbQ=x1
 revert x0 x1
 refine id ?_
 intro x0 x1
 kernel_rfl
theorem j33_ZbQ_eq(nf:Nat)(e:Tm)(x86_33:Bool):j33_ZbQ nf e x86_33=(br x86_33 (some false) (br (e.kind==(2:Int)) (mark (j53_ZbQ nf e (999:Int))) (br (e.kind==(3:Int)) (mark (j53_ZbQ nf e (1:Int))) (mark (j53_ZbQ nf e (0:Int)))))):=by
 unfold j33_ZbQ j53_ZbQ c33_ZbQ c38_ZbQ w53_ZbQ
 generalize c53_ZbQ=x0
 revert x0
 refine id ?_
 intro x0
 kernel_rfl
theorem j53_ZbQ_eq(nf:Nat)(e:Tm)(x4_53:Int):j53_ZbQ nf e x4_53=(cb (m_ZbB nf e.n (0:Int) x4_53) fun r96=>some r96):=by kernel_rfl
theorem j22_ZbQ_eq(nf:Nat)(e:Tm)(x3_22:Bool):j22_ZbQ nf e x3_22=(cb (m_Zbi nf (Ty.h e.type)) fun r41=>br ((!(x3_22==r41))==false) (br ((!x3_22)==true) (br ((!(e.type.kind==(0:Int)))==false) (br ((decide ((0:Int)<(List.length e.type.labels:Int)))==false) (mark (j25_ZbQ nf e (decide ((0:Int)<(List.length e.type.args:Int))))) (mark (j25_ZbQ nf e true))) (mark (j25_ZbQ nf e true))) (mark (j25_ZbQ nf e false))) (mark (j25_ZbQ nf e true))):=by
 unfold j22_ZbQ j25_ZbQ c22_ZbQ w25_ZbQ c30_ZbQ w33_ZbQ c38_ZbQ w53_ZbQ
 generalize c25_ZbQ=x0
 generalize c33_ZbQ=x1
 generalize c53_ZbQ=x2
 revert x0 x1 x2
 refine id ?_
 intro x0 x1 x2
 kernel_rfl
theorem j20_ZbQ_eq(nf:Nat)(e:Tm):j20_ZbQ nf e=(br ((e.kind==(7:Int))==false) (mark (j22_ZbQ nf e (e.kind==(13:Int)))) (mark (j22_ZbQ nf e true))):=by
 unfold j20_ZbQ j22_ZbQ c20_ZbQ w22_ZbQ
 generalize c22_ZbQ=x0
 revert x0
 refine id ?_
 intro x0
 kernel_rfl
theorem m_ZbQ_eq(nf:Nat)(e:Tm):m_ZbQ nf e=(br (e.kind==(4:Int)) (cb (m_Zbk nf e.name) fun r10=>br (r10==(0:Int)) (some false) (mark (j20_ZbQ nf e))) (cb (m_ZbS nf e.kind) fun r14=>cb (m_Zbf nf e.name) fun r17=>br ((!(r14==r17))==false) (cb (m_ZbS nf e.kind) fun r22=>br ((!r22)==true) (mark (j15_ZbQ nf e (!(e.name==([]:Str))))) (mark (j15_ZbQ nf e false))) (mark (j15_ZbQ nf e true)))):=by
 unfold m_ZbQ j20_ZbQ j15_ZbQ ir_ZbQ w15_ZbQ w20_ZbQ
 generalize c15_ZbQ=x0
 generalize c20_ZbQ=x1
 revert x0 x1
 refine id ?_
 intro x0 x1
 kernel_rfl
noncomputable def e_ZbQ(nf:Nat):XE:=eF 158 [.v (kR 2)] [.v .bool] (fun t=>m_ZbQ nf t.1)
theorem o_ZbQ(nf:Nat):conOK Tryz.prog 158 (e_ZbQ nf).con:=by
 have ih:XT.ok Tryz.prog (T_ZbQ nf):=by exact⟨o_Zbk nf,o_ZbS nf,o_Zbf nf,o_Zbi nf,o_ZbL nf,o_ZbB nf,trivial⟩
 refine eF_ok fun t x h=> ?_
 obtain⟨e,_⟩:=t
 exact runF_ok (N:=97) ih Tryz.func158 (by kernel_rfl) rfl h
def c83_ZbP:C:=.sq (.rg [.mv 2 (.i (-1))]) .rt
def c72_ZbP:C:=.cd T27 (.sq (.rg [.mv 2 (.i 2)]) .rt) (.sq (.rg [.bi 32 .eql T4 (.i 11),.mv 31 T32]) (.cd T31 (.sq (.rg [.mv 2 (.i 3)]) .rt) .skip))
def w72_ZbP:C:=.kp [4,27] [] c72_ZbP
def c58_ZbP:C:=.cd T21 (.sq (.rg [.mv 2 (.i 1)]) .rt) (.sq (.sq (.rg [.bi 28 .eql T4 (.i 9),.mv 27 T28]) (.cd T27 .skip (.sq (.rg [.bi 29 .eql T4 (.i 10),.mv 27 T29]) (.cd T27 .skip (.rg [.bi 30 .eql T4 (.i 14),.mv 27 T30]))))) w72_ZbP)
def w58_ZbP:C:=.kp [4,21] [] c58_ZbP
def c24_ZbP:C:=.cd T5 (.sq (.rg [.mv 2 (.i 0)]) .rt) (.sq (.rg [.bi 12 .eql T4 (.i 4),.mv 11 T12]) (.cd T11 (.sq (.rg [.fa 13 T1 2 1 1,.ld 14 T13 kS,.cv (some 15) 173 [(T14,.v kS)],.mv 2 T15]) .rt) (.sq (.rg [.bi 17 .eql T4 (.i 5),.mv 16 T17]) (.cd T16 (.sq (.rg [.fa 18 T1 2 4 6,.ld 19 T18 (kL kS),.ln 20 false T19,.mv 2 T20]) .rt) (.sq (.sq (.rg [.bi 22 .eql T4 (.i 6),.mv 21 T22]) (.cd T21 .skip (.sq (.rg [.bi 23 .eql T4 (.i 8),.mv 21 T23]) (.cd T21 .skip (.sq (.rg [.bi 24 .eql T4 (.i 13),.mv 21 T24]) (.cd T21 .skip (.sq (.rg [.bi 25 .eql T4 (.i 15),.mv 21 T25]) (.cd T21 .skip (.rg [.bi 26 .eql T4 (.i 16),.mv 21 T26]))))))))) w58_ZbP)))))
def w24_ZbP:C:=.kp [1,4,5] [[1]] c24_ZbP
def ir_ZbP:C:=.sq (.rg [.bx 1 T0 (kR 2),.mv 2 (.i 0)]) (.sq (.sq (.rg [.fa 3 T1 2 0 0,.ld 4 T3 kI]) (.bk 0 (.sq (.sq (.rg [.bi 6 .eql T4 (.i 1),.mv 5 T6]) (.cd T5 .skip (.sq (.rg [.bi 7 .eql T4 (.i 2),.mv 5 T7]) (.cd T5 .skip (.sq (.rg [.bi 8 .eql T4 (.i 3),.mv 5 T8]) (.cd T5 .skip (.sq (.rg [.bi 9 .eql T4 (.i 7),.mv 5 T9]) (.cd T5 .skip (.rg [.bi 10 .eql T4 (.i 12),.mv 5 T10]))))))))) w24_ZbP))) c83_ZbP)
noncomputable abbrev T_ZbP(nf:Nat):XT:=[e_Zbk nf]
noncomputable def m_ZbP(nf:Nat)(e:Tm):Option (Int):=runF (T_ZbP nf) nf [.v (kR 2)] [.t 2 (.v kI)] ir_ZbP (e,())
noncomputable def X_ZbP{R:Type}(nf:Nat):C->Env->(Xt->Env->Option R)->Option R:=xc (R:=R) (T_ZbP nf).S nf
noncomputable def j72_ZbP(nf:Nat)(e:Tm)(x27_72:Bool):Option (Int):=X_ZbP nf c72_ZbP ⟨[(4,.v kI e.kind),(27,.v .bool x27_72)],[]⟩ (qB 0 (qS (X_ZbP nf c83_ZbP) (KF [.t 2 (.v kI)])))
noncomputable def j58_ZbP(nf:Nat)(e:Tm)(x21_58:Bool):Option (Int):=X_ZbP nf c58_ZbP ⟨[(4,.v kI e.kind),(21,.v .bool x21_58)],[]⟩ (qB 0 (qS (X_ZbP nf c83_ZbP) (KF [.t 2 (.v kI)])))
noncomputable def j24_ZbP(nf:Nat)(e:Tm)(x5_24:Bool):Option (Int):=X_ZbP nf c24_ZbP ⟨[(1,.pt [1] 0),(4,.v kI e.kind),(5,.v .bool x5_24)],[([1],.box [.v kI e.kind,.v kS e.name,.v kI e.n,.v kI e.type.kind,.v (kL kS) e.type.labels,.v (kL (kR 0)) e.type.args,.v (kL kS) e.labels,.v (kL (kR 2)) e.args])]⟩ (qB 0 (qS (X_ZbP nf c83_ZbP) (KF [.t 2 (.v kI)])))
theorem j72_ZbP_eq(nf:Nat)(e:Tm)(x27_72:Bool):j72_ZbP nf e x27_72=(br x27_72 (some (2:Int)) (br (e.kind==(11:Int)) (some (3:Int)) (some (-1:Int)))):=by kernel_rfl
theorem j58_ZbP_eq(nf:Nat)(e:Tm)(x21_58:Bool):j58_ZbP nf e x21_58=(br x21_58 (some (1:Int)) (br (e.kind==(9:Int)) (mark (j72_ZbP nf e (e.kind==(9:Int)))) (br (e.kind==(10:Int)) (mark (j72_ZbP nf e (e.kind==(10:Int)))) (mark (j72_ZbP nf e (e.kind==(14:Int))))))):=by
 unfold j58_ZbP j72_ZbP c58_ZbP c83_ZbP w72_ZbP
 generalize c72_ZbP=x0
 revert x0
 refine id ?_
 intro x0
 kernel_rfl
theorem j24_ZbP_eq(nf:Nat)(e:Tm)(x5_24:Bool):j24_ZbP nf e x5_24=(br x5_24 (some (0:Int)) (br (e.kind==(4:Int)) (cb (m_Zbk nf e.name) fun r15=>some r15) (br (e.kind==(5:Int)) (some (List.length e.labels:Int)) (br (e.kind==(6:Int)) (mark (j58_ZbP nf e (e.kind==(6:Int)))) (br (e.kind==(8:Int)) (mark (j58_ZbP nf e (e.kind==(8:Int)))) (br (e.kind==(13:Int)) (mark (j58_ZbP nf e (e.kind==(13:Int)))) (br (e.kind==(15:Int)) (mark (j58_ZbP nf e (e.kind==(15:Int)))) (mark (j58_ZbP nf e (e.kind==(16:Int))))))))))):=by
 unfold j24_ZbP j58_ZbP c24_ZbP c83_ZbP w58_ZbP
 generalize c58_ZbP=x0
 revert x0
 refine id ?_
 intro x0
 kernel_rfl
theorem m_ZbP_eq(nf:Nat)(e:Tm):m_ZbP nf e=(br (e.kind==(1:Int)) (mark (j24_ZbP nf e (e.kind==(1:Int)))) (br (e.kind==(2:Int)) (mark (j24_ZbP nf e (e.kind==(2:Int)))) (br (e.kind==(3:Int)) (mark (j24_ZbP nf e (e.kind==(3:Int)))) (br (e.kind==(7:Int)) (mark (j24_ZbP nf e (e.kind==(7:Int)))) (mark (j24_ZbP nf e (e.kind==(12:Int)))))))):=by
 unfold m_ZbP j24_ZbP ir_ZbP w24_ZbP c83_ZbP
 generalize c24_ZbP=x0
 revert x0
 refine id ?_
 intro x0
 kernel_rfl
noncomputable def e_ZbP(nf:Nat):XE:=eF 159 [.v (kR 2)] [.v kI] (fun t=>m_ZbP nf t.1)
theorem o_ZbP(nf:Nat):conOK Tryz.prog 159 (e_ZbP nf).con:=by
 have ih:XT.ok Tryz.prog (T_ZbP nf):=by exact⟨o_Zbk nf,trivial⟩
 refine eF_ok fun t x h=> ?_
 obtain⟨e,_⟩:=t
 exact runF_ok (N:=33) ih Tryz.func159 (by kernel_rfl) rfl h
def c23_ZbR:C:=.sq (.dr [] [.ld 18 T1 (kR 2),.cv (some 19) 158 [(T18,.v (kR 2))],.mv 20 T19,.g 20 true (.fa 21 T1 2 5 7),.g 20 true (.ld 22 T21 (kL (kR 2))),.g 20 true (.ln 23 false T22),.g 20 true (.ld 24 T1 (kR 2)),.g 20 true (.cv (some 25) 159 [(T24,.v (kR 2))])] [.g 20 true (.bi 26 .eql T23 T25),.pk 27 T20 T26 (.b false),.mv 2 T27]) .rt
def w23_ZbR:C:=.kp [1] [[1]] c23_ZbR
def c7_ZbR:C:=.sq (.sq (.rg [.mv 4 T3,.fa 5 T1 2 5 7,.ld 6 T5 (kL (kR 2)),.ln 7 false T6,.bi 8 .lss T4 T7]) (.cd T8 .skip (.ex 0))) (.sq (.bk 1 (.sq (.rg [.fa 11 T1 2 5 7,.ld 12 T11 (kL (kR 2)),.mv 13 T3,.ia 14 T12 T13 (kR 2),.ld 15 T14 (kR 2),.cv (some 16) 132 [(T15,.v (kR 2))],.un 17 .not T16]) (.cd T17 (.sq (.rg [.mv 2 (.b false)]) .rt) .skip))) (.rg [.mv 9 T3,.bi 10 .add T9 (.i 1),.mv 3 T10]))
def ir_ZbR:C:=.sq (.rg [.bx 1 T0 (kR 2),.mv 2 (.b false)]) (.sq (.sq (.rg [.mv 3 (.i 0)]) (.bk 0 (.lk [1,3] [[1]] c7_ZbR))) w23_ZbR)
noncomputable def B_ZbR(nf:Nat):XT:=[e_ZbQ nf,e_ZbP nf]
noncomputable def G_ZbR(nf:Nat):Nat->XT
 |0=>[]
 |kf+1=>[eF 132 [.v (kR 2)] [.v .bool] (fun t=>(fun(e:Tm)=>runF (G_ZbR nf kf++B_ZbR nf) nf [.v (kR 2)] [.t 2 (.v .bool)] ir_ZbR (e,())) t.1)]
noncomputable abbrev T_ZbR(nf kf:Nat):XT:=G_ZbR nf kf++B_ZbR nf
noncomputable def m_ZbR(nf kf:Nat)(e:Tm):Option (Bool):=runF (T_ZbR nf kf) nf [.v (kR 2)] [.t 2 (.v .bool)] ir_ZbR (e,())
noncomputable def X_ZbR{R:Type}(nf kf:Nat):C->Env->(Xt->Env->Option R)->Option R:=xc (R:=R) (T_ZbR nf kf).S nf
noncomputable def l6_ZbR(nf kf:Nat)(m6:Nat)(e:Tm)(x3_6:Int):Option (Bool):=xit [1,3] [[1]] (X_ZbR nf kf c7_ZbR) (qB 0 (qS (X_ZbR nf kf w23_ZbR) (KF [.t 2 (.v .bool)]))) m6 ⟨[(1,.pt [1] 0),(3,.v kI x3_6)],[([1],.box [.v kI e.kind,.v kS e.name,.v kI e.n,.v kI e.type.kind,.v (kL kS) e.type.labels,.v (kL (kR 0)) e.type.args,.v (kL kS) e.labels,.v (kL (kR 2)) e.args])]⟩
noncomputable def j23_ZbR(nf kf:Nat)(e:Tm):Option (Bool):=X_ZbR nf kf c23_ZbR ⟨[(1,.pt [1] 0)],[([1],.box [.v kI e.kind,.v kS e.name,.v kI e.n,.v kI e.type.kind,.v (kL kS) e.type.labels,.v (kL (kR 0)) e.type.args,.v (kL kS) e.labels,.v (kL (kR 2)) e.args])]⟩ (KF [.t 2 (.v .bool)])
theorem l6_ZbR_eq(nf kf:Nat)(m6:Nat)(e:Tm)(x3_6:Int):l6_ZbR nf (kf+1) (m6+1) e x3_6=(br (decide (x3_6<(List.length e.args:Int))) (gg (0<=x3_6∧x3_6<(List.length e.args:Int))<|cb (m_ZbR nf kf (gt e.args x3_6 Tm.zero)) fun r16=>br (!r16) (some false) (mark (l6_ZbR nf (kf+1) m6 e (w64 (x3_6+(1:Int)))))) (mark (j23_ZbR nf (kf+1) e))):=by
 unfold l6_ZbR j23_ZbR c7_ZbR w23_ZbR
 generalize c23_ZbR=x0
 revert x0
 refine id ?_
 intro x0
 kernel_rfl
theorem j23_ZbR_eq(nf kf:Nat)(e:Tm):j23_ZbR nf (kf+1) e=(cb (m_ZbQ nf (Tm.h e)) fun r19=>br (r19==true) (cb (m_ZbP nf (Tm.h e)) fun r25=>some ((List.length e.args:Int)==r25)) (some false)):=by kernel_rfl
theorem m_ZbR_eq(nf kf:Nat)(e:Tm):m_ZbR nf (kf+1) e=(mark (l6_ZbR nf (kf+1) nf e (0:Int))):=by
 unfold m_ZbR l6_ZbR ir_ZbR w23_ZbR
 generalize c23_ZbR=x0
 revert x0
 refine id ?_
 intro x0
 kernel_rfl
noncomputable def e_ZbR(nf:Nat):XE:=eF 132 [.v (kR 2)] [.v .bool] (fun t=>m_ZbR nf nf t.1)
theorem gok_ZbR(nf:Nat):∀kf:Nat,XT.ok Tryz.prog (G_ZbR nf kf++B_ZbR nf)
 |0=>by exact⟨o_ZbQ nf,o_ZbP nf,trivial⟩
 |kf+1=>by
  have ih:=gok_ZbR nf kf
  refine⟨?_,(by exact⟨o_ZbQ nf,o_ZbP nf,trivial⟩)⟩
  ·refine eF_ok fun t x h=> ?_
   obtain⟨e,_⟩:=t
   exact runF_ok (N:=28) ih Tryz.func132 (by kernel_rfl) rfl h
theorem o_ZbR(nf:Nat):conOK Tryz.prog 132 (e_ZbR nf).con:=by
 have ih:=gok_ZbR nf nf
 refine eF_ok fun t x h=> ?_
 obtain⟨e,_⟩:=t
 exact runF_ok (N:=28) ih Tryz.func132 (by kernel_rfl) rfl h
def ir_Zbu:C:=.sq (.rg [.bx 5 T2 (kR 0),.mv 6 (.nl (kR 8))]) (.sq (.rg [.bs 8 false (kR 8) [],.mv 9 T0,.an 10 false (kR 8) T8 T9,.mv 7 T10]) (.sq (.rg [.mv 11 T7,.mv 12 T1,.ld 13 T5 (kR 0),.bd 14 8 [(0,1,T12),(1,3,T13)],.bs 15 false (kR 8) [T14],.ap 16 [6] false (kR 8) T11 T15,.mv 6 T16]) .rt))
noncomputable abbrev T_Zbu(nf:Nat):XT:=[]
noncomputable def m_Zbu(nf:Nat)(ctx:List Typing)(name:Str)(t:Ty):Option (List Typing):=runF (T_Zbu nf) nf [.v (kL (kR 8)),.v kS,.v (kR 0)] [.t 6 (.v (kL (kR 8)))] ir_Zbu (ctx,name,t,())
theorem m_Zbu_eq(nf:Nat)(ctx:List Typing)(name:Str)(t:Ty):m_Zbu nf ctx name t=(gg (List.length ctx<=33554432)<|gg (List.length ctx+List.length ([(Typing.mk name (Ty.h t))]:List Typing)<=33554432)<|some (ctx++([(Typing.mk name (Ty.h t))]:List Typing))):=by kernel_rfl
noncomputable def e_Zbu(nf:Nat):XE:=eF 73 [.v (kL (kR 8)),.v kS,.v (kR 0)] [.v (kL (kR 8))] (fun t=>m_Zbu nf t.1 t.2.1 t.2.2.1)
theorem o_Zbu(nf:Nat):conOK Tryz.prog 73 (e_Zbu nf).con:=by
 have ih:XT.ok Tryz.prog (T_Zbu nf):=by exact trivial
 refine eF_ok fun t x h=> ?_
 obtain⟨ctx,name,t,_⟩:=t
 exact runF_ok (N:=17) ih Tryz.func73 (by kernel_rfl) rfl h
def ir_ZbK:C:=.sq (.rg [.al 0 (kR 0)]) (.sq (.rg [.bd 1 0 [(0,1,(.i 1))],.st T0 T1 (kR 0)]) .rt)
noncomputable abbrev T_ZbK(nf:Nat):XT:=[]
noncomputable def m_ZbK(nf:Nat):Option (Ty):=runF (T_ZbK nf) nf [] [.c 0 (.v (kR 0))] ir_ZbK (())
theorem m_ZbK_eq(nf:Nat):m_ZbK nf=(some (Ty.mk (1:Int) ([]:List Str) ([]:List Ty))):=by kernel_rfl
noncomputable def e_ZbK(nf:Nat):XE:=eF 115 [] [.v (kR 0)] (fun t=>m_ZbK nf)
theorem o_ZbK(nf:Nat):conOK Tryz.prog 115 (e_ZbK nf).con:=by
 have ih:XT.ok Tryz.prog (T_ZbK nf):=by exact trivial
 refine eF_ok fun t x h=> ?_
 exact runF_ok (N:=2) ih Tryz.func115 (by kernel_rfl) rfl h
def ir_ZbF:C:=.sq (.rg [.al 0 (kR 0)]) (.sq (.rg [.bd 1 0 [(0,1,(.i 2))],.st T0 T1 (kR 0)]) .rt)
noncomputable abbrev T_ZbF(nf:Nat):XT:=[]
noncomputable def m_ZbF(nf:Nat):Option (Ty):=runF (T_ZbF nf) nf [] [.c 0 (.v (kR 0))] ir_ZbF (())
theorem m_ZbF_eq(nf:Nat):m_ZbF nf=(some (Ty.mk (2:Int) ([]:List Str) ([]:List Ty))):=by kernel_rfl
noncomputable def e_ZbF(nf:Nat):XE:=eF 94 [] [.v (kR 0)] (fun t=>m_ZbF nf)
theorem o_ZbF(nf:Nat):conOK Tryz.prog 94 (e_ZbF nf).con:=by
 have ih:XT.ok Tryz.prog (T_ZbF nf):=by exact trivial
 refine eF_ok fun t x h=> ?_
 exact runF_ok (N:=2) ih Tryz.func94 (by kernel_rfl) rfl h
def ir_ZbI:C:=.sq (.rg [.bx 2 T0 (kR 0),.bx 3 T1 (kR 0),.al 4 (kR 0)]) (.sq (.dr [] [.ld 5 T2 (kR 0),.cv (some 6) 89 [(T5,.v (kR 0))],.ld 7 T3 (kR 0)] [.cv (some 8) 89 [(T7,.v (kR 0))],.bs 9 false (kR 0) [T6,T8],.bd 10 0 [(0,1,(.i 5)),(2,1,T9)],.st T4 T10 (kR 0)]) .rt)
noncomputable abbrev T_ZbI(nf:Nat):XT:=[e_ZbG nf]
noncomputable def m_ZbI(nf:Nat)(a:Ty)(b:Ty):Option (Ty):=runF (T_ZbI nf) nf [.v (kR 0),.v (kR 0)] [.c 4 (.v (kR 0))] ir_ZbI (a,b,())
theorem m_ZbI_eq(nf:Nat)(a:Ty)(b:Ty):m_ZbI nf a b=(cb (m_ZbG nf nf (Ty.h a)) fun r6=>cb (m_ZbG nf nf (Ty.h b)) fun r8=>some (Ty.mk (5:Int) ([]:List Str) ([r6,r8]:List Ty))):=by kernel_rfl
noncomputable def e_ZbI(nf:Nat):XE:=eF 187 [.v (kR 0),.v (kR 0)] [.v (kR 0)] (fun t=>m_ZbI nf t.1 t.2.1)
theorem o_ZbI(nf:Nat):conOK Tryz.prog 187 (e_ZbI nf).con:=by
 have ih:XT.ok Tryz.prog (T_ZbI nf):=by exact⟨o_ZbG nf,trivial⟩
 refine eF_ok fun t x h=> ?_
 obtain⟨a,b,_⟩:=t
 exact runF_ok (N:=11) ih Tryz.func187 (by kernel_rfl) rfl h
def ir_ZbD:C:=.sq (.rg [.bx 1 T0 (kR 0),.al 2 (kR 0)]) (.sq (.rg [.ld 3 T1 (kR 0),.cv (some 4) 89 [(T3,.v (kR 0))],.bs 5 false (kR 0) [T4],.bd 6 0 [(0,1,(.i 4)),(2,1,T5)],.st T2 T6 (kR 0)]) .rt)
noncomputable abbrev T_ZbD(nf:Nat):XT:=[e_ZbG nf]
noncomputable def m_ZbD(nf:Nat)(t:Ty):Option (Ty):=runF (T_ZbD nf) nf [.v (kR 0)] [.c 2 (.v (kR 0))] ir_ZbD (t,())
theorem m_ZbD_eq(nf:Nat)(t:Ty):m_ZbD nf t=(cb (m_ZbG nf nf (Ty.h t)) fun r4=>some (Ty.mk (4:Int) ([]:List Str) ([r4]:List Ty))):=by kernel_rfl
noncomputable def e_ZbD(nf:Nat):XE:=eF 188 [.v (kR 0)] [.v (kR 0)] (fun t=>m_ZbD nf t.1)
theorem o_ZbD(nf:Nat):conOK Tryz.prog 188 (e_ZbD nf).con:=by
 have ih:XT.ok Tryz.prog (T_ZbD nf):=by exact⟨o_ZbG nf,trivial⟩
 refine eF_ok fun t x h=> ?_
 obtain⟨t,_⟩:=t
 exact runF_ok (N:=7) ih Tryz.func188 (by kernel_rfl) rfl h
def c19_ZbN:C:=.sq (.rg [.ld 27 T5 (kR 0),.st T4 T27 (kR 0)]) .rt
def c9_ZbN:C:=.sq (.sq (.rg [.mv 11 T6,.mv 12 T1,.ln 13 false T12,.bi 14 .lss T11 T13]) (.cd T14 .skip (.ex 0))) (.sq (.bk 1 (.dr [24] [.fa 17 T5 0 2 2,.ld 18 T17 (kL (kR 0)),.mv 19 T1,.mv 20 T6,.ia 21 T19 T20 (kR 0),.ld 22 T21 (kR 0),.cv (some 23) 89 [(T22,.v (kR 0))],.bs 24 false (kR 0) [T23]] [.ap 25 [5,2] false (kR 0) T18 T24,.fa 26 T5 0 2 2,.st T26 T25 (kL (kR 0))])) (.rg [.mv 15 T6,.bi 16 .add T15 (.i 1),.mv 6 T16]))
def ir_ZbN:C:=.sq (.rg [.al 4 (kR 0)]) (.sq (.rg [.bs 7 true kS [],.mv 8 T0,.an 9 true kS T7 T8,.bd 10 0 [(0,1,(.i 3)),(1,1,T9)],.al 5 (kR 0),.st T5 T10 (kR 0)]) (.sq (.sq (.rg [.mv 6 (.i 0)]) (.bk 0 (.gb 5 2 false (kR 0) (.lk [1,4,5,6] [[4],[5],[5,2],[9]] c9_ZbN)))) c19_ZbN))
noncomputable abbrev T_ZbN(nf:Nat):XT:=[e_ZbG nf]
noncomputable def m_ZbN(nf:Nat)(labels:List Str)(args:List Ty):Option (Ty):=runF (T_ZbN nf) nf [.v (kL kS),.v (kL (kR 0))] [.c 4 (.v (kR 0))] ir_ZbN (labels,args,())
noncomputable def X_ZbN{R:Type}(nf:Nat):C->Env->(Xt->Env->Option R)->Option R:=xc (R:=R) (T_ZbN nf).S nf
noncomputable def l8_ZbN(nf:Nat)(m8:Nat)(args:List Ty)(labels:List Str)(x6_8:Int)(y5_2_8:List Ty):Option (Ty):=xit [1,4,5,6] [[4],[5],[5,2],[9]] (X_ZbN nf c9_ZbN) (qB 0 (qS (X_ZbN nf c19_ZbN) (KF [.c 4 (.v (kR 0))]))) m8 ⟨[(1,.v (kL (kR 0)) args),(4,.pt [4] 0),(5,.pt [5] 0),(6,.v kI x6_8)],[([4],.box [.v kI (0:Int),.nl kS,.nl (kR 0)]),([5],.box [.v kI (3:Int),.sl [9],.sl [5,2]]),([5,2],.row false false (kR 0) y5_2_8),([9],.row true false kS labels)]⟩
theorem l8_ZbN_eq(nf:Nat)(m8:Nat)(args:List Ty)(labels:List Str)(x6_8:Int)(y5_2_8:List Ty):l8_ZbN nf (m8+1) args labels x6_8 y5_2_8=(br (decide (x6_8<(List.length args:Int))) (gg (0<=x6_8∧x6_8<(List.length args:Int))<|cb (m_ZbG nf nf (gt args x6_8 Ty.zero)) fun r23=>gg (List.length y5_2_8+List.length ([r23]:List Ty)<=33554432)<|mark (l8_ZbN nf m8 args labels (w64 (x6_8+(1:Int))) (y5_2_8++([r23]:List Ty)))) (some (Ty.mk (3:Int) labels y5_2_8))):=by kernel_rfl
theorem m_ZbN_eq(nf:Nat)(labels:List Str)(args:List Ty):m_ZbN nf labels args=(gg (List.length labels<=33554432)<|mark (l8_ZbN nf nf args labels (0:Int) ([]:List Ty))):=by kernel_rfl
noncomputable def e_ZbN(nf:Nat):XE:=eF 190 [.v (kL kS),.v (kL (kR 0))] [.v (kR 0)] (fun t=>m_ZbN nf t.1 t.2.1)
theorem o_ZbN(nf:Nat):conOK Tryz.prog 190 (e_ZbN nf).con:=by
 have ih:XT.ok Tryz.prog (T_ZbN nf):=by exact⟨o_ZbG nf,trivial⟩
 refine eF_ok fun t x h=> ?_
 obtain⟨labels,args,_⟩:=t
 exact runF_ok (N:=28) ih Tryz.func190 (by kernel_rfl) rfl h
def c23_Zbq:C:=.sq (.rg [.bd 27 0 [],.st T4 T27 (kR 0),.mv 5 (.b false)]) .rt
def c7_Zbq:C:=.sq (.sq (.rg [.mv 10 T6,.bi 11 .geq T10 (.i 0)]) (.cd T11 .skip (.ex 0))) (.sq (.bk 1 (.sq (.rg [.mv 14 T0,.mv 15 T6,.ia 16 T14 T15 (kR 8),.fa 17 T16 8 0 0,.ld 18 T17 kS,.mv 19 T1,.bi 20 .eql T18 T19]) (.cd T20 (.sq (.rg [.mv 21 T0,.mv 22 T6,.ia 23 T21 T22 (kR 8),.fa 24 T23 8 1 1,.ld 25 T24 (kR 0),.cv (some 26) 89 [(T25,.v (kR 0))],.st T4 T26 (kR 0),.mv 5 (.b true)]) .rt) .skip))) (.rg [.mv 12 T6,.bi 13 .sub T12 (.i 1),.mv 6 T13]))
def ir_Zbq:C:=.sq (.rg [.al 4 (kR 0),.mv 5 (.b false)]) (.sq (.sq (.rg [.mv 7 T0,.ln 8 false T7,.bi 9 .sub T8 (.i 1),.mv 6 T9]) (.bk 0 (.lk [0,1,4,6] [[4]] c7_Zbq))) c23_Zbq)
noncomputable abbrev T_Zbq(nf:Nat):XT:=[e_ZbG nf]
noncomputable def m_Zbq(nf:Nat)(ctx:List Typing)(name:Str):Option (Ty×Bool):=runF (T_Zbq nf) nf [.v (kL (kR 8)),.v kS] [.c 4 (.v (kR 0)),.t 5 (.v .bool)] ir_Zbq (ctx,name,())
noncomputable def X_Zbq{R:Type}(nf:Nat):C->Env->(Xt->Env->Option R)->Option R:=xc (R:=R) (T_Zbq nf).S nf
noncomputable def l6_Zbq(nf:Nat)(m6:Nat)(ctx:List Typing)(name:Str)(x6_6:Int):Option (Ty×Bool):=xit [0,1,4,6] [[4]] (X_Zbq nf c7_Zbq) (qB 0 (qS (X_Zbq nf c23_Zbq) (KF [.c 4 (.v (kR 0)),.t 5 (.v .bool)]))) m6 ⟨[(0,.v (kL (kR 8)) ctx),(1,.v kS name),(4,.pt [4] 0),(6,.v kI x6_6)],[([4],.box [.v kI (0:Int),.nl kS,.nl (kR 0)])]⟩
theorem l6_Zbq_eq(nf:Nat)(m6:Nat)(ctx:List Typing)(name:Str)(x6_6:Int):l6_Zbq nf (m6+1) ctx name x6_6=(br (decide ((0:Int)<=x6_6)) (gg (0<=x6_6∧x6_6<(List.length ctx:Int))<|br (((gt ctx x6_6 Typing.zero).name)==name) (gg (0<=x6_6∧x6_6<(List.length ctx:Int))<|cb (m_ZbG nf nf ((gt ctx x6_6 Typing.zero).type)) fun r26=>some ((Ty.h r26),true)) (mark (l6_Zbq nf m6 ctx name (w64 (x6_6-(1:Int)))))) (some ((Ty.mk (0:Int) ([]:List Str) ([]:List Ty)),false))):=by kernel_rfl
theorem m_Zbq_eq(nf:Nat)(ctx:List Typing)(name:Str):m_Zbq nf ctx name=(mark (l6_Zbq nf nf ctx name (w64 ((List.length ctx:Int)-(1:Int))))):=by kernel_rfl
noncomputable def e_Zbq(nf:Nat):XE:=eF 71 [.v (kL (kR 8)),.v kS] [.v (kR 0),.v .bool] (fun t=>m_Zbq nf t.1 t.2.1)
theorem o_Zbq(nf:Nat):conOK Tryz.prog 71 (e_Zbq nf).con:=by
 have ih:XT.ok Tryz.prog (T_Zbq nf):=by exact⟨o_ZbG nf,trivial⟩
 refine eF_ok fun t x h=> ?_
 obtain⟨ctx,name,_⟩:=t
 exact runF_ok (N:=28) ih Tryz.func71 (by kernel_rfl) rfl h
def c23_Zbl:C:=.sq (.rg [.bd 29 0 [],.st T4 T29 (kR 0),.mv 5 (.b false)]) .rt
def c7_Zbl:C:=.sq (.sq (.rg [.mv 7 T6,.fa 8 T2 5 0 0,.ld 9 T8 (kL (kR 4)),.ln 10 false T9,.bi 11 .lss T7 T10]) (.cd T11 .skip (.ex 0))) (.sq (.bk 1 (.sq (.rg [.fa 14 T2 5 0 0,.ld 15 T14 (kL (kR 4)),.mv 16 T6,.ia 17 T15 T16 (kR 4),.fa 18 T17 4 0 0,.ld 19 T18 kS,.mv 20 T1,.bi 21 .eql T19 T20]) (.cd T21 (.sq (.rg [.fa 22 T2 5 0 0,.ld 23 T22 (kL (kR 4)),.mv 24 T6,.ia 25 T23 T24 (kR 4),.fa 26 T25 4 1 1,.ld 27 T26 (kR 0),.cv (some 28) 89 [(T27,.v (kR 0))],.st T4 T28 (kR 0),.mv 5 (.b true)]) .rt) .skip))) (.rg [.mv 12 T6,.bi 13 .add T12 (.i 1),.mv 6 T13]))
def ir_Zbl:C:=.sq (.rg [.bx 2 T0 (kR 5),.al 4 (kR 0),.mv 5 (.b false)]) (.sq (.sq (.rg [.mv 6 (.i 0)]) (.bk 0 (.lk [1,2,4,6] [[2],[4]] c7_Zbl))) c23_Zbl)
noncomputable abbrev T_Zbl(nf:Nat):XT:=[e_ZbG nf]
noncomputable def m_Zbl(nf:Nat)(s:Schema)(name:Str):Option (Ty×Bool):=runF (T_Zbl nf) nf [.v (kR 5),.v kS] [.c 4 (.v (kR 0)),.t 5 (.v .bool)] ir_Zbl (s,name,())
noncomputable def X_Zbl{R:Type}(nf:Nat):C->Env->(Xt->Env->Option R)->Option R:=xc (R:=R) (T_Zbl nf).S nf
noncomputable def l6_Zbl(nf:Nat)(m6:Nat)(name:Str)(s:Schema)(x6_6:Int):Option (Ty×Bool):=xit [1,2,4,6] [[2],[4]] (X_Zbl nf c7_Zbl) (qB 0 (qS (X_Zbl nf c23_Zbl) (KF [.c 4 (.v (kR 0)),.t 5 (.v .bool)]))) m6 ⟨[(1,.v kS name),(2,.pt [2] 0),(4,.pt [4] 0),(6,.v kI x6_6)],[([2],.box [.v (kL (kR 4)) s.tables]),([4],.box [.v kI (0:Int),.nl kS,.nl (kR 0)])]⟩
theorem l6_Zbl_eq(nf:Nat)(m6:Nat)(name:Str)(s:Schema)(x6_6:Int):l6_Zbl nf (m6+1) name s x6_6=(br (decide (x6_6<(List.length s.tables:Int))) (gg (0<=x6_6∧x6_6<(List.length s.tables:Int))<|br (((gt s.tables x6_6 TDecl.zero).name)==name) (gg (0<=x6_6∧x6_6<(List.length s.tables:Int))<|cb (m_ZbG nf nf ((gt s.tables x6_6 TDecl.zero).row)) fun r28=>some ((Ty.h r28),true)) (mark (l6_Zbl nf m6 name s (w64 (x6_6+(1:Int)))))) (some ((Ty.mk (0:Int) ([]:List Str) ([]:List Ty)),false))):=by kernel_rfl
theorem m_Zbl_eq(nf:Nat)(s:Schema)(name:Str):m_Zbl nf s name=(mark (l6_Zbl nf nf name s (0:Int))):=by kernel_rfl
noncomputable def e_Zbl(nf:Nat):XE:=eF 70 [.v (kR 5),.v kS] [.v (kR 0),.v .bool] (fun t=>m_Zbl nf t.1 t.2.1)
theorem o_Zbl(nf:Nat):conOK Tryz.prog 70 (e_Zbl nf).con:=by
 have ih:XT.ok Tryz.prog (T_Zbl nf):=by exact⟨o_ZbG nf,trivial⟩
 refine eF_ok fun t x h=> ?_
 obtain⟨s,name,_⟩:=t
 exact runF_ok (N:=30) ih Tryz.func70 (by kernel_rfl) rfl h
def ir_Zbp:C:=.sq (.rg [.bx 3 T0 (kR 5),.bx 5 T2 (kR 2),.al 6 (kR 0),.mv 7 (.b false)]) (.sq (.sq (.rg [.fa 12 T5 2 0 0,.ld 13 T12 kI]) (.bk 0 (.sq (.rg [.bi 15 .eql T13 (.i 1),.mv 14 T15]) (.cd T14 (.sq (.rg [.mv 17 T1,.fa 18 T5 2 1 1,.ld 19 T18 kS,.ca (some 20) 71 [(T17,.v (kL (kR 8))),(T19,.v kS)],.mv 16 T20,.xt 21 T16 0,.xt 22 T16 1,.al 8 (kR 0),.st T8 T21 (kR 0),.mv 9 T22]) (.sq (.rg [.ld 23 T8 (kR 0),.mv 24 T9,.st T6 T23 (kR 0),.mv 7 T24]) .rt)) (.sq (.rg [.bi 26 .eql T13 (.i 2),.mv 25 T26]) (.cd T25 (.sq (.rg [.cv (some 27) 115 [],.st T6 T27 (kR 0),.mv 7 (.b true)]) .rt) (.sq (.rg [.bi 29 .eql T13 (.i 3),.mv 28 T29]) (.cd T28 (.sq (.rg [.cv (some 30) 94 [],.st T6 T30 (kR 0),.mv 7 (.b true)]) .rt) (.sq (.rg [.bi 32 .eql T13 (.i 7),.mv 31 T32]) (.cd T31 (.sq (.rg [.fa 33 T5 2 3 3,.ld 34 T33 (kR 0),.cv (some 35) 188 [(T34,.v (kR 0))],.st T6 T35 (kR 0),.mv 7 (.b true)]) .rt) .skip)))))))))) (.sq (.rg [.ld 37 T3 (kR 5),.fa 38 T5 2 1 1,.ld 39 T38 kS,.ca (some 40) 70 [(T37,.v (kR 5)),(T39,.v kS)],.mv 36 T40,.xt 41 T36 0,.xt 42 T36 1,.al 10 (kR 0),.st T10 T41 (kR 0),.mv 11 T42]) (.sq (.rg [.ld 43 T10 (kR 0),.cv (some 44) 188 [(T43,.v (kR 0))],.mv 45 T11,.st T6 T44 (kR 0),.mv 7 T45]) .rt)))
noncomputable abbrev T_Zbp(nf:Nat):XT:=[e_Zbq nf,e_ZbK nf,e_ZbF nf,e_ZbD nf,e_Zbl nf]
noncomputable def m_Zbp(nf:Nat)(s:Schema)(ctx:List Typing)(e:Tm):Option (Ty×Bool):=runF (T_Zbp nf) nf [.v (kR 5),.v (kL (kR 8)),.v (kR 2)] [.c 6 (.v (kR 0)),.t 7 (.v .bool)] ir_Zbp (s,ctx,e,())
theorem m_Zbp_eq(nf:Nat)(s:Schema)(ctx:List Typing)(e:Tm):m_Zbp nf s ctx e=(br (e.kind==(1:Int)) (cb (m_Zbq nf ctx e.name) fun r20=>some ((Ty.h r20.1),r20.2)) (br (e.kind==(2:Int)) (cb (m_ZbK nf) fun r27=>some ((Ty.h r27),true)) (br (e.kind==(3:Int)) (cb (m_ZbF nf) fun r30=>some ((Ty.h r30),true)) (br (e.kind==(7:Int)) (cb (m_ZbD nf (Ty.h e.type)) fun r35=>some ((Ty.h r35),true)) (cb (m_Zbl nf s e.name) fun r40=>cb (m_ZbD nf (Ty.h r40.1)) fun r44=>some ((Ty.h r44),r40.2)))))):=by kernel_rfl
noncomputable def e_Zbp(nf:Nat):XE:=eF 176 [.v (kR 5),.v (kL (kR 8)),.v (kR 2)] [.v (kR 0),.v .bool] (fun t=>m_Zbp nf t.1 t.2.1 t.2.2.1)
theorem o_Zbp(nf:Nat):conOK Tryz.prog 176 (e_Zbp nf).con:=by
 have ih:XT.ok Tryz.prog (T_Zbp nf):=by exact⟨o_Zbq nf,o_ZbK nf,o_ZbF nf,o_ZbD nf,o_Zbl nf,trivial⟩
 refine eF_ok fun t x h=> ?_
 obtain⟨s,ctx,e,_⟩:=t
 exact runF_ok (N:=46) ih Tryz.func176 (by kernel_rfl) rfl h
def c39_Zbr:C:=.sq (.rg [.cv (some 39) 94 [],.st T4 T39 (kR 0),.mv 5 (.b true)]) .rt
def c34_Zbr:C:=.cd T37 (.sq (.rg [.cv (some 38) 115 [],.st T4 T38 (kR 0),.mv 5 (.b true)]) .rt) .skip
def w34_Zbr:C:=.kp [4,37] [[4]] c34_Zbr
def c31_Zbr:C:=.sq (.sq (.rg [.mv 32 T0,.bi 33 .eql T32 (.s [43]),.mv 34 T33,.g 34 false (.mv 35 T0),.g 34 false (.bi 36 .eql T35 (.s [45])),.pk 37 T34 (.b true) T36]) w34_Zbr) c39_Zbr
def w31_Zbr:C:=.kp [0,4] [[4]] c31_Zbr
def c15_Zbr:C:=.sq (.sq (.rg [.mv 18 T7,.mv 19 T1,.ln 20 false T19,.bi 21 .lss T18 T20]) (.cd T21 .skip (.ex 0))) (.sq (.bk 1 (.sq (.rg [.mv 24 T1,.mv 25 T7,.ia 26 T24 T25 (kR 0),.fa 27 T26 0 0 0,.ld 28 T27 kI,.mv 29 T6,.bi 30 .neq T28 T29]) (.cd T30 (.sq (.rg [.bd 31 0 [],.st T4 T31 (kR 0),.mv 5 (.b false)]) .rt) .skip))) (.rg [.mv 22 T7,.bi 23 .add T22 (.i 1),.mv 7 T23]))
def c10_Zbr:C:=.sq (.sq (.rg [.mv 7 (.i 0)]) (.bk 0 (.lk [0,1,4,6,7] [[4]] c15_Zbr))) w31_Zbr
def w10_Zbr:C:=.kp [0,1,4,6] [[4]] c10_Zbr
def c7_Zbr:C:=.cd T17 (.rg [.mv 6 (.i 2)]) .skip
def w7_Zbr:C:=.kp [0,1,4,6,17] [[4]] c7_Zbr
def ir_Zbr:C:=.sq (.rg [.al 4 (kR 0),.mv 5 (.b false)]) (.sq (.rg [.mv 6 (.i 1)]) (.sq (.sq (.rg [.mv 8 T0,.bi 9 .eql T8 (.s [38]),.mv 10 T9,.g 10 false (.mv 11 T0),.g 10 false (.bi 12 .eql T11 (.s [124])),.pk 13 T10 (.b true) T12,.mv 14 T13,.g 14 false (.mv 15 T0),.g 14 false (.bi 16 .eql T15 (.s [33])),.pk 17 T14 (.b true) T16]) w7_Zbr) w10_Zbr))
noncomputable abbrev T_Zbr(nf:Nat):XT:=[e_ZbK nf,e_ZbF nf]
noncomputable def m_Zbr(nf:Nat)(op:Str)(args:List Ty):Option (Ty×Bool):=runF (T_Zbr nf) nf [.v kS,.v (kL (kR 0))] [.c 4 (.v (kR 0)),.t 5 (.v .bool)] ir_Zbr (op,args,())
noncomputable def X_Zbr{R:Type}(nf:Nat):C->Env->(Xt->Env->Option R)->Option R:=xc (R:=R) (T_Zbr nf).S nf
noncomputable def j7_Zbr(nf:Nat)(op:Str)(args:List Ty)(x17_7:Bool):Option (Ty×Bool):=X_Zbr nf c7_Zbr ⟨[(0,.v kS op),(1,.v (kL (kR 0)) args),(4,.pt [4] 0),(6,.v kI (1:Int)),(17,.v .bool x17_7)],[([4],.box [.v kI (0:Int),.nl kS,.nl (kR 0)])]⟩ (qS (X_Zbr nf w10_Zbr) (KF [.c 4 (.v (kR 0)),.t 5 (.v .bool)]))
noncomputable def l14_Zbr(nf:Nat)(m14:Nat)(op:Str)(args:List Ty)(x6_10:Int)(x7_14:Int):Option (Ty×Bool):=xit [0,1,4,6,7] [[4]] (X_Zbr nf c15_Zbr) (qB 0 (qS (X_Zbr nf w31_Zbr) (KF [.c 4 (.v (kR 0)),.t 5 (.v .bool)]))) m14 ⟨[(0,.v kS op),(1,.v (kL (kR 0)) args),(4,.pt [4] 0),(6,.v kI x6_10),(7,.v kI x7_14)],[([4],.box [.v kI (0:Int),.nl kS,.nl (kR 0)])]⟩
noncomputable def j34_Zbr(nf:Nat)(x37_34:Bool):Option (Ty×Bool):=X_Zbr nf c34_Zbr ⟨[(4,.pt [4] 0),(37,.v .bool x37_34)],[([4],.box [.v kI (0:Int),.nl kS,.nl (kR 0)])]⟩ (qS (X_Zbr nf c39_Zbr) (KF [.c 4 (.v (kR 0)),.t 5 (.v .bool)]))
noncomputable def j31_Zbr(nf:Nat)(op:Str):Option (Ty×Bool):=X_Zbr nf c31_Zbr ⟨[(0,.v kS op),(4,.pt [4] 0)],[([4],.box [.v kI (0:Int),.nl kS,.nl (kR 0)])]⟩ (KF [.c 4 (.v (kR 0)),.t 5 (.v .bool)])
noncomputable def j10_Zbr(nf:Nat)(op:Str)(args:List Ty)(x6_10:Int):Option (Ty×Bool):=X_Zbr nf c10_Zbr ⟨[(0,.v kS op),(1,.v (kL (kR 0)) args),(4,.pt [4] 0),(6,.v kI x6_10)],[([4],.box [.v kI (0:Int),.nl kS,.nl (kR 0)])]⟩ (KF [.c 4 (.v (kR 0)),.t 5 (.v .bool)])
theorem j7_Zbr_eq(nf:Nat)(op:Str)(args:List Ty)(x17_7:Bool):j7_Zbr nf op args x17_7=(br x17_7 (mark (j10_Zbr nf op args (2:Int))) (mark (j10_Zbr nf op args (1:Int)))):=by
 unfold j7_Zbr j10_Zbr c7_Zbr w10_Zbr
 generalize c10_Zbr=x0
 revert x0
 refine id ?_
 intro x0
 kernel_rfl
theorem l14_Zbr_eq(nf:Nat)(m14:Nat)(op:Str)(args:List Ty)(x6_10:Int)(x7_14:Int):l14_Zbr nf (m14+1) op args x6_10 x7_14=(br (decide (x7_14<(List.length args:Int))) (gg (0<=x7_14∧x7_14<(List.length args:Int))<|br (!(((gt args x7_14 Ty.zero).kind)==x6_10)) (some ((Ty.mk (0:Int) ([]:List Str) ([]:List Ty)),false)) (mark (l14_Zbr nf m14 op args x6_10 (w64 (x7_14+(1:Int)))))) (mark (j31_Zbr nf op))):=by
 unfold l14_Zbr j31_Zbr c15_Zbr w31_Zbr
 generalize c31_Zbr=x0
 revert x0
 refine id ?_
 intro x0
 kernel_rfl
theorem j34_Zbr_eq(nf:Nat)(x37_34:Bool):j34_Zbr nf x37_34=(br x37_34 (cb (m_ZbK nf) fun r38=>some ((Ty.h r38),true)) (cb (m_ZbF nf) fun r39=>some ((Ty.h r39),true))):=by kernel_rfl
theorem j31_Zbr_eq(nf:Nat)(op:Str):j31_Zbr nf op=(br ((op==([43]:Str))==false) (mark (j34_Zbr nf (op==([45]:Str)))) (mark (j34_Zbr nf true))):=by
 unfold j31_Zbr j34_Zbr c31_Zbr w34_Zbr c39_Zbr
 generalize c34_Zbr=x0
 revert x0
 refine id ?_
 intro x0
 kernel_rfl
theorem j10_Zbr_eq(nf:Nat)(op:Str)(args:List Ty)(x6_10:Int):j10_Zbr nf op args x6_10=(mark (l14_Zbr nf nf op args x6_10 (0:Int))):=by
 unfold j10_Zbr l14_Zbr c10_Zbr w31_Zbr
 generalize c31_Zbr=x0
 revert x0
 refine id ?_
 intro x0
 kernel_rfl
theorem m_Zbr_eq(nf:Nat)(op:Str)(args:List Ty):m_Zbr nf op args=(br ((op==([38]:Str))==false) (br ((op==([124]:Str))==false) (mark (j7_Zbr nf op args (op==([33]:Str)))) (mark (j7_Zbr nf op args true))) (mark (j7_Zbr nf op args true))):=by
 unfold m_Zbr j7_Zbr ir_Zbr w7_Zbr w10_Zbr
 generalize c7_Zbr=x0
 generalize c10_Zbr=x1
 revert x0 x1
 refine id ?_
 intro x0 x1
 kernel_rfl
noncomputable def e_Zbr(nf:Nat):XE:=eF 189 [.v kS,.v (kL (kR 0))] [.v (kR 0),.v .bool] (fun t=>m_Zbr nf t.1 t.2.1)
theorem o_Zbr(nf:Nat):conOK Tryz.prog 189 (e_Zbr nf).con:=by
 have ih:XT.ok Tryz.prog (T_Zbr nf):=by exact⟨o_ZbK nf,o_ZbF nf,trivial⟩
 refine eF_ok fun t x h=> ?_
 obtain⟨op,args,_⟩:=t
 exact runF_ok (N:=40) ih Tryz.func189 (by kernel_rfl) rfl h
def c12_Zba:C:=.sq (.rg [.fa 24 T2 0 2 2,.ld 25 T24 (kL (kR 0)),.mv 26 T6,.ia 27 T25 T26 (kR 0),.ld 28 T27 (kR 0),.cv (some 29) 89 [(T28,.v (kR 0))],.st T4 T29 (kR 0),.mv 5 (.b true)]) .rt
def c7_Zba:C:=.cd T22 (.sq (.rg [.bd 23 0 [],.st T4 T23 (kR 0),.mv 5 (.b false)]) .rt) .skip
def w7_Zba:C:=.kp [2,4,6,22] [[2],[4]] c7_Zba
def ir_Zba:C:=.sq (.rg [.bx 2 T0 (kR 0),.al 4 (kR 0),.mv 5 (.b false)]) (.sq (.rg [.fa 7 T2 0 1 1,.ld 8 T7 (kL kS),.mv 9 T1,.cv (some 10) 88 [(T8,.v (kL kS)),(T9,.v kS)],.mv 6 T10]) (.sq (.sq (.rg [.ld 11 T2 (kR 0),.cv (some 12) 87 [(T11,.v (kR 0))],.un 13 .not T12,.mv 14 T13,.g 14 false (.fa 15 T2 0 0 0),.g 14 false (.ld 16 T15 kI),.g 14 false (.bi 17 .neq T16 (.i 3)),.pk 18 T14 (.b true) T17,.mv 19 T18,.g 19 false (.mv 20 T6),.g 19 false (.bi 21 .lss T20 (.i 0)),.pk 22 T19 (.b true) T21]) w7_Zba) c12_Zba))
noncomputable abbrev T_Zba(nf:Nat):XT:=[e_Zbb nf,e_Zbi nf,e_ZbG nf]
noncomputable def m_Zba(nf:Nat)(t:Ty)(label:Str):Option (Ty×Bool):=runF (T_Zba nf) nf [.v (kR 0),.v kS] [.c 4 (.v (kR 0)),.t 5 (.v .bool)] ir_Zba (t,label,())
noncomputable def X_Zba{R:Type}(nf:Nat):C->Env->(Xt->Env->Option R)->Option R:=xc (R:=R) (T_Zba nf).S nf
noncomputable def j7_Zba(nf:Nat)(r10:Int)(t:Ty)(x22_7:Bool):Option (Ty×Bool):=X_Zba nf c7_Zba ⟨[(2,.pt [2] 0),(4,.pt [4] 0),(6,.v kI r10),(22,.v .bool x22_7)],[([2],.box [.v kI t.kind,.v (kL kS) t.labels,.v (kL (kR 0)) t.args]),([4],.box [.v kI (0:Int),.nl kS,.nl (kR 0)])]⟩ (qS (X_Zba nf c12_Zba) (KF [.c 4 (.v (kR 0)),.t 5 (.v .bool)]))
theorem j7_Zba_eq(nf:Nat)(r10:Int)(t:Ty)(x22_7:Bool):j7_Zba nf r10 t x22_7=(br x22_7 (some ((Ty.mk (0:Int) ([]:List Str) ([]:List Ty)),false)) (gg (0<=r10∧r10<(List.length t.args:Int))<|cb (m_ZbG nf nf (gt t.args r10 Ty.zero)) fun r29=>some ((Ty.h r29),true))):=by kernel_rfl
theorem m_Zba_eq(nf:Nat)(t:Ty)(label:Str):m_Zba nf t label=(cb (m_Zbb nf t.labels label) fun r10=>cb (m_Zbi nf (Ty.h t)) fun r12=>br ((!r12)==false) (br ((!(t.kind==(3:Int)))==false) (mark (j7_Zba nf r10 t (decide (r10<(0:Int))))) (mark (j7_Zba nf r10 t true))) (mark (j7_Zba nf r10 t true))):=by
 unfold m_Zba j7_Zba ir_Zba w7_Zba c12_Zba
 generalize c7_Zba=x0
 revert x0
 refine id ?_
 intro x0
 kernel_rfl
noncomputable def e_Zba(nf:Nat):XE:=eF 191 [.v (kR 0),.v kS] [.v (kR 0),.v .bool] (fun t=>m_Zba nf t.1 t.2.1)
theorem o_Zba(nf:Nat):conOK Tryz.prog 191 (e_Zba nf).con:=by
 have ih:XT.ok Tryz.prog (T_Zba nf):=by exact⟨o_Zbb nf,o_Zbi nf,o_ZbG nf,trivial⟩
 refine eF_ok fun t x h=> ?_
 obtain⟨t,label,_⟩:=t
 exact runF_ok (N:=30) ih Tryz.func191 (by kernel_rfl) rfl h
def c31_ZbO:C:=.sq (.rg [.mv 4 (.b true)]) .rt
def c15_ZbO:C:=.sq (.sq (.rg [.mv 11 T5,.mv 12 T0,.ln 13 false T12,.bi 14 .lss T11 T13]) (.cd T14 .skip (.ex 0))) (.sq (.bk 1 (.sq (.dr [] [.mv 17 T0,.mv 18 T5,.ia 19 T17 T18 kS,.ld 20 T19 kS,.mv 21 T1,.mv 22 T5,.ia 23 T21 T22 kS,.ld 24 T23 kS] [.bi 25 .neq T20 T24]) (.cd T25 (.sq (.rg [.mv 4 (.b false)]) .rt) .skip))) (.rg [.mv 15 T5,.bi 16 .add T15 (.i 1),.mv 5 T16]))
def ir_ZbO:C:=.sq (.rg [.mv 4 (.b false)]) (.sq (.sq (.rg [.mv 6 T0,.ln 7 false T6,.mv 8 T1,.ln 9 false T8,.bi 10 .neq T7 T9]) (.cd T10 (.sq (.rg [.mv 4 (.b false)]) .rt) .skip)) (.sq (.sq (.rg [.mv 5 (.i 0)]) (.bk 0 (.lk [0,1,5] [] c15_ZbO))) c31_ZbO))
noncomputable abbrev T_ZbO(nf:Nat):XT:=[]
noncomputable def m_ZbO(nf:Nat)(a:List Str)(b:List Str):Option (Bool):=runF (T_ZbO nf) nf [.v (kL kS),.v (kL kS)] [.t 4 (.v .bool)] ir_ZbO (a,b,())
noncomputable def X_ZbO{R:Type}(nf:Nat):C->Env->(Xt->Env->Option R)->Option R:=xc (R:=R) (T_ZbO nf).S nf
noncomputable def l14_ZbO(nf:Nat)(m14:Nat)(a:List Str)(b:List Str)(x5_14:Int):Option (Bool):=xit [0,1,5] [] (X_ZbO nf c15_ZbO) (qB 0 (qS (X_ZbO nf c31_ZbO) (KF [.t 4 (.v .bool)]))) m14 ⟨[(0,.v (kL kS) a),(1,.v (kL kS) b),(5,.v kI x5_14)],[]⟩
theorem l14_ZbO_eq(nf:Nat)(m14:Nat)(a:List Str)(b:List Str)(x5_14:Int):l14_ZbO nf (m14+1) a b x5_14=(br (decide (x5_14<(List.length a:Int))) (gg (0<=x5_14∧x5_14<(List.length a:Int))<|gg (0<=x5_14∧x5_14<(List.length b:Int))<|br (!((gt a x5_14 ([]:Str))==(gt b x5_14 ([]:Str)))) (some false) (mark (l14_ZbO nf m14 a b (w64 (x5_14+(1:Int)))))) (some true)):=by kernel_rfl
theorem m_ZbO_eq(nf:Nat)(a:List Str)(b:List Str):m_ZbO nf a b=(br (!((List.length a:Int)==(List.length b:Int))) (some false) (mark (l14_ZbO nf nf a b (0:Int)))):=by kernel_rfl
noncomputable def e_ZbO(nf:Nat):XE:=eF 146 [.v (kL kS),.v (kL kS)] [.v .bool] (fun t=>m_ZbO nf t.1 t.2.1)
theorem o_ZbO(nf:Nat):conOK Tryz.prog 146 (e_ZbO nf).con:=by
 have ih:XT.ok Tryz.prog (T_ZbO nf):=by exact trivial
 refine eF_ok fun t x h=> ?_
 obtain⟨a,b,_⟩:=t
 exact runF_ok (N:=26) ih Tryz.func146 (by kernel_rfl) rfl h
def c31_ZaZ:C:=.sq (.rg [.mv 4 (.b true)]) .rt
def c15_ZaZ:C:=.sq (.sq (.rg [.mv 28 T5,.fa 29 T2 0 2 2,.ld 30 T29 (kL (kR 0)),.ln 31 false T30,.bi 32 .lss T28 T31]) (.cd T32 .skip (.ex 0))) (.sq (.bk 1 (.sq (.dr [] [.fa 35 T2 0 2 2,.ld 36 T35 (kL (kR 0)),.mv 37 T5,.ia 38 T36 T37 (kR 0),.ld 39 T38 (kR 0),.fa 40 T3 0 2 2,.ld 41 T40 (kL (kR 0)),.mv 42 T5,.ia 43 T41 T42 (kR 0),.ld 44 T43 (kR 0)] [.cv (some 45) 135 [(T39,.v (kR 0)),(T44,.v (kR 0))],.un 46 .not T45]) (.cd T46 (.sq (.rg [.mv 4 (.b false)]) .rt) .skip))) (.rg [.mv 33 T5,.bi 34 .add T33 (.i 1),.mv 5 T34]))
def c10_ZaZ:C:=.sq (.sq (.rg [.mv 5 (.i 0)]) (.bk 0 (.lk [2,3,5] [[2],[3]] c15_ZaZ))) c31_ZaZ
def c5_ZaZ:C:=.cd T27 (.sq (.rg [.mv 4 (.b false)]) .rt) .skip
def w5_ZaZ:C:=.kp [2,3,27] [[2],[3]] c5_ZaZ
def ir_ZaZ:C:=.sq (.rg [.bx 2 T0 (kR 0),.bx 3 T1 (kR 0),.mv 4 (.b false)]) (.sq (.sq (.rg [.fa 6 T2 0 0 0,.ld 7 T6 kI,.fa 8 T3 0 0 0,.ld 9 T8 kI,.bi 10 .neq T7 T9,.mv 11 T10,.g 11 false (.fa 12 T2 0 1 1),.g 11 false (.ld 13 T12 (kL kS)),.g 11 false (.fa 14 T3 0 1 1),.g 11 false (.ld 15 T14 (kL kS)),.g 11 false (.cv (some 16) 146 [(T13,.v (kL kS)),(T15,.v (kL kS))]),.g 11 false (.un 17 .not T16),.pk 18 T11 (.b true) T17,.mv 19 T18,.g 19 false (.fa 20 T2 0 2 2),.g 19 false (.ld 21 T20 (kL (kR 0))),.g 19 false (.ln 22 false T21),.g 19 false (.fa 23 T3 0 2 2),.g 19 false (.ld 24 T23 (kL (kR 0))),.g 19 false (.ln 25 false T24),.g 19 false (.bi 26 .neq T22 T25),.pk 27 T19 (.b true) T26]) w5_ZaZ) c10_ZaZ)
noncomputable def B_ZaZ(nf:Nat):XT:=[e_ZbO nf]
noncomputable def G_ZaZ(nf:Nat):Nat->XT
 |0=>[]
 |kf+1=>[eF 135 [.v (kR 0),.v (kR 0)] [.v .bool] (fun t=>(fun(a:Ty) (b:Ty)=>runF (G_ZaZ nf kf++B_ZaZ nf) nf [.v (kR 0),.v (kR 0)] [.t 4 (.v .bool)] ir_ZaZ (a,b,())) t.1 t.2.1)]
noncomputable abbrev T_ZaZ(nf kf:Nat):XT:=G_ZaZ nf kf++B_ZaZ nf
noncomputable def m_ZaZ(nf kf:Nat)(a:Ty)(b:Ty):Option (Bool):=runF (T_ZaZ nf kf) nf [.v (kR 0),.v (kR 0)] [.t 4 (.v .bool)] ir_ZaZ (a,b,())
noncomputable def X_ZaZ{R:Type}(nf kf:Nat):C->Env->(Xt->Env->Option R)->Option R:=xc (R:=R) (T_ZaZ nf kf).S nf
noncomputable def j5_ZaZ(nf kf:Nat)(a:Ty)(b:Ty)(x27_5:Bool):Option (Bool):=X_ZaZ nf kf c5_ZaZ ⟨[(2,.pt [2] 0),(3,.pt [3] 0),(27,.v .bool x27_5)],[([2],.box [.v kI a.kind,.v (kL kS) a.labels,.v (kL (kR 0)) a.args]),([3],.box [.v kI b.kind,.v (kL kS) b.labels,.v (kL (kR 0)) b.args])]⟩ (qS (X_ZaZ nf kf c10_ZaZ) (KF [.t 4 (.v .bool)]))
noncomputable def l14_ZaZ(nf kf:Nat)(m14:Nat)(a:Ty)(b:Ty)(x5_14:Int):Option (Bool):=xit [2,3,5] [[2],[3]] (X_ZaZ nf kf c15_ZaZ) (qB 0 (qS (X_ZaZ nf kf c31_ZaZ) (KF [.t 4 (.v .bool)]))) m14 ⟨[(2,.pt [2] 0),(3,.pt [3] 0),(5,.v kI x5_14)],[([2],.box [.v kI a.kind,.v (kL kS) a.labels,.v (kL (kR 0)) a.args]),([3],.box [.v kI b.kind,.v (kL kS) b.labels,.v (kL (kR 0)) b.args])]⟩
theorem j5_ZaZ_eq(nf kf:Nat)(a:Ty)(b:Ty)(x27_5:Bool):j5_ZaZ nf (kf+1) a b x27_5=(br x27_5 (some false) (mark (l14_ZaZ nf (kf+1) nf a b (0:Int)))):=by kernel_rfl
theorem l14_ZaZ_eq(nf kf:Nat)(m14:Nat)(a:Ty)(b:Ty)(x5_14:Int):l14_ZaZ nf (kf+1) (m14+1) a b x5_14=(br (decide (x5_14<(List.length a.args:Int))) (gg (0<=x5_14∧x5_14<(List.length a.args:Int))<|gg (0<=x5_14∧x5_14<(List.length b.args:Int))<|cb (m_ZaZ nf kf (gt a.args x5_14 Ty.zero) (gt b.args x5_14 Ty.zero)) fun r45=>br (!r45) (some false) (mark (l14_ZaZ nf (kf+1) m14 a b (w64 (x5_14+(1:Int)))))) (some true)):=by kernel_rfl
theorem m_ZaZ_eq(nf kf:Nat)(a:Ty)(b:Ty):m_ZaZ nf (kf+1) a b=(br ((!(a.kind==b.kind))==false) (cb (m_ZbO nf a.labels b.labels) fun r16=>br ((!r16)==false) (mark (j5_ZaZ nf (kf+1) a b (!((List.length a.args:Int)==(List.length b.args:Int))))) (mark (j5_ZaZ nf (kf+1) a b true))) (mark (j5_ZaZ nf (kf+1) a b true))):=by
 unfold m_ZaZ j5_ZaZ ir_ZaZ w5_ZaZ c10_ZaZ c31_ZaZ
 generalize c5_ZaZ=x0
 revert x0
 refine id ?_
 intro x0
 kernel_rfl
noncomputable def e_ZaZ(nf:Nat):XE:=eF 135 [.v (kR 0),.v (kR 0)] [.v .bool] (fun t=>m_ZaZ nf nf t.1 t.2.1)
theorem gok_ZaZ(nf:Nat):∀kf:Nat,XT.ok Tryz.prog (G_ZaZ nf kf++B_ZaZ nf)
 |0=>by exact⟨o_ZbO nf,trivial⟩
 |kf+1=>by
  have ih:=gok_ZaZ nf kf
  refine⟨?_,(by exact⟨o_ZbO nf,trivial⟩)⟩
  ·refine eF_ok fun t x h=> ?_
   obtain⟨a,b,_⟩:=t
   exact runF_ok (N:=47) ih Tryz.func135 (by kernel_rfl) rfl h
theorem o_ZaZ(nf:Nat):conOK Tryz.prog 135 (e_ZaZ nf).con:=by
 have ih:=gok_ZaZ nf nf
 refine eF_ok fun t x h=> ?_
 obtain⟨a,b,_⟩:=t
 exact runF_ok (N:=47) ih Tryz.func135 (by kernel_rfl) rfl h
def c69_Zbo:C:=.sq (.rg [.bd 128 0 [],.st T4 T128 (kR 0),.mv 5 (.b false)]) .rt
def c51_Zbo:C:=.cd T104 (.sq (.rg [.mv 105 T1,.ia 106 T105 (.i 0) (kR 0),.fa 107 T106 0 2 2,.ld 108 T107 (kL (kR 0)),.ia 109 T108 (.i 1) (kR 0),.ld 110 T109 (kR 0),.cv (some 111) 89 [(T110,.v (kR 0))],.st T4 T111 (kR 0),.mv 5 (.b true)]) .rt) .skip
def w51_Zbo:C:=.kp [1,4,104] [[4]] c51_Zbo
def ir_Zbo:C:=.sq (.rg [.bx 2 T0 (kR 2),.al 4 (kR 0),.mv 5 (.b false)]) (.sq (.sq (.rg [.fa 10 T2 2 0 0,.ld 11 T10 kI]) (.bk 0 (.sq (.rg [.bi 13 .eql T11 (.i 4),.mv 12 T13]) (.cd T12 (.sq (.rg [.fa 15 T2 2 1 1,.ld 16 T15 kS,.mv 17 T1,.ca (some 18) 189 [(T16,.v kS),(T17,.v (kL (kR 0)))],.mv 14 T18,.xt 19 T14 0,.xt 20 T14 1,.al 6 (kR 0),.st T6 T19 (kR 0),.mv 7 T20]) (.sq (.rg [.ld 21 T6 (kR 0),.mv 22 T7,.st T4 T21 (kR 0),.mv 5 T22]) .rt)) (.sq (.rg [.bi 24 .eql T11 (.i 5),.mv 23 T24]) (.cd T23 (.sq (.rg [.fa 25 T2 2 4 6,.ld 26 T25 (kL kS),.mv 27 T1,.cv (some 28) 190 [(T26,.v (kL kS)),(T27,.v (kL (kR 0)))],.st T4 T28 (kR 0),.mv 5 (.b true)]) .rt) (.sq (.rg [.bi 30 .eql T11 (.i 6),.mv 29 T30]) (.cd T29 (.sq (.dw [37,8] [31] [.mv 32 T1,.ia 33 T32 (.i 0) (kR 0),.ld 34 T33 (kR 0),.fa 35 T2 2 1 1,.ld 36 T35 kS,.ca (some 37) 191 [(T34,.v (kR 0)),(T36,.v kS)],.mv 31 T37,.xt 38 T31 0,.xt 39 T31 1,.al 8 (kR 0)] 8 T38 (kR 0) [.mv 9 T39]) (.sq (.rg [.ld 40 T8 (kR 0),.mv 41 T9,.st T4 T40 (kR 0),.mv 5 T41]) .rt)) (.sq (.rg [.bi 43 .eql T11 (.i 8),.mv 42 T43]) (.cd T42 (.sq (.rg [.mv 44 T1,.ia 45 T44 (.i 0) (kR 0),.ld 46 T45 (kR 0),.cv (some 47) 188 [(T46,.v (kR 0))],.st T4 T47 (kR 0),.mv 5 (.b true)]) .rt) (.sq (.rg [.bi 49 .eql T11 (.i 9),.mv 48 T49]) (.cd T48 (.sq (.dw [] [58,65] [.mv 50 T1,.ia 51 T50 (.i 0) (kR 0),.ld 52 T51 (kR 0),.mv 53 T1,.ia 54 T53 (.i 0) (kR 0),.fa 55 T54 0 0 0,.ld 56 T55 kI,.bi 57 .eql T56 (.i 4),.mv 58 T57,.g 58 true (.mv 59 T1),.g 58 true (.ia 60 T59 (.i 0) (kR 0)),.g 58 true (.ld 61 T60 (kR 0)),.g 58 true (.mv 62 T1),.g 58 true (.ia 63 T62 (.i 1) (kR 0)),.g 58 true (.ld 64 T63 (kR 0)),.g 58 true (.cv (some 65) 135 [(T61,.v (kR 0)),(T64,.v (kR 0))]),.pk 66 T58 T65 (.b false)] 4 T52 (kR 0) [.mv 5 T66]) .rt) (.sq (.rg [.bi 68 .eql T11 (.i 11),.mv 67 T68]) (.cd T67 (.sq (.dw [] [77,84] [.mv 69 T1,.ia 70 T69 (.i 1) (kR 0),.ld 71 T70 (kR 0),.mv 72 T1,.ia 73 T72 (.i 0) (kR 0),.fa 74 T73 0 0 0,.ld 75 T74 kI,.bi 76 .eql T75 (.i 2),.mv 77 T76,.g 77 true (.mv 78 T1),.g 77 true (.ia 79 T78 (.i 1) (kR 0)),.g 77 true (.ld 80 T79 (kR 0)),.g 77 true (.mv 81 T1),.g 77 true (.ia 82 T81 (.i 2) (kR 0)),.g 77 true (.ld 83 T82 (kR 0)),.g 77 true (.cv (some 84) 135 [(T80,.v (kR 0)),(T83,.v (kR 0))]),.pk 85 T77 T84 (.b false)] 4 T71 (kR 0) [.mv 5 T85]) .rt) (.sq (.rg [.bi 87 .eql T11 (.i 14),.mv 86 T87]) (.cd T86 (.sq (.dr [] [.mv 88 T1,.ia 89 T88 (.i 0) (kR 0),.fa 90 T89 0 0 0,.ld 91 T90 kI,.bi 92 .eql T91 (.i 5),.mv 93 T92,.g 93 true (.mv 94 T1),.g 93 true (.ia 95 T94 (.i 0) (kR 0)),.g 93 true (.fa 96 T95 0 2 2),.g 93 true (.ld 97 T96 (kL (kR 0))),.g 93 true (.ia 98 T97 (.i 0) (kR 0)),.g 93 true (.ld 99 T98 (kR 0)),.g 93 true (.mv 100 T1),.g 93 true (.ia 101 T100 (.i 1) (kR 0)),.g 93 true (.ld 102 T101 (kR 0))] [.g 93 true (.cv (some 103) 135 [(T99,.v (kR 0)),(T102,.v (kR 0))]),.pk 104 T93 T103 (.b false)]) w51_Zbo) (.sq (.rg [.bi 113 .eql T11 (.i 15),.mv 112 T113]) (.cd T112 (.sq (.dw [] [1,115,116,117,118] [.cv (some 114) 94 [],.mv 115 T1,.ia 116 T115 (.i 0) (kR 0),.fa 117 T116 0 0 0,.ld 118 T117 kI,.bi 119 .eql T118 (.i 4)] 4 T114 (kR 0) [.mv 5 T119]) .rt) (.sq (.rg [.bi 121 .eql T11 (.i 16),.mv 120 T121]) (.cd T120 (.sq (.dw [] [1,123,124,125,126] [.cv (some 122) 115 [],.mv 123 T1,.ia 124 T123 (.i 0) (kR 0),.fa 125 T124 0 0 0,.ld 126 T125 kI,.bi 127 .eql T126 (.i 4)] 4 T122 (kR 0) [.mv 5 T127]) .rt) .skip)))))))))))))))))))) c69_Zbo)
noncomputable abbrev T_Zbo(nf:Nat):XT:=[e_Zbr nf,e_ZbN nf,e_Zba nf,e_ZbD nf,e_ZaZ nf,e_ZbG nf,e_ZbF nf,e_ZbK nf]
noncomputable def m_Zbo(nf:Nat)(e:Tm)(args:List Ty):Option (Ty×Bool):=runF (T_Zbo nf) nf [.v (kR 2),.v (kL (kR 0))] [.c 4 (.v (kR 0)),.t 5 (.v .bool)] ir_Zbo (e,args,())
noncomputable def X_Zbo{R:Type}(nf:Nat):C->Env->(Xt->Env->Option R)->Option R:=xc (R:=R) (T_Zbo nf).S nf
noncomputable def j51_Zbo(nf:Nat)(args:List Ty)(x104_51:Bool):Option (Ty×Bool):=X_Zbo nf c51_Zbo ⟨[(1,.v (kL (kR 0)) args),(4,.pt [4] 0),(104,.v .bool x104_51)],[([4],.box [.v kI (0:Int),.nl kS,.nl (kR 0)])]⟩ (qB 0 (qS (X_Zbo nf c69_Zbo) (KF [.c 4 (.v (kR 0)),.t 5 (.v .bool)])))
theorem j51_Zbo_eq(nf:Nat)(args:List Ty)(x104_51:Bool):j51_Zbo nf args x104_51=(br x104_51 (gg (0<=(0:Int)∧(0:Int)<(List.length args:Int))<|gg (0<=(1:Int)∧(1:Int)<(List.length ((gt args (0:Int) Ty.zero).args):Int))<|cb (m_ZbG nf nf (gt ((gt args (0:Int) Ty.zero).args) (1:Int) Ty.zero)) fun r111=>some ((Ty.h r111),true)) (some ((Ty.mk (0:Int) ([]:List Str) ([]:List Ty)),false))):=by kernel_rfl
theorem m_Zbo_eq(nf:Nat)(e:Tm)(args:List Ty):m_Zbo nf e args=(br (e.kind==(4:Int)) (cb (m_Zbr nf e.name args) fun r18=>some ((Ty.h r18.1),r18.2)) (br (e.kind==(5:Int)) (cb (m_ZbN nf e.labels args) fun r28=>some ((Ty.h r28),true)) (br (e.kind==(6:Int)) (gg (0<=(0:Int)∧(0:Int)<(List.length args:Int))<|cb (m_Zba nf (gt args (0:Int) Ty.zero) e.name) fun r37=>some ((Ty.h r37.1),r37.2)) (br (e.kind==(8:Int)) (gg (0<=(0:Int)∧(0:Int)<(List.length args:Int))<|cb (m_ZbD nf (gt args (0:Int) Ty.zero)) fun r47=>some ((Ty.h r47),true)) (br (e.kind==(9:Int)) (gg (0<=(0:Int)∧(0:Int)<(List.length args:Int))<|gg (0<=(0:Int)∧(0:Int)<(List.length args:Int))<|br ((((gt args (0:Int) Ty.zero).kind)==(4:Int))==true) (gg (0<=(0:Int)∧(0:Int)<(List.length args:Int))<|gg (0<=(1:Int)∧(1:Int)<(List.length args:Int))<|cb (m_ZaZ nf nf (gt args (0:Int) Ty.zero) (gt args (1:Int) Ty.zero)) fun r65=>some ((Ty.h (gt args (0:Int) Ty.zero)),r65)) (some ((Ty.h (gt args (0:Int) Ty.zero)),false))) (br (e.kind==(11:Int)) (gg (0<=(1:Int)∧(1:Int)<(List.length args:Int))<|gg (0<=(0:Int)∧(0:Int)<(List.length args:Int))<|br ((((gt args (0:Int) Ty.zero).kind)==(2:Int))==true) (gg (0<=(1:Int)∧(1:Int)<(List.length args:Int))<|gg (0<=(2:Int)∧(2:Int)<(List.length args:Int))<|cb (m_ZaZ nf nf (gt args (1:Int) Ty.zero) (gt args (2:Int) Ty.zero)) fun r84=>some ((Ty.h (gt args (1:Int) Ty.zero)),r84)) (some ((Ty.h (gt args (1:Int) Ty.zero)),false))) (br (e.kind==(14:Int)) (gg (0<=(0:Int)∧(0:Int)<(List.length args:Int))<|br ((((gt args (0:Int) Ty.zero).kind)==(5:Int))==true) (gg (0<=(0:Int)∧(0:Int)<(List.length args:Int))<|gg (0<=(0:Int)∧(0:Int)<(List.length ((gt args (0:Int) Ty.zero).args):Int))<|gg (0<=(1:Int)∧(1:Int)<(List.length args:Int))<|cb (m_ZaZ nf nf (gt ((gt args (0:Int) Ty.zero).args) (0:Int) Ty.zero) (gt args (1:Int) Ty.zero)) fun r103=>mark (j51_Zbo nf args r103)) (mark (j51_Zbo nf args false))) (br (e.kind==(15:Int)) (cb (m_ZbF nf) fun r114=>gg (0<=(0:Int)∧(0:Int)<(List.length args:Int))<|some ((Ty.h r114),(((gt args (0:Int) Ty.zero).kind)==(4:Int)))) (br (e.kind==(16:Int)) (cb (m_ZbK nf) fun r122=>gg (0<=(0:Int)∧(0:Int)<(List.length args:Int))<|some ((Ty.h r122),(((gt args (0:Int) Ty.zero).kind)==(4:Int)))) (some ((Ty.mk (0:Int) ([]:List Str) ([]:List Ty)),false))))))))))):=by
 unfold m_Zbo j51_Zbo ir_Zbo w51_Zbo c69_Zbo
 generalize c51_Zbo=x0
 revert x0
 refine id ?_
 intro x0
 kernel_rfl
noncomputable def e_Zbo(nf:Nat):XE:=eF 177 [.v (kR 2),.v (kL (kR 0))] [.v (kR 0),.v .bool] (fun t=>m_Zbo nf t.1 t.2.1)
theorem o_Zbo(nf:Nat):conOK Tryz.prog 177 (e_Zbo nf).con:=by
 have ih:XT.ok Tryz.prog (T_Zbo nf):=by exact⟨o_Zbr nf,o_ZbN nf,o_Zba nf,o_ZbD nf,o_ZaZ nf,o_ZbG nf,o_ZbF nf,o_ZbK nf,trivial⟩
 refine eF_ok fun t x h=> ?_
 obtain⟨e,args,_⟩:=t
 exact runF_ok (N:=129) ih Tryz.func177 (by kernel_rfl) rfl h
def c22_Zbn:C:=.sq (.dw [69,12] [55] [.ld 56 T3 (kR 5),.mv 57 T1,.fa 58 T5 2 1 1,.ld 59 T58 kS,.fa 60 T10 0 2 2,.ld 61 T60 (kL (kR 0)),.ia 62 T61 (.i 0) (kR 0),.ld 63 T62 (kR 0),.cv (some 64) 73 [(T57,.v (kL (kR 8))),(T59,.v kS),(T63,.v (kR 0))],.fa 65 T5 2 5 7,.ld 66 T65 (kL (kR 2)),.ia 67 T66 (.i 1) (kR 2),.ld 68 T67 (kR 2),.ca (some 69) 134 [(T56,.v (kR 5)),(T64,.v (kL (kR 8))),(T68,.v (kR 2))],.mv 55 T69,.xt 70 T55 0,.xt 71 T55 1,.al 12 (kR 0)] 12 T70 (kR 0) [.mv 13 T71]) (.sq (.dw [] [12,74,75,76,77] [.ld 72 T12 (kR 0),.mv 73 T13,.mv 74 T73,.g 74 true (.fa 75 T12 0 0 0),.g 74 true (.ld 76 T75 kI),.g 74 true (.bi 77 .eql T76 (.i 4)),.pk 78 T74 T77 (.b false)] 6 T72 (kR 0) [.mv 7 T78]) .rt)
def c17_Zbn:C:=.cd T53 (.sq (.rg [.bd 54 0 [],.st T6 T54 (kR 0),.mv 7 (.b false)]) .rt) .skip
def w17_Zbn:C:=.kp [1,3,5,6,10,53] [[3],[5],[6],[10]] c17_Zbn
def ir_Zbn:C:=.sq (.rg [.bx 3 T0 (kR 5),.bx 5 T2 (kR 2),.al 6 (kR 0),.mv 7 (.b false)]) (.sq (.sq (.rg [.fa 14 T5 2 0 0,.ld 15 T14 kI,.bi 16 .eql T15 (.i 13)]) (.cd T16 (.sq (.dw [29,8] [17] [.ld 18 T3 (kR 5),.mv 19 T1,.fa 20 T5 2 1 1,.ld 21 T20 kS,.fa 22 T5 2 3 3,.ld 23 T22 (kR 0),.cv (some 24) 73 [(T19,.v (kL (kR 8))),(T21,.v kS),(T23,.v (kR 0))],.fa 25 T5 2 5 7,.ld 26 T25 (kL (kR 2)),.ia 27 T26 (.i 0) (kR 2),.ld 28 T27 (kR 2),.ca (some 29) 134 [(T18,.v (kR 5)),(T24,.v (kL (kR 8))),(T28,.v (kR 2))],.mv 17 T29,.xt 30 T17 0,.xt 31 T17 1,.al 8 (kR 0)] 8 T30 (kR 0) [.mv 9 T31]) (.sq (.rg [.fa 32 T5 2 3 3,.ld 33 T32 (kR 0),.ld 34 T8 (kR 0),.cv (some 35) 187 [(T33,.v (kR 0)),(T34,.v (kR 0))],.mv 36 T9,.st T6 T35 (kR 0),.mv 7 T36]) .rt)) .skip)) (.sq (.dw [44,10] [37] [.ld 38 T3 (kR 5),.mv 39 T1,.fa 40 T5 2 5 7,.ld 41 T40 (kL (kR 2)),.ia 42 T41 (.i 0) (kR 2),.ld 43 T42 (kR 2),.ca (some 44) 134 [(T38,.v (kR 5)),(T39,.v (kL (kR 8))),(T43,.v (kR 2))],.mv 37 T44,.xt 45 T37 0,.xt 46 T37 1,.al 10 (kR 0)] 10 T45 (kR 0) [.mv 11 T46]) (.sq (.sq (.rg [.mv 47 T11,.un 48 .not T47,.mv 49 T48,.g 49 false (.fa 50 T10 0 0 0),.g 49 false (.ld 51 T50 kI),.g 49 false (.bi 52 .neq T51 (.i 4)),.pk 53 T49 (.b true) T52]) w17_Zbn) c22_Zbn)))
def c49_Zbs:C:=.sq (.gz 12 (kL (kR 0)) (.rg [.ld 75 T5 (kR 2),.mv 76 T12,.ca (some 77) 177 [(T75,.v (kR 2)),(T76,.v (kL (kR 0)))],.mv 74 T77,.xt 78 T74 0,.xt 79 T74 1,.al 16 (kR 0),.st T16 T78 (kR 0),.mv 17 T79])) (.sq (.rg [.ld 80 T16 (kR 0),.mv 81 T17,.st T6 T80 (kR 0),.mv 7 T81]) .rt)
def w49_Zbs:C:=.kp [5,6,12] [[5],[6],[12]] c49_Zbs
def c29_Zbs:C:=.sq (.sq (.rg [.mv 49 T13,.fa 50 T5 2 5 7,.ld 51 T50 (kL (kR 2)),.ln 52 false T51,.bi 53 .lss T49 T52]) (.cd T53 .skip (.ex 0))) (.sq (.bk 1 (.sq (.dw [64,14] [56] [.ld 57 T3 (kR 5),.mv 58 T1,.fa 59 T5 2 5 7,.ld 60 T59 (kL (kR 2)),.mv 61 T13,.ia 62 T60 T61 (kR 2),.ld 63 T62 (kR 2),.ca (some 64) 134 [(T57,.v (kR 5)),(T58,.v (kL (kR 8))),(T63,.v (kR 2))],.mv 56 T64,.xt 65 T56 0,.xt 66 T56 1,.al 14 (kR 0)] 14 T65 (kR 0) [.mv 15 T66]) (.sq (.sq (.rg [.mv 67 T15,.un 68 .not T67]) (.cd T68 (.sq (.rg [.bd 69 0 [],.st T6 T69 (kR 0),.mv 7 (.b false)]) .rt) .skip)) (.gt 12 false (kR 0) (.rg [.mv 70 T12,.ld 71 T14 (kR 0),.bs 72 false (kR 0) [T71],.ap 73 [12] false (kR 0) T70 T72,.mv 12 T73]))))) (.rg [.mv 54 T13,.bi 55 .add T54 (.i 1),.mv 13 T55]))
def c12_Zbs:C:=.sq (.sq (.rg [.fa 35 T5 2 5 7,.ld 36 T35 (kL (kR 2)),.ln 37 false T36,.bi 38 .eql T37 (.i 0)]) (.cd T38 (.sq (.rg [.ld 40 T3 (kR 5),.mv 41 T1,.ld 42 T5 (kR 2),.ca (some 43) 176 [(T40,.v (kR 5)),(T41,.v (kL (kR 8))),(T42,.v (kR 2))],.mv 39 T43,.xt 44 T39 0,.xt 45 T39 1,.al 10 (kR 0),.st T10 T44 (kR 0),.mv 11 T45]) (.sq (.rg [.ld 46 T10 (kR 0),.mv 47 T11,.st T6 T46 (kR 0),.mv 7 T47]) .rt)) .skip)) (.sq (.rg [.bs 48 false (kR 0) [],.mv 12 T48]) (.sq (.sq (.rg [.mv 13 (.i 0)]) (.bk 0 (.gt 12 false (kR 0) (.lk [1,3,5,6,12,13] [[3],[5],[6],[12]] c29_Zbs)))) w49_Zbs))
def c5_Zbs:C:=.cd T25 (.sq (.rg [.ld 27 T3 (kR 5),.mv 28 T1,.ld 29 T5 (kR 2),.ca (some 30) 175 [(T27,.v (kR 5)),(T28,.v (kL (kR 8))),(T29,.v (kR 2))],.mv 26 T30,.xt 31 T26 0,.xt 32 T26 1,.al 8 (kR 0),.st T8 T31 (kR 0),.mv 9 T32]) (.sq (.rg [.ld 33 T8 (kR 0),.mv 34 T9,.st T6 T33 (kR 0),.mv 7 T34]) .rt)) .skip
def w5_Zbs:C:=.kp [1,3,5,6,25] [[3],[5],[6]] c5_Zbs
def ir_Zbs:C:=.sq (.rg [.bx 3 T0 (kR 5),.bx 5 T2 (kR 2),.al 6 (kR 0),.mv 7 (.b false)]) (.sq (.sq (.rg [.fa 18 T5 2 0 0,.ld 19 T18 kI,.bi 20 .eql T19 (.i 13),.mv 21 T20,.g 21 false (.fa 22 T5 2 0 0),.g 21 false (.ld 23 T22 kI),.g 21 false (.bi 24 .eql T23 (.i 10)),.pk 25 T21 (.b true) T24]) w5_Zbs) c12_Zbs)
def c12_Zbt:C:=.sq (.rg [.ld 25 T8 (kR 0),.st T6 T25 (kR 0),.mv 7 (.b true)]) .rt
def c7_Zbt:C:=.cd T23 (.sq (.rg [.bd 24 0 [],.st T6 T24 (kR 0),.mv 7 (.b false)]) .rt) .skip
def w7_Zbt:C:=.kp [6,8,23] [[6],[8]] c7_Zbt
def ir_Zbt:C:=.sq (.rg [.bx 3 T0 (kR 5),.bx 5 T2 (kR 2),.al 6 (kR 0),.mv 7 (.b false)]) (.sq (.rg [.ld 11 T3 (kR 5),.mv 12 T1,.ld 13 T5 (kR 2),.ca (some 14) 160 [(T11,.v (kR 5)),(T12,.v (kL (kR 8))),(T13,.v (kR 2))],.mv 10 T14,.xt 15 T10 0,.xt 16 T10 1,.al 8 (kR 0),.st T8 T15 (kR 0),.mv 9 T16]) (.sq (.sq (.rg [.mv 17 T9,.un 18 .not T17,.mv 19 T18,.g 19 false (.ld 20 T8 (kR 0)),.g 19 false (.cv (some 21) 87 [(T20,.v (kR 0))]),.g 19 false (.un 22 .not T21),.pk 23 T19 (.b true) T22]) w7_Zbt) c12_Zbt))
noncomputable def B_Zbn(nf:Nat):XT:=[e_Zbu nf,e_ZbI nf,e_Zbp nf,e_Zbo nf,e_Zbi nf]
noncomputable def G_Zbn(nf:Nat):Nat->XT
 |0=>[]
 |kf+1=>[eF 175 [.v (kR 5),.v (kL (kR 8)),.v (kR 2)] [.v (kR 0),.v .bool] (fun t=>(fun(s:Schema) (ctx:List Typing) (e:Tm)=>runF (G_Zbn nf kf++B_Zbn nf) nf [.v (kR 5),.v (kL (kR 8)),.v (kR 2)] [.c 6 (.v (kR 0)),.t 7 (.v .bool)] ir_Zbn (s,ctx,e,())) t.1 t.2.1 t.2.2.1),
  eF 160 [.v (kR 5),.v (kL (kR 8)),.v (kR 2)] [.v (kR 0),.v .bool] (fun t=>(fun(s:Schema) (ctx:List Typing) (e:Tm)=>runF (G_Zbn nf kf++B_Zbn nf) nf [.v (kR 5),.v (kL (kR 8)),.v (kR 2)] [.c 6 (.v (kR 0)),.t 7 (.v .bool)] ir_Zbs (s,ctx,e,())) t.1 t.2.1 t.2.2.1),
  eF 134 [.v (kR 5),.v (kL (kR 8)),.v (kR 2)] [.v (kR 0),.v .bool] (fun t=>(fun(s:Schema) (ctx:List Typing) (e:Tm)=>runF (G_Zbn nf kf++B_Zbn nf) nf [.v (kR 5),.v (kL (kR 8)),.v (kR 2)] [.c 6 (.v (kR 0)),.t 7 (.v .bool)] ir_Zbt (s,ctx,e,())) t.1 t.2.1 t.2.2.1)]
noncomputable abbrev T_Zbn(nf kf:Nat):XT:=G_Zbn nf kf++B_Zbn nf
noncomputable abbrev T_Zbs(nf kf:Nat):XT:=G_Zbn nf kf++B_Zbn nf
noncomputable abbrev T_Zbt(nf kf:Nat):XT:=G_Zbn nf kf++B_Zbn nf
noncomputable def m_Zbn(nf kf:Nat)(s:Schema)(ctx:List Typing)(e:Tm):Option (Ty×Bool):=runF (T_Zbn nf kf) nf [.v (kR 5),.v (kL (kR 8)),.v (kR 2)] [.c 6 (.v (kR 0)),.t 7 (.v .bool)] ir_Zbn (s,ctx,e,())
noncomputable def X_Zbn{R:Type}(nf kf:Nat):C->Env->(Xt->Env->Option R)->Option R:=xc (R:=R) (T_Zbn nf kf).S nf
noncomputable def m_Zbs(nf kf:Nat)(s:Schema)(ctx:List Typing)(e:Tm):Option (Ty×Bool):=runF (T_Zbs nf kf) nf [.v (kR 5),.v (kL (kR 8)),.v (kR 2)] [.c 6 (.v (kR 0)),.t 7 (.v .bool)] ir_Zbs (s,ctx,e,())
noncomputable def X_Zbs{R:Type}(nf kf:Nat):C->Env->(Xt->Env->Option R)->Option R:=xc (R:=R) (T_Zbs nf kf).S nf
noncomputable def m_Zbt(nf kf:Nat)(s:Schema)(ctx:List Typing)(e:Tm):Option (Ty×Bool):=runF (T_Zbt nf kf) nf [.v (kR 5),.v (kL (kR 8)),.v (kR 2)] [.c 6 (.v (kR 0)),.t 7 (.v .bool)] ir_Zbt (s,ctx,e,())
noncomputable def X_Zbt{R:Type}(nf kf:Nat):C->Env->(Xt->Env->Option R)->Option R:=xc (R:=R) (T_Zbt nf kf).S nf
noncomputable def j17_Zbn(nf kf:Nat)(ctx:List Typing)(s:Schema)(e:Tm)(r44:Ty×Bool)(x53_17:Bool):Option (Ty×Bool):=X_Zbn nf kf c17_Zbn ⟨[(1,.v (kL (kR 8)) ctx),(3,.pt [3] 0),(5,.pt [5] 0),(6,.pt [6] 0),(10,.pt [10] 0),(53,.v .bool x53_17)],[([3],.box [.v (kL (kR 4)) s.tables]),([5],.box [.v kI e.kind,.v kS e.name,.v kI e.n,.v kI e.type.kind,.v (kL kS) e.type.labels,.v (kL (kR 0)) e.type.args,.v (kL kS) e.labels,.v (kL (kR 2)) e.args]),([6],.box [.v kI (0:Int),.nl kS,.nl (kR 0)]),([10],.box [.v kI r44.1.kind,.v (kL kS) r44.1.labels,.v (kL (kR 0)) r44.1.args])]⟩ (qS (X_Zbn nf kf c22_Zbn) (KF [.c 6 (.v (kR 0)),.t 7 (.v .bool)]))
theorem j17_Zbn_eq(nf kf:Nat)(ctx:List Typing)(s:Schema)(e:Tm)(r44:Ty×Bool)(x53_17:Bool):j17_Zbn nf (kf+1) ctx s e r44 x53_17=(br x53_17 (some ((Ty.mk (0:Int) ([]:List Str) ([]:List Ty)),false)) (gg (0<=(0:Int)∧(0:Int)<(List.length r44.1.args:Int))<|cb (m_Zbu nf ctx e.name (gt r44.1.args (0:Int) Ty.zero)) fun r64=>gg (0<=(1:Int)∧(1:Int)<(List.length e.args:Int))<|cb (m_Zbt nf kf s r64 (gt e.args (1:Int) Tm.zero)) fun r69=>br (r69.2==true) (some ((Ty.h r69.1),(r69.1.kind==(4:Int)))) (some ((Ty.h r69.1),false)))):=by kernel_rfl
theorem m_Zbn_eq(nf kf:Nat)(s:Schema)(ctx:List Typing)(e:Tm):m_Zbn nf (kf+1) s ctx e=(br (e.kind==(13:Int)) (cb (m_Zbu nf ctx e.name (Ty.h e.type)) fun r24=>gg (0<=(0:Int)∧(0:Int)<(List.length e.args:Int))<|cb (m_Zbt nf kf s r24 (gt e.args (0:Int) Tm.zero)) fun r29=>cb (m_ZbI nf (Ty.h e.type) (Ty.h r29.1)) fun r35=>some ((Ty.h r35),r29.2)) (gg (0<=(0:Int)∧(0:Int)<(List.length e.args:Int))<|cb (m_Zbt nf kf s ctx (gt e.args (0:Int) Tm.zero)) fun r44=>br ((!r44.2)==false) (mark (j17_Zbn nf (kf+1) ctx s e r44 (!(r44.1.kind==(4:Int))))) (mark (j17_Zbn nf (kf+1) ctx s e r44 true)))):=by
 unfold m_Zbn j17_Zbn ir_Zbn w17_Zbn c22_Zbn
 generalize c17_Zbn=x0
 revert x0
 refine id ?_
 intro x0
 kernel_rfl
noncomputable def j5_Zbs(nf kf:Nat)(ctx:List Typing)(s:Schema)(e:Tm)(x25_5:Bool):Option (Ty×Bool):=X_Zbs nf kf c5_Zbs ⟨[(1,.v (kL (kR 8)) ctx),(3,.pt [3] 0),(5,.pt [5] 0),(6,.pt [6] 0),(25,.v .bool x25_5)],[([3],.box [.v (kL (kR 4)) s.tables]),([5],.box [.v kI e.kind,.v kS e.name,.v kI e.n,.v kI e.type.kind,.v (kL kS) e.type.labels,.v (kL (kR 0)) e.type.args,.v (kL kS) e.labels,.v (kL (kR 2)) e.args]),([6],.box [.v kI (0:Int),.nl kS,.nl (kR 0)])]⟩ (qS (X_Zbs nf kf c12_Zbs) (KF [.c 6 (.v (kR 0)),.t 7 (.v .bool)]))
noncomputable def l28_Zbs(nf kf:Nat)(m28:Nat)(ctx:List Typing)(s:Schema)(e:Tm)(x13_28:Int)(y12_28:List Ty):Option (Ty×Bool):=xit [1,3,5,6,12,13] [[3],[5],[6],[12]] (X_Zbs nf kf c29_Zbs) (qB 0 (qS (X_Zbs nf kf w49_Zbs) (KF [.c 6 (.v (kR 0)),.t 7 (.v .bool)]))) m28 ⟨[(1,.v (kL (kR 8)) ctx),(3,.pt [3] 0),(5,.pt [5] 0),(6,.pt [6] 0),(12,.sl [12]),(13,.v kI x13_28)],[([3],.box [.v (kL (kR 4)) s.tables]),([5],.box [.v kI e.kind,.v kS e.name,.v kI e.n,.v kI e.type.kind,.v (kL kS) e.type.labels,.v (kL (kR 0)) e.type.args,.v (kL kS) e.labels,.v (kL (kR 2)) e.args]),([6],.box [.v kI (0:Int),.nl kS,.nl (kR 0)]),([12],.row false false (kR 0) y12_28)]⟩
noncomputable def j49_Zbs(nf kf:Nat)(e:Tm)(y12_28:List Ty):Option (Ty×Bool):=X_Zbs nf kf c49_Zbs ⟨[(5,.pt [5] 0),(6,.pt [6] 0),(12,.sl [12])],[([5],.box [.v kI e.kind,.v kS e.name,.v kI e.n,.v kI e.type.kind,.v (kL kS) e.type.labels,.v (kL (kR 0)) e.type.args,.v (kL kS) e.labels,.v (kL (kR 2)) e.args]),([6],.box [.v kI (0:Int),.nl kS,.nl (kR 0)]),([12],.row false false (kR 0) y12_28)]⟩ (KF [.c 6 (.v (kR 0)),.t 7 (.v .bool)])
theorem j5_Zbs_eq(nf kf:Nat)(ctx:List Typing)(s:Schema)(e:Tm)(x25_5:Bool):j5_Zbs nf (kf+1) ctx s e x25_5=(br x25_5 (cb (m_Zbn nf kf s ctx (Tm.h e)) fun r30=>some ((Ty.h r30.1),r30.2)) (br ((List.length e.args:Int)==(0:Int)) (cb (m_Zbp nf s ctx (Tm.h e)) fun r43=>some ((Ty.h r43.1),r43.2)) (mark (l28_Zbs nf (kf+1) nf ctx s e (0:Int) ([]:List Ty))))):=by
 unfold j5_Zbs l28_Zbs c5_Zbs c12_Zbs w49_Zbs
 generalize c49_Zbs=x0
 revert x0
 refine id ?_
 intro x0
 kernel_rfl
theorem l28_Zbs_eq(nf kf:Nat)(m28:Nat)(ctx:List Typing)(s:Schema)(e:Tm)(x13_28:Int)(y12_28:List Ty):l28_Zbs nf (kf+1) (m28+1) ctx s e x13_28 y12_28=(br (decide (x13_28<(List.length e.args:Int))) (gg (0<=x13_28∧x13_28<(List.length e.args:Int))<|cb (m_Zbt nf kf s ctx (gt e.args x13_28 Tm.zero)) fun r64=>br (!r64.2) (some ((Ty.mk (0:Int) ([]:List Str) ([]:List Ty)),false)) (gg (List.length y12_28+List.length ([(Ty.h r64.1)]:List Ty)<=33554432)<|mark (l28_Zbs nf (kf+1) m28 ctx s e (w64 (x13_28+(1:Int))) (y12_28++([(Ty.h r64.1)]:List Ty))))) (mark (j49_Zbs nf (kf+1) e y12_28))):=by
 unfold l28_Zbs j49_Zbs c29_Zbs w49_Zbs
 generalize c49_Zbs=x0
 revert x0
 refine id ?_
 intro x0
 kernel_rfl
theorem j49_Zbs_eq(nf kf:Nat)(e:Tm)(y12_28:List Ty):j49_Zbs nf (kf+1) e y12_28=(cb (m_Zbo nf (Tm.h e) y12_28) fun r77=>some ((Ty.h r77.1),r77.2)):=by kernel_rfl
theorem m_Zbs_eq(nf kf:Nat)(s:Schema)(ctx:List Typing)(e:Tm):m_Zbs nf (kf+1) s ctx e=(br ((e.kind==(13:Int))==false) (mark (j5_Zbs nf (kf+1) ctx s e (e.kind==(10:Int)))) (mark (j5_Zbs nf (kf+1) ctx s e true))):=by
 unfold m_Zbs j5_Zbs ir_Zbs w5_Zbs c12_Zbs w49_Zbs
 generalize c5_Zbs=x0
 generalize c49_Zbs=x1
 revert x0 x1
 refine id ?_
 intro x0 x1
 kernel_rfl
noncomputable def j7_Zbt(nf kf:Nat)(r14:Ty×Bool)(x23_7:Bool):Option (Ty×Bool):=X_Zbt nf kf c7_Zbt ⟨[(6,.pt [6] 0),(8,.pt [8] 0),(23,.v .bool x23_7)],[([6],.box [.v kI (0:Int),.nl kS,.nl (kR 0)]),([8],.box [.v kI r14.1.kind,.v (kL kS) r14.1.labels,.v (kL (kR 0)) r14.1.args])]⟩ (qS (X_Zbt nf kf c12_Zbt) (KF [.c 6 (.v (kR 0)),.t 7 (.v .bool)]))
theorem j7_Zbt_eq(nf kf:Nat)(r14:Ty×Bool)(x23_7:Bool):j7_Zbt nf (kf+1) r14 x23_7=(br x23_7 (some ((Ty.mk (0:Int) ([]:List Str) ([]:List Ty)),false)) (some ((Ty.h r14.1),true))):=by kernel_rfl
theorem m_Zbt_eq(nf kf:Nat)(s:Schema)(ctx:List Typing)(e:Tm):m_Zbt nf (kf+1) s ctx e=(cb (m_Zbs nf kf s ctx (Tm.h e)) fun r14=>br ((!r14.2)==false) (cb (m_Zbi nf (Ty.h r14.1)) fun r21=>mark (j7_Zbt nf (kf+1) r14 (!r21))) (mark (j7_Zbt nf (kf+1) r14 true))):=by
 unfold m_Zbt j7_Zbt ir_Zbt w7_Zbt c12_Zbt
 generalize c7_Zbt=x0
 revert x0
 refine id ?_
 intro x0
 kernel_rfl
noncomputable def e_Zbt(nf:Nat):XE:=eF 134 [.v (kR 5),.v (kL (kR 8)),.v (kR 2)] [.v (kR 0),.v .bool] (fun t=>m_Zbt nf nf t.1 t.2.1 t.2.2.1)
theorem gok_Zbn(nf:Nat):∀kf:Nat,XT.ok Tryz.prog (G_Zbn nf kf++B_Zbn nf)
 |0=>by exact⟨o_Zbu nf,o_ZbI nf,o_Zbp nf,o_Zbo nf,o_Zbi nf,trivial⟩
 |kf+1=>by
  have ih:=gok_Zbn nf kf
  refine⟨?_,?_,?_,(by exact⟨o_Zbu nf,o_ZbI nf,o_Zbp nf,o_Zbo nf,o_Zbi nf,trivial⟩)⟩
  ·refine eF_ok fun t x h=> ?_
   obtain⟨s,ctx,e,_⟩:=t
   exact runF_ok (N:=79) ih Tryz.func175 (by kernel_rfl) rfl h
  ·refine eF_ok fun t x h=> ?_
   obtain⟨s,ctx,e,_⟩:=t
   exact runF_ok (N:=82) ih Tryz.func160 (by kernel_rfl) rfl h
  ·refine eF_ok fun t x h=> ?_
   obtain⟨s,ctx,e,_⟩:=t
   exact runF_ok (N:=26) ih Tryz.func134 (by kernel_rfl) rfl h
theorem o_Zbt(nf:Nat):conOK Tryz.prog 134 (e_Zbt nf).con:=by
 have ih:=gok_Zbn nf nf
 refine eF_ok fun t x h=> ?_
 obtain⟨s,ctx,e,_⟩:=t
 exact runF_ok (N:=26) ih Tryz.func134 (by kernel_rfl) rfl h
end Go.Q
