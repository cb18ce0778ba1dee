/- Flat queries: the reference's side. -/
import Derived.Test.YtmkelbchboiliaaGreatB20
import Derived.Test.YtmkelbchboiliaaGreatProg
import Derived.KernelRfl
set_option linter.unusedVariables false
set_option linter.unusedSimpArgs false
namespace Go.Q
open Go.Proofs
set_option maxRecDepth 20000
set_option maxHeartbeats 4000000
def ir_Zby:C:=.sq (.rg [.mv 4 (.nl kS)]) (.sq (.rg [.bs 5 true kS [],.mv 6 T0,.an 7 true kS T5 T6,.mv 8 T1,.bs 9 true kS [T8],.ap 10 [4] true kS T7 T9,.mv 4 T10]) .rt)
noncomputable abbrev T_Zby(nf:Nat):XT:=[]
noncomputable def m_Zby(nf:Nat)(path:List Str)(step:Str):Option (List Str):=runF (T_Zby nf) nf [.v (kL kS),.v kS] [.t 4 (.o (kL kS))] ir_Zby (path,step,())
theorem m_Zby_eq(nf:Nat)(path:List Str)(step:Str):m_Zby nf path step=(gg (List.length path<=33554432)<|gg (List.length path+List.length ([step]:List Str)<=33554432)<|some (path++([step]:List Str))):=by kernel_rfl
noncomputable def e_Zby(nf:Nat):XE:=eF 157 [.v (kL kS),.v kS] [.o (kL kS)] (fun t=>m_Zby nf t.1 t.2.1)
theorem o_Zby(nf:Nat):conOK Tryz.prog 157 (e_Zby nf).con:=by
 have ih:XT.ok Tryz.prog (T_Zby nf):=by exact trivial
 refine eF_ok fun t x h=> ?_
 obtain⟨path,step,_⟩:=t
 exact runF_ok (N:=11) ih Tryz.func157 (by kernel_rfl) rfl h
def c27_Zbx:C:=.sq (.rg [.mv 39 T5,.mv 4 T39]) .rt
def c17_Zbx:C:=.sq (.sq (.rg [.mv 17 T6,.fa 18 T2 0 2 2,.ld 19 T18 (kL (kR 0)),.ln 20 false T19,.bi 21 .lss T17 T20]) (.cd T21 .skip (.ex 0))) (.sq (.bk 1 (.gt 5 true (kL kS) (.dr [37] [.mv 24 T5,.fa 25 T2 0 2 2,.ld 26 T25 (kL (kR 0)),.mv 27 T6,.ia 28 T26 T27 (kR 0),.ld 29 T28 (kR 0),.mv 30 T1,.fa 31 T2 0 1 1,.ld 32 T31 (kL kS),.mv 33 T6,.ia 34 T32 T33 kS,.ld 35 T34 kS,.cv (some 36) 157 [(T30,.v (kL kS)),(T35,.v kS)],.ca (some 37) 131 [(T29,.v (kR 0)),(T36,.v (kL kS))]] [.ap 38 [5] true (kL kS) T24 T37,.mv 5 T38]))) (.rg [.mv 22 T6,.bi 23 .add T22 (.i 1),.mv 6 T23]))
def ir_Zbx:C:=.sq (.rg [.bx 2 T0 (kR 0),.mv 4 (.nl (kL kS))]) (.sq (.rg [.bs 7 true (kL kS) [],.mv 5 T7]) (.sq (.sq (.rg [.fa 8 T2 0 0 0,.ld 9 T8 kI,.bi 10 .neq T9 (.i 3)]) (.cd T10 (.sq (.gt 5 true (kL kS) (.rg [.mv 11 T5,.bs 12 true kS [],.mv 13 T1,.an 14 true kS T12 T13,.bl 15 (kL kS) [T14],.apl 16 [4] (kL kS) T11 15,.mv 4 T16])) .rt) .skip)) (.sq (.sq (.rg [.mv 6 (.i 0)]) (.bk 0 (.gt 5 true (kL kS) (.lk [1,2,5,6] [[2],[5]] c17_Zbx)))) c27_Zbx)))
noncomputable def B_Zbx(nf:Nat):XT:=[e_Zby nf]
noncomputable def G_Zbx(nf:Nat):Nat->XT
 |0=>[]
 |kf+1=>[eF 131 [.v (kR 0),.v (kL kS)] [.o (kL (kL kS))] (fun t=>(fun(t:Ty) (path:List Str)=>runF (G_Zbx nf kf++B_Zbx nf) nf [.v (kR 0),.v (kL kS)] [.t 4 (.o (kL (kL kS)))] ir_Zbx (t,path,())) t.1 t.2.1)]
noncomputable abbrev T_Zbx(nf kf:Nat):XT:=G_Zbx nf kf++B_Zbx nf
noncomputable def m_Zbx(nf kf:Nat)(t:Ty)(path:List Str):Option (List (List Str)):=runF (T_Zbx nf kf) nf [.v (kR 0),.v (kL kS)] [.t 4 (.o (kL (kL kS)))] ir_Zbx (t,path,())
noncomputable def X_Zbx{R:Type}(nf kf:Nat):C->Env->(Xt->Env->Option R)->Option R:=xc (R:=R) (T_Zbx nf kf).S nf
noncomputable def l16_Zbx(nf kf:Nat)(m16:Nat)(path:List Str)(t:Ty)(x6_16:Int)(y5_16:List (List Str)):Option (List (List Str)):=xit [1,2,5,6] [[2],[5]] (X_Zbx nf kf c17_Zbx) (qB 0 (qS (X_Zbx nf kf c27_Zbx) (KF [.t 4 (.o (kL (kL kS)))]))) m16 ⟨[(1,.v (kL kS) path),(2,.pt [2] 0),(5,.sl [5]),(6,.v kI x6_16)],[([2],.box [.v kI t.kind,.v (kL kS) t.labels,.v (kL (kR 0)) t.args]),([5],.row true false (kL kS) y5_16)]⟩
theorem l16_Zbx_eq(nf kf:Nat)(m16:Nat)(path:List Str)(t:Ty)(x6_16:Int)(y5_16:List (List Str)):l16_Zbx nf (kf+1) (m16+1) path t x6_16 y5_16=(br (decide (x6_16<(List.length t.args:Int))) (gg (0<=x6_16∧x6_16<(List.length t.args:Int))<|gg (0<=x6_16∧x6_16<(List.length t.labels:Int))<|cb (m_Zby nf path (gt t.labels x6_16 ([]:Str))) fun r36=>cb (m_Zbx nf kf (gt t.args x6_16 Ty.zero) r36) fun r37=>gg (List.length y5_16+List.length r37<=33554432)<|mark (l16_Zbx nf (kf+1) m16 path t (w64 (x6_16+(1:Int))) (y5_16++r37))) (some y5_16)):=by kernel_rfl
theorem m_Zbx_eq(nf kf:Nat)(t:Ty)(path:List Str):m_Zbx nf (kf+1) t path=(br (!(t.kind==(3:Int))) (gg (List.length path<=33554432)<|gg (List.length ([]:List (List Str))+List.length ([path]:List (List Str))<=33554432)<|some (([]:List (List Str))++([path]:List (List Str)))) (mark (l16_Zbx nf (kf+1) nf path t (0:Int) ([]:List (List Str))))):=by kernel_rfl
noncomputable def e_Zbx(nf:Nat):XE:=eF 131 [.v (kR 0),.v (kL kS)] [.o (kL (kL kS))] (fun t=>m_Zbx nf nf t.1 t.2.1)
theorem gok_Zbx(nf:Nat):∀kf:Nat,XT.ok Tryz.prog (G_Zbx nf kf++B_Zbx nf)
 |0=>by exact⟨o_Zby nf,trivial⟩
 |kf+1=>by
  have ih:=gok_Zbx nf kf
  refine⟨?_,(by exact⟨o_Zby nf,trivial⟩)⟩
  ·refine eF_ok fun t x h=> ?_
   obtain⟨t,path,_⟩:=t
   exact runF_ok (N:=40) ih Tryz.func131 (by kernel_rfl) rfl h
theorem o_Zbx(nf:Nat):conOK Tryz.prog 131 (e_Zbx nf).con:=by
 have ih:=gok_Zbx nf nf
 refine eF_ok fun t x h=> ?_
 obtain⟨t,path,_⟩:=t
 exact runF_ok (N:=40) ih Tryz.func131 (by kernel_rfl) rfl h
def ir_Zbj:C:=.sq (.rg [.bx 1 T0 (kR 0),.mv 2 (.nl (kL kS))]) (.sq (.sq (.rg [.ld 3 T1 (kR 0),.cv (some 4) 51 [(T3,.v (kR 0))],.un 5 .not T4]) (.cd T5 (.sq (.rg [.bs 6 true (kL kS) [],.mv 2 T6]) .rt) .skip)) (.sq (.rg [.ld 7 T1 (kR 0),.bs 8 true kS [],.ca (some 9) 131 [(T7,.v (kR 0)),(T8,.v (kL kS))],.mv 2 T9]) .rt))
noncomputable abbrev T_Zbj(nf:Nat):XT:=[e_Zbd nf,e_Zbx nf]
noncomputable def m_Zbj(nf:Nat)(t:Ty):Option (List (List Str)):=runF (T_Zbj nf) nf [.v (kR 0)] [.t 2 (.o (kL (kL kS)))] ir_Zbj (t,())
theorem m_Zbj_eq(nf:Nat)(t:Ty):m_Zbj nf t=(cb (m_Zbd nf (Ty.h t)) fun r4=>br (!r4) (some ([]:List (List Str))) (cb (m_Zbx nf nf (Ty.h t) ([]:List Str)) fun r9=>some r9)):=by kernel_rfl
noncomputable def e_Zbj(nf:Nat):XE:=eF 91 [.v (kR 0)] [.o (kL (kL kS))] (fun t=>m_Zbj nf t.1)
theorem o_Zbj(nf:Nat):conOK Tryz.prog 91 (e_Zbj nf).con:=by
 have ih:XT.ok Tryz.prog (T_Zbj nf):=by exact⟨o_Zbd nf,o_Zbx nf,trivial⟩
 refine eF_ok fun t x h=> ?_
 obtain⟨t,_⟩:=t
 exact runF_ok (N:=10) ih Tryz.func91 (by kernel_rfl) rfl h
def c38_Zbm:C:=.sq (.rg [.ld 54 T2 (kR 0),.cv (some 55) 89 [(T54,.v (kR 0))],.st T4 T55 (kR 0),.mv 5 (.b true)]) .rt
def w38_Zbm:C:=.kp [2,4] [[2],[4]] c38_Zbm
def c37_Zbm:C:=.rg [.mv 16 T6,.bi 17 .add T16 (.i 1),.mv 6 T17]
def c32_Zbm:C:=.cd T41 (.rg [.fa 49 T2 0 2 2,.ld 50 T49 (kL (kR 0)),.mv 51 T7,.ia 52 T50 T51 (kR 0),.ld 53 T52 (kR 0),.st T2 T53 (kR 0)]) (.sq (.rg [.bd 25 0 [],.st T4 T25 (kR 0),.mv 5 (.b false)]) .rt)
def w32_Zbm:C:=.kp [1,2,4,6,7,41] [[2],[4]] c32_Zbm
def c28_Zbm:C:=.cd T26 (.rg [.fa 37 T2 0 2 2,.ld 38 T37 (kL (kR 0)),.ia 39 T38 (.i 0) (kR 0),.ld 40 T39 (kR 0),.st T2 T40 (kR 0)]) (.sq (.rg [.fa 42 T2 0 0 0,.ld 43 T42 kI,.bi 44 .eql T43 (.i 3),.mv 45 T44,.g 45 true (.mv 46 T7),.g 45 true (.bi 47 .geq T46 (.i 0)),.pk 48 T45 T47 (.b false),.mv 41 T48]) w32_Zbm)
def w28_Zbm:C:=.kp [1,2,4,6,7,26] [[2],[4]] c28_Zbm
def c15_Zbm:C:=.sq (.sq (.rg [.mv 12 T6,.mv 13 T1,.ln 14 false T13,.bi 15 .lss T12 T14]) (.cd T15 .skip (.ex 0))) (.sq (.bk 1 (.sq (.dr [] [.fa 18 T2 0 1 1,.ld 19 T18 (kL kS),.mv 20 T1,.mv 21 T6,.ia 22 T20 T21 kS,.ld 23 T22 kS] [.cv (some 24) 88 [(T19,.v (kL kS)),(T23,.v kS)],.mv 7 T24]) (.bk 2 (.sq (.rg [.fa 27 T2 0 0 0,.ld 28 T27 kI,.bi 29 .eql T28 (.i 4),.mv 30 T29,.g 30 true (.mv 31 T1),.g 30 true (.mv 32 T6),.g 30 true (.ia 33 T31 T32 kS),.g 30 true (.ld 34 T33 kS),.g 30 true (.bi 35 .eql T34 (.s [33])),.pk 36 T30 T35 (.b false),.mv 26 T36]) w28_Zbm)))) c37_Zbm)
def ir_Zbm:C:=.sq (.rg [.bx 2 T0 (kR 0),.al 4 (kR 0),.mv 5 (.b false)]) (.sq (.sq (.rg [.ld 8 T2 (kR 0),.cv (some 9) 87 [(T8,.v (kR 0))],.un 10 .not T9]) (.cd T10 (.sq (.rg [.bd 11 0 [],.st T4 T11 (kR 0),.mv 5 (.b false)]) .rt) .skip)) (.sq (.sq (.rg [.mv 6 (.i 0)]) (.bk 0 (.lk [1,2,4,6] [[2],[4]] c15_Zbm))) w38_Zbm))
noncomputable abbrev T_Zbm(nf:Nat):XT:=[e_Zbi nf,e_Zbb nf,e_ZbG nf]
noncomputable def m_Zbm(nf:Nat)(t:Ty)(path:List Str):Option (Ty×Bool):=runF (T_Zbm nf) nf [.v (kR 0),.v (kL kS)] [.c 4 (.v (kR 0)),.t 5 (.v .bool)] ir_Zbm (t,path,())
noncomputable def X_Zbm{R:Type}(nf:Nat):C->Env->(Xt->Env->Option R)->Option R:=xc (R:=R) (T_Zbm nf).S nf
noncomputable def j32_Zbm(nf:Nat)(m14:Nat)(path:List Str)(x6_14:Int)(r24:Int)(y2_14_0:Int)(y2_14_1:List Str)(y2_14_2:List Ty)(x41_32:Bool):Option (Ty×Bool):=X_Zbm nf c32_Zbm ⟨[(1,.v (kL kS) path),(2,.pt [2] 0),(4,.pt [4] 0),(6,.v kI x6_14),(7,.v kI r24),(41,.v .bool x41_32)],[([2],.box [.v kI y2_14_0,.v (kL kS) y2_14_1,.v (kL (kR 0)) y2_14_2]),([4],.box [.v kI (0:Int),.nl kS,.nl (kR 0)])]⟩ (qB 2 (qB 1 (qS (X_Zbm nf c37_Zbm) (qM [1,2,4,6] [[2],[4]] (X_Zbm nf c15_Zbm) m14 (qB 0 (qS (X_Zbm nf w38_Zbm) (KF [.c 4 (.v (kR 0)),.t 5 (.v .bool)])))))))
noncomputable def j28_Zbm(nf:Nat)(m14:Nat)(path:List Str)(x6_14:Int)(r24:Int)(y2_14_0:Int)(y2_14_1:List Str)(y2_14_2:List Ty)(x26_28:Bool):Option (Ty×Bool):=X_Zbm nf c28_Zbm ⟨[(1,.v (kL kS) path),(2,.pt [2] 0),(4,.pt [4] 0),(6,.v kI x6_14),(7,.v kI r24),(26,.v .bool x26_28)],[([2],.box [.v kI y2_14_0,.v (kL kS) y2_14_1,.v (kL (kR 0)) y2_14_2]),([4],.box [.v kI (0:Int),.nl kS,.nl (kR 0)])]⟩ (qB 2 (qB 1 (qS (X_Zbm nf c37_Zbm) (qM [1,2,4,6] [[2],[4]] (X_Zbm nf c15_Zbm) m14 (qB 0 (qS (X_Zbm nf w38_Zbm) (KF [.c 4 (.v (kR 0)),.t 5 (.v .bool)])))))))
noncomputable def l14_Zbm(nf:Nat)(m14:Nat)(path:List Str)(x6_14:Int)(y2_14_0:Int)(y2_14_1:List Str)(y2_14_2:List Ty):Option (Ty×Bool):=xit [1,2,4,6] [[2],[4]] (X_Zbm nf c15_Zbm) (qB 0 (qS (X_Zbm nf w38_Zbm) (KF [.c 4 (.v (kR 0)),.t 5 (.v .bool)]))) m14 ⟨[(1,.v (kL kS) path),(2,.pt [2] 0),(4,.pt [4] 0),(6,.v kI x6_14)],[([2],.box [.v kI y2_14_0,.v (kL kS) y2_14_1,.v (kL (kR 0)) y2_14_2]),([4],.box [.v kI (0:Int),.nl kS,.nl (kR 0)])]⟩
noncomputable def j38_Zbm(nf:Nat)(y2_14_0:Int)(y2_14_1:List Str)(y2_14_2:List Ty):Option (Ty×Bool):=X_Zbm nf c38_Zbm ⟨[(2,.pt [2] 0),(4,.pt [4] 0)],[([2],.box [.v kI y2_14_0,.v (kL kS) y2_14_1,.v (kL (kR 0)) y2_14_2]),([4],.box [.v kI (0:Int),.nl kS,.nl (kR 0)])]⟩ (KF [.c 4 (.v (kR 0)),.t 5 (.v .bool)])
theorem j32_Zbm_eq(nf:Nat)(m14:Nat)(path:List Str)(x6_14:Int)(r24:Int)(y2_14_0:Int)(y2_14_1:List Str)(y2_14_2:List Ty)(x41_32:Bool):j32_Zbm nf m14 path x6_14 r24 y2_14_0 y2_14_1 y2_14_2 x41_32=(br x41_32 (gg (0<=r24∧r24<(List.length y2_14_2:Int))<|mark (l14_Zbm nf m14 path (w64 (x6_14+(1:Int))) ((gt y2_14_2 r24 Ty.zero).kind) ((gt y2_14_2 r24 Ty.zero).labels) ((gt y2_14_2 r24 Ty.zero).args))) (some ((Ty.mk (0:Int) ([]:List Str) ([]:List Ty)),false))):=by
 unfold j32_Zbm l14_Zbm c32_Zbm w38_Zbm c37_Zbm
 generalize c38_Zbm=x0
 revert x0
 refine id ?_
 intro x0
 kernel_rfl
theorem j28_Zbm_eq(nf:Nat)(m14:Nat)(path:List Str)(x6_14:Int)(r24:Int)(y2_14_0:Int)(y2_14_1:List Str)(y2_14_2:List Ty)(x26_28:Bool):j28_Zbm nf m14 path x6_14 r24 y2_14_0 y2_14_1 y2_14_2 x26_28=(br x26_28 (gg (0<=(0:Int)∧(0:Int)<(List.length y2_14_2:Int))<|mark (l14_Zbm nf m14 path (w64 (x6_14+(1:Int))) ((gt y2_14_2 (0:Int) Ty.zero).kind) ((gt y2_14_2 (0:Int) Ty.zero).labels) ((gt y2_14_2 (0:Int) Ty.zero).args))) (br ((y2_14_0==(3:Int))==true) (mark (j32_Zbm nf m14 path x6_14 r24 y2_14_0 y2_14_1 y2_14_2 (decide ((0:Int)<=r24)))) (mark (j32_Zbm nf m14 path x6_14 r24 y2_14_0 y2_14_1 y2_14_2 false)))):=by
 unfold j28_Zbm l14_Zbm j32_Zbm c28_Zbm w38_Zbm c37_Zbm w32_Zbm
 generalize c38_Zbm=x0
 generalize c32_Zbm=x1
 revert x0 x1
 refine id ?_
 intro x0 x1
 kernel_rfl
theorem l14_Zbm_eq(nf:Nat)(m14:Nat)(path:List Str)(x6_14:Int)(y2_14_0:Int)(y2_14_1:List Str)(y2_14_2:List Ty):l14_Zbm nf (m14+1) path x6_14 y2_14_0 y2_14_1 y2_14_2=(br (decide (x6_14<(List.length path:Int))) (gg (0<=x6_14∧x6_14<(List.length path:Int))<|cb (m_Zbb nf y2_14_1 (gt path x6_14 ([]:Str))) fun r24=>br ((y2_14_0==(4:Int))==true) (gg (0<=x6_14∧x6_14<(List.length path:Int))<|mark (j28_Zbm nf m14 path x6_14 r24 y2_14_0 y2_14_1 y2_14_2 ((gt path x6_14 ([]:Str))==([33]:Str)))) (mark (j28_Zbm nf m14 path x6_14 r24 y2_14_0 y2_14_1 y2_14_2 false))) (mark (j38_Zbm nf y2_14_0 y2_14_1 y2_14_2))):=by
 unfold l14_Zbm j28_Zbm j38_Zbm c15_Zbm w38_Zbm w28_Zbm c37_Zbm
 generalize c38_Zbm=x0
 generalize c28_Zbm=x1
 revert x0 x1
 refine id ?_
 intro x0 x1
 kernel_rfl
theorem j38_Zbm_eq(nf:Nat)(y2_14_0:Int)(y2_14_1:List Str)(y2_14_2:List Ty):j38_Zbm nf y2_14_0 y2_14_1 y2_14_2=(cb (m_ZbG nf nf (Ty.mk y2_14_0 y2_14_1 y2_14_2)) fun r55=>some ((Ty.h r55),true)):=by kernel_rfl
theorem m_Zbm_eq(nf:Nat)(t:Ty)(path:List Str):m_Zbm nf t path=(cb (m_Zbi nf (Ty.h t)) fun r9=>br (!r9) (some ((Ty.mk (0:Int) ([]:List Str) ([]:List Ty)),false)) (mark (l14_Zbm nf nf path (0:Int) t.kind t.labels t.args))):=by
 unfold m_Zbm l14_Zbm ir_Zbm w38_Zbm
 generalize c38_Zbm=x0
 revert x0
 refine id ?_
 intro x0
 kernel_rfl
noncomputable def e_Zbm(nf:Nat):XE:=eF 50 [.v (kR 0),.v (kL kS)] [.v (kR 0),.v .bool] (fun t=>m_Zbm nf t.1 t.2.1)
theorem o_Zbm(nf:Nat):conOK Tryz.prog 50 (e_Zbm nf).con:=by
 have ih:XT.ok Tryz.prog (T_Zbm nf):=by exact⟨o_Zbi nf,o_Zbb nf,o_ZbG nf,trivial⟩
 refine eF_ok fun t x h=> ?_
 obtain⟨t,path,_⟩:=t
 exact runF_ok (N:=56) ih Tryz.func50 (by kernel_rfl) rfl h
def ir_Zbz:C:=.sq (.rg [.bx 4 T0 (kR 5),.bx 6 T2 (kR 2),.bx 7 T3 (kR 0),.mv 8 (.b false)]) (.sq (.sq (.rg [.fa 9 T7 0 0 0,.ld 10 T9 kI,.bi 11 .eql T10 (.i 4)]) (.cd T11 (.sq (.rg [.ld 12 T6 (kR 2),.cv (some 13) 114 [(T12,.v (kR 2))],.mv 8 T13]) .rt) .skip)) (.sq (.rg [.ld 14 T4 (kR 5),.mv 15 T1,.ld 16 T6 (kR 2),.ld 17 T7 (kR 0),.cv (some 18) 93 [(T14,.v (kR 5)),(T15,.v (kL (kR 8))),(T16,.v (kR 2)),(T17,.v (kR 0))],.mv 8 T18]) .rt))
noncomputable abbrev T_Zbz(nf:Nat):XT:=[e_Zbw nf,e_Zbv nf]
noncomputable def m_Zbz(nf:Nat)(s:Schema)(ctx:List Typing)(e:Tm)(t:Ty):Option (Bool):=runF (T_Zbz nf) nf [.v (kR 5),.v (kL (kR 8)),.v (kR 2),.v (kR 0)] [.t 8 (.v .bool)] ir_Zbz (s,ctx,e,t,())
theorem m_Zbz_eq(nf:Nat)(s:Schema)(ctx:List Typing)(e:Tm)(t:Ty):m_Zbz nf s ctx e t=(br (t.kind==(4:Int)) (cb (m_Zbw nf (Tm.h e)) fun r13=>some r13) (cb (m_Zbv nf s ctx (Tm.h e) (Ty.h t)) fun r18=>some r18)):=by kernel_rfl
noncomputable def e_Zbz(nf:Nat):XE:=eF 95 [.v (kR 5),.v (kL (kR 8)),.v (kR 2),.v (kR 0)] [.v .bool] (fun t=>m_Zbz nf t.1 t.2.1 t.2.2.1 t.2.2.2.1)
theorem o_Zbz(nf:Nat):conOK Tryz.prog 95 (e_Zbz nf).con:=by
 have ih:XT.ok Tryz.prog (T_Zbz nf):=by exact⟨o_Zbw nf,o_Zbv nf,trivial⟩
 refine eF_ok fun t x h=> ?_
 obtain⟨s,ctx,e,t,_⟩:=t
 exact runF_ok (N:=19) ih Tryz.func95 (by kernel_rfl) rfl h
def c64_ZbA:C:=.sq (.rg [.mv 6 (.b true)]) .rt
def c46_ZbA:C:=.sq (.sq (.rg [.mv 109 T14,.mv 110 T13,.ln 111 false T110,.bi 112 .lss T109 T111]) (.cd T112 .skip (.ex 2))) (.sq (.bk 3 (.sq (.dw [121,15] [115] [.ld 116 T5 (kR 0),.mv 117 T13,.mv 118 T14,.ia 119 T117 T118 (kL kS),.ld 120 T119 (kL kS),.ca (some 121) 50 [(T116,.v (kR 0)),(T120,.v (kL kS))],.mv 115 T121,.xt 122 T115 0,.xt 123 T115 1,.al 15 (kR 0)] 15 T122 (kR 0) [.mv 16 T123]) (.sq (.dr [] [.ld 124 T3 (kR 5),.mv 125 T7,.fa 126 T4 12 5 12,.ld 127 T126 (kL (kR 2)),.mv 128 T14,.ia 129 T127 T128 (kR 2),.ld 130 T129 (kR 2),.ld 131 T15 (kR 0)] [.cv (some 132) 95 [(T124,.v (kR 5)),(T125,.v (kL (kR 8))),(T130,.v (kR 2)),(T131,.v (kR 0))],.un 133 .not T132]) (.cd T133 (.sq (.rg [.mv 6 (.b false)]) .rt) .skip)))) (.rg [.mv 113 T14,.bi 114 .add T113 (.i 1),.mv 14 T114]))
def c41_ZbA:C:=.sq (.sq (.rg [.mv 14 (.i 0)]) (.bk 2 (.lk [3,4,5,7,13,14] [[3],[4],[5]] c46_ZbA))) c64_ZbA
def c36_ZbA:C:=.cd T108 (.sq (.rg [.mv 6 (.b false)]) .rt) .skip
def w36_ZbA:C:=.kp [3,4,5,7,13,108] [[3],[4],[5]] c36_ZbA
def c31_ZbA:C:=.sq (.rg [.ld 71 T5 (kR 0),.cv (some 72) 91 [(T71,.v (kR 0))],.mv 13 T72]) (.sq (.sq (.dr [] [.fa 73 T4 12 0 0,.ld 74 T73 kI,.bi 75 .lss T74 (.i 0),.mv 76 T75,.g 76 false (.fa 77 T4 12 2 2),.g 76 false (.ld 78 T77 kI),.g 76 false (.fa 79 T4 12 0 0),.g 76 false (.ld 80 T79 kI),.g 76 false (.bi 81 .leq T78 T80),.pk 82 T76 (.b true) T81,.mv 83 T82,.g 83 false (.fa 84 T4 12 1 1),.g 83 false (.ld 85 T84 kI),.g 83 false (.fa 86 T4 12 3 3),.g 83 false (.ld 87 T86 (kL (kR 3))),.g 83 false (.ln 88 false T87),.g 83 false (.cv (some 89) 92 [(T85,.v kI),((.i 0),.v kI),(T88,.v kI)]),.g 83 false (.un 90 .not T89),.pk 91 T83 (.b true) T90,.mv 92 T91,.g 92 false (.ld 93 T3 (kR 5)),.g 92 false (.mv 94 T7),.g 92 false (.fa 95 T4 12 4 4),.g 92 false (.ld 96 T95 (kR 2)),.g 92 false (.cv (some 97) 94 []),.g 92 false (.cv (some 98) 93 [(T93,.v (kR 5)),(T94,.v (kL (kR 8))),(T96,.v (kR 2)),(T97,.v (kR 0))]),.g 92 false (.un 99 .not T98),.pk 100 T92 (.b true) T99,.mv 101 T100,.g 101 false (.fa 102 T4 12 5 12),.g 101 false (.ld 103 T102 (kL (kR 2))),.g 101 false (.ln 104 false T103),.g 101 false (.mv 105 T13),.g 101 false (.ln 106 false T105)] [.g 101 false (.bi 107 .neq T104 T106),.pk 108 T101 (.b true) T107]) w36_ZbA) c41_ZbA)
def w31_ZbA:C:=.kp [3,4,5,7] [[3],[4],[5]] c31_ZbA
def c30_ZbA:C:=.rg [.mv 23 T8,.bi 24 .add T23 (.i 1),.mv 8 T24]
def c29_ZbA:C:=.dr [] [.mv 62 T7,.fa 63 T4 12 3 3,.ld 64 T63 (kL (kR 3)),.mv 65 T8,.ia 66 T64 T65 (kR 3),.fa 67 T66 3 0 0,.ld 68 T67 kS,.ld 69 T9 (kR 0)] [.cv (some 70) 73 [(T62,.v (kL (kR 8))),(T68,.v kS),(T69,.v (kR 0))],.mv 7 T70]
def c24_ZbA:C:=.cd T61 (.sq (.rg [.mv 6 (.b false)]) .rt) .skip
def w24_ZbA:C:=.kp [3,4,5,7,8,9,61] [[3],[4],[5],[9]] c24_ZbA
def c9_ZbA:C:=.sq (.sq (.rg [.mv 18 T8,.fa 19 T4 12 3 3,.ld 20 T19 (kL (kR 3)),.ln 21 false T20,.bi 22 .lss T18 T21]) (.cd T22 .skip (.ex 0))) (.sq (.bk 1 (.sq (.dw [33,9] [25] [.ld 26 T3 (kR 5),.fa 27 T4 12 3 3,.ld 28 T27 (kL (kR 3)),.mv 29 T8,.ia 30 T28 T29 (kR 3),.fa 31 T30 3 1 1,.ld 32 T31 kS,.ca (some 33) 70 [(T26,.v (kR 5)),(T32,.v kS)],.mv 25 T33,.xt 34 T25 0,.xt 35 T25 1,.al 9 (kR 0)] 9 T34 (kR 0) [.mv 10 T35]) (.sq (.rg [.mv 37 T7,.fa 38 T4 12 3 3,.ld 39 T38 (kL (kR 3)),.mv 40 T8,.ia 41 T39 T40 (kR 3),.fa 42 T41 3 0 0,.ld 43 T42 kS,.ca (some 44) 71 [(T37,.v (kL (kR 8))),(T43,.v kS)],.mv 36 T44,.xt 45 T36 0,.xt 46 T36 1,.al 11 (kR 0),.st T11 T45 (kR 0),.mv 12 T46]) (.sq (.sq (.rg [.mv 47 T10,.un 48 .not T47,.mv 49 T48,.g 49 false (.mv 50 T12),.pk 51 T49 (.b true) T50,.mv 52 T51,.g 52 false (.fa 53 T4 12 3 3),.g 52 false (.ld 54 T53 (kL (kR 3))),.g 52 false (.mv 55 T8),.g 52 false (.ia 56 T54 T55 (kR 3)),.g 52 false (.fa 57 T56 3 0 0),.g 52 false (.ld 58 T57 kS),.g 52 false (.cv (some 59) 72 [(T58,.v kS)]),.g 52 false (.un 60 .not T59),.pk 61 T52 (.b true) T60]) w24_ZbA) c29_ZbA)))) c30_ZbA)
def ir_ZbA:C:=.sq (.rg [.bx 3 T0 (kR 5),.bx 4 T1 (kR 12),.bx 5 T2 (kR 0),.mv 6 (.b false)]) (.sq (.rg [.bs 17 false (kR 8) [],.mv 7 T17]) (.sq (.sq (.rg [.mv 8 (.i 0)]) (.bk 0 (.pz 7 (kL (kR 8)) (.lk [3,4,5,7,8] [[3],[4],[5]] c9_ZbA)))) w31_ZbA))
noncomputable abbrev T_ZbA(nf:Nat):XT:=[e_Zbl nf,e_Zbq nf,e_Zbf nf,e_Zbu nf,e_Zbj nf,e_ZbB nf,e_ZbF nf,e_Zbv nf,e_Zbm nf,e_Zbz nf]
noncomputable def m_ZbA(nf:Nat)(s:Schema)(x:FComp)(t:Ty):Option (Bool):=runF (T_ZbA nf) nf [.v (kR 5),.v (kR 12),.v (kR 0)] [.t 6 (.v .bool)] ir_ZbA (s,x,t,())
noncomputable def X_ZbA{R:Type}(nf:Nat):C->Env->(Xt->Env->Option R)->Option R:=xc (R:=R) (T_ZbA nf).S nf
noncomputable def j24_ZbA(nf:Nat)(m8:Nat)(x7_8:List Typing)(x8_8:Int)(s:Schema)(x:FComp)(t:Ty)(r33:Ty×Bool)(x61_24:Bool):Option (Bool):=X_ZbA nf c24_ZbA ⟨[(3,.pt [3] 0),(4,.pt [4] 0),(5,.pt [5] 0),(7,.v (kL (kR 8)) x7_8),(8,.v kI x8_8),(9,.pt [9] 0),(61,.v .bool x61_24)],[([3],.box [.v (kL (kR 4)) s.tables]),([4],.box [.v kI x.outer,.v kI x.outerGens,.v kI x.tag,.v (kL (kR 3)) x.gens,.v kI x.whr.kind,.v kS x.whr.name,.v kI x.whr.n,.v kI x.whr.type.kind,.v (kL kS) x.whr.type.labels,.v (kL (kR 0)) x.whr.type.args,.v (kL kS) x.whr.labels,.v (kL (kR 2)) x.whr.args,.v (kL (kR 2)) x.cols]),([5],.box [.v kI t.kind,.v (kL kS) t.labels,.v (kL (kR 0)) t.args]),([9],.box [.v kI r33.1.kind,.v (kL kS) r33.1.labels,.v (kL (kR 0)) r33.1.args])]⟩ (qS (X_ZbA nf c29_ZbA) (qB 1 (qS (X_ZbA nf c30_ZbA) (qM [3,4,5,7,8] [[3],[4],[5]] (X_ZbA nf c9_ZbA) m8 (qB 0 (qS (X_ZbA nf w31_ZbA) (KF [.t 6 (.v .bool)])))))))
noncomputable def l8_ZbA(nf:Nat)(m8:Nat)(s:Schema)(x:FComp)(t:Ty)(x7_8:List Typing)(x8_8:Int):Option (Bool):=xit [3,4,5,7,8] [[3],[4],[5]] (X_ZbA nf c9_ZbA) (qB 0 (qS (X_ZbA nf w31_ZbA) (KF [.t 6 (.v .bool)]))) m8 ⟨[(3,.pt [3] 0),(4,.pt [4] 0),(5,.pt [5] 0),(7,.v (kL (kR 8)) x7_8),(8,.v kI x8_8)],[([3],.box [.v (kL (kR 4)) s.tables]),([4],.box [.v kI x.outer,.v kI x.outerGens,.v kI x.tag,.v (kL (kR 3)) x.gens,.v kI x.whr.kind,.v kS x.whr.name,.v kI x.whr.n,.v kI x.whr.type.kind,.v (kL kS) x.whr.type.labels,.v (kL (kR 0)) x.whr.type.args,.v (kL kS) x.whr.labels,.v (kL (kR 2)) x.whr.args,.v (kL (kR 2)) x.cols]),([5],.box [.v kI t.kind,.v (kL kS) t.labels,.v (kL (kR 0)) t.args])]⟩
noncomputable def j36_ZbA(nf:Nat)(x7_8:List Typing)(r72:(List (List Str)))(s:Schema)(x:FComp)(t:Ty)(x108_36:Bool):Option (Bool):=X_ZbA nf c36_ZbA ⟨[(3,.pt [3] 0),(4,.pt [4] 0),(5,.pt [5] 0),(7,.v (kL (kR 8)) x7_8),(13,.v (kL (kL kS)) r72),(108,.v .bool x108_36)],[([3],.box [.v (kL (kR 4)) s.tables]),([4],.box [.v kI x.outer,.v kI x.outerGens,.v kI x.tag,.v (kL (kR 3)) x.gens,.v kI x.whr.kind,.v kS x.whr.name,.v kI x.whr.n,.v kI x.whr.type.kind,.v (kL kS) x.whr.type.labels,.v (kL (kR 0)) x.whr.type.args,.v (kL kS) x.whr.labels,.v (kL (kR 2)) x.whr.args,.v (kL (kR 2)) x.cols]),([5],.box [.v kI t.kind,.v (kL kS) t.labels,.v (kL (kR 0)) t.args])]⟩ (qS (X_ZbA nf c41_ZbA) (KF [.t 6 (.v .bool)]))
noncomputable def l45_ZbA(nf:Nat)(m45:Nat)(x7_8:List Typing)(r72:(List (List Str)))(s:Schema)(x:FComp)(t:Ty)(x14_45:Int):Option (Bool):=xit [3,4,5,7,13,14] [[3],[4],[5]] (X_ZbA nf c46_ZbA) (qB 2 (qS (X_ZbA nf c64_ZbA) (KF [.t 6 (.v .bool)]))) m45 ⟨[(3,.pt [3] 0),(4,.pt [4] 0),(5,.pt [5] 0),(7,.v (kL (kR 8)) x7_8),(13,.v (kL (kL kS)) r72),(14,.v kI x14_45)],[([3],.box [.v (kL (kR 4)) s.tables]),([4],.box [.v kI x.outer,.v kI x.outerGens,.v kI x.tag,.v (kL (kR 3)) x.gens,.v kI x.whr.kind,.v kS x.whr.name,.v kI x.whr.n,.v kI x.whr.type.kind,.v (kL kS) x.whr.type.labels,.v (kL (kR 0)) x.whr.type.args,.v (kL kS) x.whr.labels,.v (kL (kR 2)) x.whr.args,.v (kL (kR 2)) x.cols]),([5],.box [.v kI t.kind,.v (kL kS) t.labels,.v (kL (kR 0)) t.args])]⟩
noncomputable def j31_ZbA(nf:Nat)(x7_8:List Typing)(s:Schema)(x:FComp)(t:Ty):Option (Bool):=X_ZbA nf c31_ZbA ⟨[(3,.pt [3] 0),(4,.pt [4] 0),(5,.pt [5] 0),(7,.v (kL (kR 8)) x7_8)],[([3],.box [.v (kL (kR 4)) s.tables]),([4],.box [.v kI x.outer,.v kI x.outerGens,.v kI x.tag,.v (kL (kR 3)) x.gens,.v kI x.whr.kind,.v kS x.whr.name,.v kI x.whr.n,.v kI x.whr.type.kind,.v (kL kS) x.whr.type.labels,.v (kL (kR 0)) x.whr.type.args,.v (kL kS) x.whr.labels,.v (kL (kR 2)) x.whr.args,.v (kL (kR 2)) x.cols]),([5],.box [.v kI t.kind,.v (kL kS) t.labels,.v (kL (kR 0)) t.args])]⟩ (KF [.t 6 (.v .bool)])
theorem j24_ZbA_eq(nf:Nat)(m8:Nat)(x7_8:List Typing)(x8_8:Int)(s:Schema)(x:FComp)(t:Ty)(r33:Ty×Bool)(x61_24:Bool):j24_ZbA nf m8 x7_8 x8_8 s x t r33 x61_24=(br x61_24 (some false) (gg (0<=x8_8∧x8_8<(List.length x.gens:Int))<|cb (m_Zbu nf x7_8 ((gt x.gens x8_8 Gen.zero).var) (Ty.h r33.1)) fun r70=>mark (l8_ZbA nf m8 s x t r70 (w64 (x8_8+(1:Int)))))):=by
 unfold j24_ZbA l8_ZbA c24_ZbA w31_ZbA c30_ZbA c29_ZbA
 generalize c31_ZbA=x0
 revert x0
 refine id ?_
 intro x0
 kernel_rfl
theorem l8_ZbA_eq(nf:Nat)(m8:Nat)(s:Schema)(x:FComp)(t:Ty)(x7_8:List Typing)(x8_8:Int):l8_ZbA nf (m8+1) s x t x7_8 x8_8=(br (decide (x8_8<(List.length x.gens:Int))) (gg (0<=x8_8∧x8_8<(List.length x.gens:Int))<|cb (m_Zbl nf s ((gt x.gens x8_8 Gen.zero).table)) fun r33=>gg (0<=x8_8∧x8_8<(List.length x.gens:Int))<|cb (m_Zbq nf x7_8 ((gt x.gens x8_8 Gen.zero).var)) fun r44=>br ((!r33.2)==false) (br (r44.2==false) (gg (0<=x8_8∧x8_8<(List.length x.gens:Int))<|cb (m_Zbf nf ((gt x.gens x8_8 Gen.zero).var)) fun r59=>mark (j24_ZbA nf m8 x7_8 x8_8 s x t r33 (!r59))) (mark (j24_ZbA nf m8 x7_8 x8_8 s x t r33 true))) (mark (j24_ZbA nf m8 x7_8 x8_8 s x t r33 true))) (mark (j31_ZbA nf x7_8 s x t))):=by
 unfold l8_ZbA j24_ZbA j31_ZbA c9_ZbA w31_ZbA w24_ZbA c29_ZbA c30_ZbA
 generalize c31_ZbA=x0
 generalize c24_ZbA=x1
 revert x0 x1
 refine id ?_
 intro x0 x1
 kernel_rfl
theorem j36_ZbA_eq(nf:Nat)(x7_8:List Typing)(r72:(List (List Str)))(s:Schema)(x:FComp)(t:Ty)(x108_36:Bool):j36_ZbA nf x7_8 r72 s x t x108_36=(br x108_36 (some false) (mark (l45_ZbA nf nf x7_8 r72 s x t (0:Int)))):=by kernel_rfl
theorem l45_ZbA_eq(nf:Nat)(m45:Nat)(x7_8:List Typing)(r72:(List (List Str)))(s:Schema)(x:FComp)(t:Ty)(x14_45:Int):l45_ZbA nf (m45+1) x7_8 r72 s x t x14_45=(br (decide (x14_45<(List.length r72:Int))) (gg (0<=x14_45∧x14_45<(List.length r72:Int))<|cb (m_Zbm nf (Ty.h t) (gt r72 x14_45 ([]:List Str))) fun r121=>gg (0<=x14_45∧x14_45<(List.length x.cols:Int))<|cb (m_Zbz nf s x7_8 (gt x.cols x14_45 Tm.zero) (Ty.h r121.1)) fun r132=>br (!r132) (some false) (mark (l45_ZbA nf m45 x7_8 r72 s x t (w64 (x14_45+(1:Int)))))) (some true)):=by kernel_rfl
theorem j31_ZbA_eq(nf:Nat)(x7_8:List Typing)(s:Schema)(x:FComp)(t:Ty):j31_ZbA nf x7_8 s x t=(cb (m_Zbj nf (Ty.h t)) fun r72=>br ((decide (x.outer<(0:Int)))==false) (br ((decide (x.tag<=x.outer))==false) (cb (m_ZbB nf x.outerGens (0:Int) (List.length x.gens:Int)) fun r89=>br ((!r89)==false) (cb (m_ZbF nf) fun r97=>cb (m_Zbv nf s x7_8 (Tm.h x.whr) r97) fun r98=>br ((!r98)==false) (mark (j36_ZbA nf x7_8 r72 s x t (!((List.length x.cols:Int)==(List.length r72:Int))))) (mark (j36_ZbA nf x7_8 r72 s x t true))) (mark (j36_ZbA nf x7_8 r72 s x t true))) (mark (j36_ZbA nf x7_8 r72 s x t true))) (mark (j36_ZbA nf x7_8 r72 s x t true))):=by
 unfold j31_ZbA j36_ZbA c31_ZbA w36_ZbA c41_ZbA c64_ZbA
 generalize c36_ZbA=x0
 revert x0
 refine id ?_
 intro x0
 kernel_rfl
theorem m_ZbA_eq(nf:Nat)(s:Schema)(x:FComp)(t:Ty):m_ZbA nf s x t=(mark (l8_ZbA nf nf s x t ([]:List Typing) (0:Int))):=by
 unfold m_ZbA l8_ZbA ir_ZbA w31_ZbA
 generalize c31_ZbA=x0
 revert x0
 refine id ?_
 intro x0
 kernel_rfl
noncomputable def e_ZbA(nf:Nat):XE:=eF 52 [.v (kR 5),.v (kR 12),.v (kR 0)] [.v .bool] (fun t=>m_ZbA nf t.1 t.2.1 t.2.2.1)
theorem o_ZbA(nf:Nat):conOK Tryz.prog 52 (e_ZbA nf).con:=by
 have ih:XT.ok Tryz.prog (T_ZbA nf):=by exact⟨o_Zbl nf,o_Zbq nf,o_Zbf nf,o_Zbu nf,o_Zbj nf,o_ZbB nf,o_ZbF nf,o_Zbv nf,o_Zbm nf,o_Zbz nf,trivial⟩
 refine eF_ok fun t x h=> ?_
 obtain⟨s,x,t,_⟩:=t
 exact runF_ok (N:=134) ih Tryz.func52 (by kernel_rfl) rfl h
def c33_Zbe:C:=.sq (.rg [.mv 6 (.b true)]) .rt
def c17_Zbe:C:=.sq (.sq (.rg [.mv 34 T9,.fa 35 T4 13 1 1,.ld 36 T35 (kL (kR 12)),.ln 37 false T36,.bi 38 .lss T34 T37]) (.cd T38 .skip (.ex 0))) (.sq (.bk 1 (.sq (.dr [] [.ld 41 T3 (kR 5),.fa 42 T4 13 1 1,.ld 43 T42 (kL (kR 12)),.mv 44 T9,.ia 45 T43 T44 (kR 12),.ld 46 T45 (kR 12),.fa 47 T7 0 2 2,.ld 48 T47 (kL (kR 0)),.ia 49 T48 (.i 0) (kR 0),.ld 50 T49 (kR 0)] [.cv (some 51) 52 [(T41,.v (kR 5)),(T46,.v (kR 12)),(T50,.v (kR 0))],.un 52 .not T51]) (.cd T52 (.sq (.rg [.mv 6 (.b false)]) .rt) .skip))) (.rg [.mv 39 T9,.bi 40 .add T39 (.i 1),.mv 9 T40]))
def c12_Zbe:C:=.sq (.sq (.rg [.mv 9 (.i 0)]) (.bk 0 (.lk [3,4,7,9] [[3],[4],[7]] c17_Zbe))) c33_Zbe
def c7_Zbe:C:=.cd T33 (.sq (.rg [.mv 6 (.b false)]) .rt) .skip
def w7_Zbe:C:=.kp [3,4,7,33] [[3],[4],[7]] c7_Zbe
def ir_Zbe:C:=.sq (.rg [.bx 3 T0 (kR 5),.bx 4 T1 (kR 13),.bx 5 T2 (kR 0),.mv 6 (.b false)]) (.sq (.rg [.ld 11 T5 (kR 0),.fa 12 T4 13 0 0,.ld 13 T12 (kL kS),.ca (some 14) 50 [(T11,.v (kR 0)),(T13,.v (kL kS))],.mv 10 T14,.xt 15 T10 0,.xt 16 T10 1,.al 7 (kR 0),.st T7 T15 (kR 0),.mv 8 T16]) (.sq (.sq (.rg [.mv 17 T8,.un 18 .not T17,.mv 19 T18,.g 19 false (.ld 20 T5 (kR 0)),.g 19 false (.cv (some 21) 51 [(T20,.v (kR 0))]),.g 19 false (.un 22 .not T21),.pk 23 T19 (.b true) T22,.mv 24 T23,.g 24 false (.fa 25 T7 0 0 0),.g 24 false (.ld 26 T25 kI),.g 24 false (.bi 27 .neq T26 (.i 4)),.pk 28 T24 (.b true) T27,.mv 29 T28,.g 29 false (.ld 30 T3 (kR 5)),.g 29 false (.cv (some 31) 33 [(T30,.v (kR 5))]),.g 29 false (.un 32 .not T31),.pk 33 T29 (.b true) T32]) w7_Zbe) c12_Zbe))
noncomputable abbrev T_Zbe(nf:Nat):XT:=[e_Zbm nf,e_Zbd nf,e_Zbh nf,e_ZbA nf]
noncomputable def m_Zbe(nf:Nat)(s:Schema)(f:FQuery)(t:Ty):Option (Bool):=runF (T_Zbe nf) nf [.v (kR 5),.v (kR 13),.v (kR 0)] [.t 6 (.v .bool)] ir_Zbe (s,f,t,())
noncomputable def X_Zbe{R:Type}(nf:Nat):C->Env->(Xt->Env->Option R)->Option R:=xc (R:=R) (T_Zbe nf).S nf
noncomputable def j7_Zbe(nf:Nat)(s:Schema)(f:FQuery)(r14:Ty×Bool)(x33_7:Bool):Option (Bool):=X_Zbe nf c7_Zbe ⟨[(3,.pt [3] 0),(4,.pt [4] 0),(7,.pt [7] 0),(33,.v .bool x33_7)],[([3],.box [.v (kL (kR 4)) s.tables]),([4],.box [.v (kL kS) f.path,.v (kL (kR 12)) f.comps]),([7],.box [.v kI r14.1.kind,.v (kL kS) r14.1.labels,.v (kL (kR 0)) r14.1.args])]⟩ (qS (X_Zbe nf c12_Zbe) (KF [.t 6 (.v .bool)]))
noncomputable def l16_Zbe(nf:Nat)(m16:Nat)(s:Schema)(f:FQuery)(r14:Ty×Bool)(x9_16:Int):Option (Bool):=xit [3,4,7,9] [[3],[4],[7]] (X_Zbe nf c17_Zbe) (qB 0 (qS (X_Zbe nf c33_Zbe) (KF [.t 6 (.v .bool)]))) m16 ⟨[(3,.pt [3] 0),(4,.pt [4] 0),(7,.pt [7] 0),(9,.v kI x9_16)],[([3],.box [.v (kL (kR 4)) s.tables]),([4],.box [.v (kL kS) f.path,.v (kL (kR 12)) f.comps]),([7],.box [.v kI r14.1.kind,.v (kL kS) r14.1.labels,.v (kL (kR 0)) r14.1.args])]⟩
theorem j7_Zbe_eq(nf:Nat)(s:Schema)(f:FQuery)(r14:Ty×Bool)(x33_7:Bool):j7_Zbe nf s f r14 x33_7=(br x33_7 (some false) (mark (l16_Zbe nf nf s f r14 (0:Int)))):=by kernel_rfl
theorem l16_Zbe_eq(nf:Nat)(m16:Nat)(s:Schema)(f:FQuery)(r14:Ty×Bool)(x9_16:Int):l16_Zbe nf (m16+1) s f r14 x9_16=(br (decide (x9_16<(List.length f.comps:Int))) (gg (0<=x9_16∧x9_16<(List.length f.comps:Int))<|gg (0<=(0:Int)∧(0:Int)<(List.length r14.1.args:Int))<|cb (m_ZbA nf s (gt f.comps x9_16 FComp.zero) (gt r14.1.args (0:Int) Ty.zero)) fun r51=>br (!r51) (some false) (mark (l16_Zbe nf m16 s f r14 (w64 (x9_16+(1:Int)))))) (some true)):=by kernel_rfl
theorem m_Zbe_eq(nf:Nat)(s:Schema)(f:FQuery)(t:Ty):m_Zbe nf s f t=(cb (m_Zbm nf (Ty.h t) f.path) fun r14=>br ((!r14.2)==false) (cb (m_Zbd nf (Ty.h t)) fun r21=>br ((!r21)==false) (br ((!(r14.1.kind==(4:Int)))==false) (cb (m_Zbh nf s) fun r31=>mark (j7_Zbe nf s f r14 (!r31))) (mark (j7_Zbe nf s f r14 true))) (mark (j7_Zbe nf s f r14 true))) (mark (j7_Zbe nf s f r14 true))):=by
 unfold m_Zbe j7_Zbe ir_Zbe w7_Zbe c12_Zbe c33_Zbe
 generalize c7_Zbe=x0
 revert x0
 refine id ?_
 intro x0
 kernel_rfl
noncomputable def e_Zbe(nf:Nat):XE:=eF 16 [.v (kR 5),.v (kR 13),.v (kR 0)] [.v .bool] (fun t=>m_Zbe nf t.1 t.2.1 t.2.2.1)
theorem o_Zbe(nf:Nat):conOK Tryz.prog 16 (e_Zbe nf).con:=by
 have ih:XT.ok Tryz.prog (T_Zbe nf):=by exact⟨o_Zbm nf,o_Zbd nf,o_Zbh nf,o_ZbA nf,trivial⟩
 refine eF_ok fun t x h=> ?_
 obtain⟨s,f,t,_⟩:=t
 exact runF_ok (N:=53) ih Tryz.func16 (by kernel_rfl) rfl h
end Go.Q
