/- Plans: the reference's side. -/
import Derived.Test.YtmkelbchboiliaaGreatB23
import Derived.Test.YtmkelbchboiliaaGreatProg
import Derived.KernelRfl
set_option linter.unusedVariables false
set_option linter.unusedSimpArgs false
namespace Go.Q
open Go.Proofs
set_option maxRecDepth 20000
set_option maxHeartbeats 4000000
def c31_ZaY:C:=.sq (.rg [.mv 4 (.b true)]) .rt
def c15_ZaY:C:=.sq (.sq (.rg [.mv 50 T5,.fa 51 T2 2 5 7,.ld 52 T51 (kL (kR 2)),.ln 53 false T52,.bi 54 .lss T50 T53]) (.cd T54 .skip (.ex 0))) (.sq (.bk 1 (.sq (.dr [] [.fa 57 T2 2 5 7,.ld 58 T57 (kL (kR 2)),.mv 59 T5,.ia 60 T58 T59 (kR 2),.ld 61 T60 (kR 2),.fa 62 T3 2 5 7,.ld 63 T62 (kL (kR 2)),.mv 64 T5,.ia 65 T63 T64 (kR 2),.ld 66 T65 (kR 2)] [.cv (some 67) 151 [(T61,.v (kR 2)),(T66,.v (kR 2))],.un 68 .not T67]) (.cd T68 (.sq (.rg [.mv 4 (.b false)]) .rt) .skip))) (.rg [.mv 55 T5,.bi 56 .add T55 (.i 1),.mv 5 T56]))
def c10_ZaY:C:=.sq (.sq (.rg [.mv 5 (.i 0)]) (.bk 0 (.lk [2,3,5] [[2],[3]] c15_ZaY))) c31_ZaY
def c5_ZaY:C:=.cd T49 (.sq (.rg [.mv 4 (.b false)]) .rt) .skip
def w5_ZaY:C:=.kp [2,3,49] [[2],[3]] c5_ZaY
def ir_ZaY:C:=.sq (.rg [.bx 2 T0 (kR 2),.bx 3 T1 (kR 2),.mv 4 (.b false)]) (.sq (.sq (.rg [.fa 6 T2 2 0 0,.ld 7 T6 kI,.fa 8 T3 2 0 0,.ld 9 T8 kI,.bi 10 .neq T7 T9,.mv 11 T10,.g 11 false (.fa 12 T2 2 1 1),.g 11 false (.ld 13 T12 kS),.g 11 false (.fa 14 T3 2 1 1),.g 11 false (.ld 15 T14 kS),.g 11 false (.bi 16 .neq T13 T15),.pk 17 T11 (.b true) T16,.mv 18 T17,.g 18 false (.fa 19 T2 2 2 2),.g 18 false (.ld 20 T19 kI),.g 18 false (.fa 21 T3 2 2 2),.g 18 false (.ld 22 T21 kI),.g 18 false (.bi 23 .neq T20 T22),.pk 24 T18 (.b true) T23,.mv 25 T24,.g 25 false (.fa 26 T2 2 3 3),.g 25 false (.ld 27 T26 (kR 0)),.g 25 false (.fa 28 T3 2 3 3),.g 25 false (.ld 29 T28 (kR 0)),.g 25 false (.cv (some 30) 135 [(T27,.v (kR 0)),(T29,.v (kR 0))]),.g 25 false (.un 31 .not T30),.pk 32 T25 (.b true) T31,.mv 33 T32,.g 33 false (.fa 34 T2 2 4 6),.g 33 false (.ld 35 T34 (kL kS)),.g 33 false (.fa 36 T3 2 4 6),.g 33 false (.ld 37 T36 (kL kS)),.g 33 false (.cv (some 38) 146 [(T35,.v (kL kS)),(T37,.v (kL kS))]),.g 33 false (.un 39 .not T38),.pk 40 T33 (.b true) T39,.mv 41 T40,.g 41 false (.fa 42 T2 2 5 7),.g 41 false (.ld 43 T42 (kL (kR 2))),.g 41 false (.ln 44 false T43),.g 41 false (.fa 45 T3 2 5 7),.g 41 false (.ld 46 T45 (kL (kR 2))),.g 41 false (.ln 47 false T46),.g 41 false (.bi 48 .neq T44 T47),.pk 49 T41 (.b true) T48]) w5_ZaY) c10_ZaY)
noncomputable def B_ZaY(nf:Nat):XT:=[e_ZaZ nf,e_ZbO nf]
noncomputable def G_ZaY(nf:Nat):Nat->XT
 |0=>[]
 |kf+1=>[eF 151 [.v (kR 2),.v (kR 2)] [.v .bool] (fun t=>(fun(a:Tm) (b:Tm)=>runF (G_ZaY nf kf++B_ZaY nf) nf [.v (kR 2),.v (kR 2)] [.t 4 (.v .bool)] ir_ZaY (a,b,())) t.1 t.2.1)]
noncomputable abbrev T_ZaY(nf kf:Nat):XT:=G_ZaY nf kf++B_ZaY nf
noncomputable def m_ZaY(nf kf:Nat)(a:Tm)(b:Tm):Option (Bool):=runF (T_ZaY nf kf) nf [.v (kR 2),.v (kR 2)] [.t 4 (.v .bool)] ir_ZaY (a,b,())
noncomputable def X_ZaY{R:Type}(nf kf:Nat):C->Env->(Xt->Env->Option R)->Option R:=xc (R:=R) (T_ZaY nf kf).S nf
noncomputable def j5_ZaY(nf kf:Nat)(a:Tm)(b:Tm)(x49_5:Bool):Option (Bool):=X_ZaY nf kf c5_ZaY ⟨[(2,.pt [2] 0),(3,.pt [3] 0),(49,.v .bool x49_5)],[([2],.box [.v kI a.kind,.v kS a.name,.v kI a.n,.v kI a.type.kind,.v (kL kS) a.type.labels,.v (kL (kR 0)) a.type.args,.v (kL kS) a.labels,.v (kL (kR 2)) a.args]),([3],.box [.v kI b.kind,.v kS b.name,.v kI b.n,.v kI b.type.kind,.v (kL kS) b.type.labels,.v (kL (kR 0)) b.type.args,.v (kL kS) b.labels,.v (kL (kR 2)) b.args])]⟩ (qS (X_ZaY nf kf c10_ZaY) (KF [.t 4 (.v .bool)]))
noncomputable def l14_ZaY(nf kf:Nat)(m14:Nat)(a:Tm)(b:Tm)(x5_14:Int):Option (Bool):=xit [2,3,5] [[2],[3]] (X_ZaY nf kf c15_ZaY) (qB 0 (qS (X_ZaY nf kf c31_ZaY) (KF [.t 4 (.v .bool)]))) m14 ⟨[(2,.pt [2] 0),(3,.pt [3] 0),(5,.v kI x5_14)],[([2],.box [.v kI a.kind,.v kS a.name,.v kI a.n,.v kI a.type.kind,.v (kL kS) a.type.labels,.v (kL (kR 0)) a.type.args,.v (kL kS) a.labels,.v (kL (kR 2)) a.args]),([3],.box [.v kI b.kind,.v kS b.name,.v kI b.n,.v kI b.type.kind,.v (kL kS) b.type.labels,.v (kL (kR 0)) b.type.args,.v (kL kS) b.labels,.v (kL (kR 2)) b.args])]⟩
theorem j5_ZaY_eq(nf kf:Nat)(a:Tm)(b:Tm)(x49_5:Bool):j5_ZaY nf (kf+1) a b x49_5=(br x49_5 (some false) (mark (l14_ZaY nf (kf+1) nf a b (0:Int)))):=by kernel_rfl
theorem l14_ZaY_eq(nf kf:Nat)(m14:Nat)(a:Tm)(b:Tm)(x5_14:Int):l14_ZaY nf (kf+1) (m14+1) a b x5_14=(br (decide (x5_14<(List.length a.args:Int))) (gg (0<=x5_14∧x5_14<(List.length a.args:Int))<|gg (0<=x5_14∧x5_14<(List.length b.args:Int))<|cb (m_ZaY nf kf (gt a.args x5_14 Tm.zero) (gt b.args x5_14 Tm.zero)) fun r67=>br (!r67) (some false) (mark (l14_ZaY nf (kf+1) m14 a b (w64 (x5_14+(1:Int)))))) (some true)):=by kernel_rfl
theorem m_ZaY_eq(nf kf:Nat)(a:Tm)(b:Tm):m_ZaY nf (kf+1) a b=(br ((!(a.kind==b.kind))==false) (br ((!(a.name==b.name))==false) (br ((!(a.n==b.n))==false) (cb (m_ZaZ nf nf (Ty.h a.type) (Ty.h b.type)) fun r30=>br ((!r30)==false) (cb (m_ZbO nf a.labels b.labels) fun r38=>br ((!r38)==false) (mark (j5_ZaY nf (kf+1) a b (!((List.length a.args:Int)==(List.length b.args:Int))))) (mark (j5_ZaY nf (kf+1) a b true))) (mark (j5_ZaY nf (kf+1) a b true))) (mark (j5_ZaY nf (kf+1) a b true))) (mark (j5_ZaY nf (kf+1) a b true))) (mark (j5_ZaY nf (kf+1) a b true))):=by
 unfold m_ZaY j5_ZaY ir_ZaY w5_ZaY c10_ZaY c31_ZaY
 generalize c5_ZaY=x0
 revert x0
 refine id ?_
 intro x0
 kernel_rfl
noncomputable def e_ZaY(nf:Nat):XE:=eF 151 [.v (kR 2),.v (kR 2)] [.v .bool] (fun t=>m_ZaY nf nf t.1 t.2.1)
theorem gok_ZaY(nf:Nat):∀kf:Nat,XT.ok Tryz.prog (G_ZaY nf kf++B_ZaY nf)
 |0=>by exact⟨o_ZaZ nf,o_ZbO nf,trivial⟩
 |kf+1=>by
  have ih:=gok_ZaY nf kf
  refine⟨?_,(by exact⟨o_ZaZ nf,o_ZbO nf,trivial⟩)⟩
  ·refine eF_ok fun t x h=> ?_
   obtain⟨a,b,_⟩:=t
   exact runF_ok (N:=69) ih Tryz.func151 (by kernel_rfl) rfl h
theorem o_ZaY(nf:Nat):conOK Tryz.prog 151 (e_ZaY nf).con:=by
 have ih:=gok_ZaY nf nf
 refine eF_ok fun t x h=> ?_
 obtain⟨a,b,_⟩:=t
 exact runF_ok (N:=69) ih Tryz.func151 (by kernel_rfl) rfl h
def ir_Zbw:C:=.sq (.rg [.bx 1 T0 (kR 2),.mv 2 (.b false)]) (.sq (.rg [.ld 3 T1 (kR 2),.bd 4 2 [],.cv (some 5) 151 [(T3,.v (kR 2)),(T4,.v (kR 2))],.mv 2 T5]) .rt)
noncomputable abbrev T_Zbw(nf:Nat):XT:=[e_ZaY nf]
noncomputable def m_Zbw(nf:Nat)(e:Tm):Option (Bool):=runF (T_Zbw nf) nf [.v (kR 2)] [.t 2 (.v .bool)] ir_Zbw (e,())
theorem m_Zbw_eq(nf:Nat)(e:Tm):m_Zbw nf e=(cb (m_ZaY nf nf (Tm.h e) (Tm.mk (0:Int) ([]:Str) (0:Int) (Ty.mk (0:Int) ([]:List Str) ([]:List Ty)) ([]:List Str) ([]:List Tm))) fun r5=>some r5):=by kernel_rfl
noncomputable def e_Zbw(nf:Nat):XE:=eF 114 [.v (kR 2)] [.v .bool] (fun t=>m_Zbw nf t.1)
theorem o_Zbw(nf:Nat):conOK Tryz.prog 114 (e_Zbw nf).con:=by
 have ih:XT.ok Tryz.prog (T_Zbw nf):=by exact⟨o_ZaY nf,trivial⟩
 refine eF_ok fun t x h=> ?_
 obtain⟨e,_⟩:=t
 exact runF_ok (N:=6) ih Tryz.func114 (by kernel_rfl) rfl h
def c45_Zbc:C:=.sq (.rg [.mv 2 (.b true)]) .rt
def c44_Zbc:C:=.rg [.mv 39 T3,.bi 40 .add T39 (.i 1),.mv 3 T40]
def c37_Zbc:C:=.sq (.rg [.fa 63 T1 2 5 7,.ld 64 T63 (kL (kR 2)),.mv 65 T3,.ia 66 T64 T65 (kR 2),.ld 67 T66 (kR 2),.cv (some 68) 133 [(T67,.v (kR 2))],.un 69 .not T68]) (.cd T69 (.sq (.rg [.mv 2 (.b false)]) .rt) .skip)
def c34_Zbc:C:=.cd T62 (.ex 1) .skip
def w34_Zbc:C:=.kp [1,3,62] [[1]] c34_Zbc
def c23_Zbc:C:=.sq (.sq (.rg [.mv 34 T3,.fa 35 T1 2 5 7,.ld 36 T35 (kL (kR 2)),.ln 37 false T36,.bi 38 .lss T34 T37]) (.cd T38 .skip (.ex 0))) (.sq (.bk 1 (.sq (.sq (.rg [.fa 41 T1 2 0 0,.ld 42 T41 kI,.bi 43 .eql T42 (.i 6),.mv 44 T43,.g 44 true (.fa 45 T1 2 5 7),.g 44 true (.ld 46 T45 (kL (kR 2))),.g 44 true (.mv 47 T3),.g 44 true (.ia 48 T46 T47 (kR 2)),.g 44 true (.fa 49 T48 2 0 0),.g 44 true (.ld 50 T49 kI),.g 44 true (.bi 51 .eql T50 (.i 1)),.pk 52 T44 T51 (.b false),.mv 53 T52,.g 53 true (.fa 54 T1 2 5 7),.g 53 true (.ld 55 T54 (kL (kR 2))),.g 53 true (.mv 56 T3),.g 53 true (.ia 57 T55 T56 (kR 2)),.g 53 true (.fa 58 T57 2 5 7),.g 53 true (.ld 59 T58 (kL (kR 2))),.g 53 true (.ln 60 false T59),.g 53 true (.bi 61 .eql T60 (.i 0)),.pk 62 T53 T61 (.b false)]) w34_Zbc) c37_Zbc)) c44_Zbc)
def c18_Zbc:C:=.sq (.sq (.rg [.mv 3 (.i 0)]) (.bk 0 (.lk [1,3] [[1]] c23_Zbc))) c45_Zbc
def c13_Zbc:C:=.cd T33 (.sq (.rg [.mv 2 (.b false)]) .rt) .skip
def w13_Zbc:C:=.kp [1,33] [[1]] c13_Zbc
def c10_Zbc:C:=.sq (.sq (.rg [.fa 17 T1 2 0 0,.ld 18 T17 kI,.bi 19 .eql T18 (.i 10),.mv 20 T19,.g 20 true (.fa 21 T1 2 5 7),.g 20 true (.ld 22 T21 (kL (kR 2))),.g 20 true (.ln 23 false T22),.g 20 true (.bi 24 .eql T23 (.i 0)),.g 20 true (.mv 25 T24),.g 25 false (.fa 26 T1 2 5 7),.g 25 false (.ld 27 T26 (kL (kR 2))),.g 25 false (.ia 28 T27 (.i 0) (kR 2)),.g 25 false (.fa 29 T28 2 0 0),.g 25 false (.ld 30 T29 kI),.g 25 false (.bi 31 .neq T30 (.i 12)),.g 20 true (.pk 32 T25 (.b true) T31),.pk 33 T20 T32 (.b false)]) w13_Zbc) c18_Zbc
def c5_Zbc:C:=.cd T16 (.sq (.rg [.mv 2 (.b false)]) .rt) .skip
def w5_Zbc:C:=.kp [1,16] [[1]] c5_Zbc
def ir_Zbc:C:=.sq (.rg [.bx 1 T0 (kR 2),.mv 2 (.b false)]) (.sq (.sq (.rg [.fa 4 T1 2 0 0,.ld 5 T4 kI,.bi 6 .eql T5 (.i 13),.mv 7 T6,.g 7 false (.fa 8 T1 2 0 0),.g 7 false (.ld 9 T8 kI),.g 7 false (.bi 10 .eql T9 (.i 14)),.pk 11 T7 (.b true) T10,.mv 12 T11,.g 12 false (.fa 13 T1 2 0 0),.g 12 false (.ld 14 T13 kI),.g 12 false (.bi 15 .eql T14 (.i 1)),.pk 16 T12 (.b true) T15]) w5_Zbc) c10_Zbc)
noncomputable def B_Zbc(nf:Nat):XT:=[]
noncomputable def G_Zbc(nf:Nat):Nat->XT
 |0=>[]
 |kf+1=>[eF 133 [.v (kR 2)] [.v .bool] (fun t=>(fun(e:Tm)=>runF (G_Zbc nf kf++B_Zbc nf) nf [.v (kR 2)] [.t 2 (.v .bool)] ir_Zbc (e,())) t.1)]
noncomputable abbrev T_Zbc(nf kf:Nat):XT:=G_Zbc nf kf++B_Zbc nf
noncomputable def m_Zbc(nf kf:Nat)(e:Tm):Option (Bool):=runF (T_Zbc nf kf) nf [.v (kR 2)] [.t 2 (.v .bool)] ir_Zbc (e,())
noncomputable def X_Zbc{R:Type}(nf kf:Nat):C->Env->(Xt->Env->Option R)->Option R:=xc (R:=R) (T_Zbc nf kf).S nf
noncomputable def j5_Zbc(nf kf:Nat)(e:Tm)(x16_5:Bool):Option (Bool):=X_Zbc nf kf c5_Zbc ⟨[(1,.pt [1] 0),(16,.v .bool x16_5)],[([1],.box [.v kI e.kind,.v kS e.name,.v kI e.n,.v kI e.type.kind,.v (kL kS) e.type.labels,.v (kL (kR 0)) e.type.args,.v (kL kS) e.labels,.v (kL (kR 2)) e.args])]⟩ (qS (X_Zbc nf kf c10_Zbc) (KF [.t 2 (.v .bool)]))
noncomputable def j13_Zbc(nf kf:Nat)(e:Tm)(x33_13:Bool):Option (Bool):=X_Zbc nf kf c13_Zbc ⟨[(1,.pt [1] 0),(33,.v .bool x33_13)],[([1],.box [.v kI e.kind,.v kS e.name,.v kI e.n,.v kI e.type.kind,.v (kL kS) e.type.labels,.v (kL (kR 0)) e.type.args,.v (kL kS) e.labels,.v (kL (kR 2)) e.args])]⟩ (qS (X_Zbc nf kf c18_Zbc) (KF [.t 2 (.v .bool)]))
noncomputable def j34_Zbc(nf kf:Nat)(m22:Nat)(x3_22:Int)(e:Tm)(x62_34:Bool):Option (Bool):=X_Zbc nf kf c34_Zbc ⟨[(1,.pt [1] 0),(3,.v kI x3_22),(62,.v .bool x62_34)],[([1],.box [.v kI e.kind,.v kS e.name,.v kI e.n,.v kI e.type.kind,.v (kL kS) e.type.labels,.v (kL (kR 0)) e.type.args,.v (kL kS) e.labels,.v (kL (kR 2)) e.args])]⟩ (qS (X_Zbc nf kf c37_Zbc) (qB 1 (qS (X_Zbc nf kf c44_Zbc) (qM [1,3] [[1]] (X_Zbc nf kf c23_Zbc) m22 (qB 0 (qS (X_Zbc nf kf c45_Zbc) (KF [.t 2 (.v .bool)])))))))
noncomputable def l22_Zbc(nf kf:Nat)(m22:Nat)(e:Tm)(x3_22:Int):Option (Bool):=xit [1,3] [[1]] (X_Zbc nf kf c23_Zbc) (qB 0 (qS (X_Zbc nf kf c45_Zbc) (KF [.t 2 (.v .bool)]))) m22 ⟨[(1,.pt [1] 0),(3,.v kI x3_22)],[([1],.box [.v kI e.kind,.v kS e.name,.v kI e.n,.v kI e.type.kind,.v (kL kS) e.type.labels,.v (kL (kR 0)) e.type.args,.v (kL kS) e.labels,.v (kL (kR 2)) e.args])]⟩
theorem j5_Zbc_eq(nf kf:Nat)(e:Tm)(x16_5:Bool):j5_Zbc nf (kf+1) e x16_5=(br x16_5 (some false) (br ((e.kind==(10:Int))==true) (br (((List.length e.args:Int)==(0:Int))==false) (gg (0<=(0:Int)∧(0:Int)<(List.length e.args:Int))<|mark (j13_Zbc nf (kf+1) e (!(((gt e.args (0:Int) Tm.zero).kind)==(12:Int))))) (mark (j13_Zbc nf (kf+1) e true))) (mark (j13_Zbc nf (kf+1) e false)))):=by
 unfold j5_Zbc j13_Zbc c5_Zbc c10_Zbc w13_Zbc c18_Zbc c45_Zbc
 generalize c13_Zbc=x0
 revert x0
 refine id ?_
 intro x0
 kernel_rfl
theorem j13_Zbc_eq(nf kf:Nat)(e:Tm)(x33_13:Bool):j13_Zbc nf (kf+1) e x33_13=(br x33_13 (some false) (mark (l22_Zbc nf (kf+1) nf e (0:Int)))):=by kernel_rfl
theorem j34_Zbc_eq(nf kf:Nat)(m22:Nat)(x3_22:Int)(e:Tm)(x62_34:Bool):j34_Zbc nf (kf+1) m22 x3_22 e x62_34=(br x62_34 (mark (l22_Zbc nf (kf+1) m22 e (w64 (x3_22+(1:Int))))) (gg (0<=x3_22∧x3_22<(List.length e.args:Int))<|cb (m_Zbc nf kf (gt e.args x3_22 Tm.zero)) fun r68=>br (!r68) (some false) (mark (l22_Zbc nf (kf+1) m22 e (w64 (x3_22+(1:Int))))))):=by kernel_rfl
theorem l22_Zbc_eq(nf kf:Nat)(m22:Nat)(e:Tm)(x3_22:Int):l22_Zbc nf (kf+1) (m22+1) e x3_22=(br (decide (x3_22<(List.length e.args:Int))) (br ((e.kind==(6:Int))==true) (gg (0<=x3_22∧x3_22<(List.length e.args:Int))<|br ((((gt e.args x3_22 Tm.zero).kind)==(1:Int))==true) (gg (0<=x3_22∧x3_22<(List.length e.args:Int))<|mark (j34_Zbc nf (kf+1) m22 x3_22 e ((List.length ((gt e.args x3_22 Tm.zero).args):Int)==(0:Int)))) (mark (j34_Zbc nf (kf+1) m22 x3_22 e false))) (mark (j34_Zbc nf (kf+1) m22 x3_22 e false))) (some true)):=by
 unfold l22_Zbc j34_Zbc c23_Zbc c45_Zbc w34_Zbc c37_Zbc c44_Zbc
 generalize c34_Zbc=x0
 revert x0
 refine id ?_
 intro x0
 kernel_rfl
theorem m_Zbc_eq(nf kf:Nat)(e:Tm):m_Zbc nf (kf+1) e=(br ((e.kind==(13:Int))==false) (br ((e.kind==(14:Int))==false) (mark (j5_Zbc nf (kf+1) e (e.kind==(1:Int)))) (mark (j5_Zbc nf (kf+1) e true))) (mark (j5_Zbc nf (kf+1) e true))):=by
 unfold m_Zbc j5_Zbc ir_Zbc w5_Zbc c10_Zbc w13_Zbc c18_Zbc c45_Zbc
 generalize c5_Zbc=x0
 generalize c13_Zbc=x1
 revert x0 x1
 refine id ?_
 intro x0 x1
 kernel_rfl
noncomputable def e_Zbc(nf:Nat):XE:=eF 133 [.v (kR 2)] [.v .bool] (fun t=>m_Zbc nf nf t.1)
theorem gok_Zbc(nf:Nat):∀kf:Nat,XT.ok Tryz.prog (G_Zbc nf kf++B_Zbc nf)
 |0=>by exact trivial
 |kf+1=>by
  have ih:=gok_Zbc nf kf
  refine⟨?_,(by exact trivial)⟩
  ·refine eF_ok fun t x h=> ?_
   obtain⟨e,_⟩:=t
   exact runF_ok (N:=70) ih Tryz.func133 (by kernel_rfl) rfl h
theorem o_Zbc(nf:Nat):conOK Tryz.prog 133 (e_Zbc nf).con:=by
 have ih:=gok_Zbc nf nf
 refine eF_ok fun t x h=> ?_
 obtain⟨e,_⟩:=t
 exact runF_ok (N:=70) ih Tryz.func133 (by kernel_rfl) rfl h
def c10_Zbv:C:=.sq (.rg [.mv 25 T10,.mv 26 T25,.g 26 true (.ld 27 T9 (kR 0)),.g 26 true (.ld 28 T7 (kR 0)),.g 26 true (.cv (some 29) 135 [(T27,.v (kR 0)),(T28,.v (kR 0))]),.pk 30 T26 T29 (.b false),.mv 8 T30]) .rt
def w10_Zbv:C:=.pb 9 1 (kL kS) (.pb 9 2 (kL (kR 0)) (.kp [7,9,10] [[7],[9]] c10_Zbv))
def c7_Zbv:C:=.cd T17 (.rg [.ld 19 T4 (kR 5),.mv 20 T1,.ld 21 T6 (kR 2),.ca (some 22) 134 [(T19,.v (kR 5)),(T20,.v (kL (kR 8))),(T21,.v (kR 2))],.mv 18 T22,.xt 23 T18 0,.xt 24 T18 1,.st T9 T23 (kR 0),.mv 10 T24]) .skip
def w7_Zbv:C:=.kp [1,4,6,7,9,10,17] [[4],[6],[7],[9]] c7_Zbv
def ir_Zbv:C:=.sq (.rg [.bx 4 T0 (kR 5),.bx 6 T2 (kR 2),.bx 7 T3 (kR 0),.mv 8 (.b false)]) (.sq (.rg [.bd 11 0 [],.al 9 (kR 0),.st T9 T11 (kR 0),.mv 10 (.b false)]) (.sq (.sq (.rg [.ld 12 T6 (kR 2),.cv (some 13) 132 [(T12,.v (kR 2))],.mv 14 T13,.g 14 true (.ld 15 T6 (kR 2)),.g 14 true (.cv (some 16) 133 [(T15,.v (kR 2))]),.pk 17 T14 T16 (.b false)]) w7_Zbv) w10_Zbv))
noncomputable abbrev T_Zbv(nf:Nat):XT:=[e_ZbR nf,e_Zbc nf,e_Zbt nf,e_ZaZ nf]
noncomputable def m_Zbv(nf:Nat)(s:Schema)(ctx:List Typing)(e:Tm)(t:Ty):Option (Bool):=runF (T_Zbv nf) nf [.v (kR 5),.v (kL (kR 8)),.v (kR 2),.v (kR 0)] [.t 8 (.v .bool)] ir_Zbv (s,ctx,e,t,())
noncomputable def X_Zbv{R:Type}(nf:Nat):C->Env->(Xt->Env->Option R)->Option R:=xc (R:=R) (T_Zbv nf).S nf
noncomputable def j7_Zbv(nf:Nat)(ctx:List Typing)(s:Schema)(e:Tm)(t:Ty)(x17_7:Bool):Option (Bool):=X_Zbv nf c7_Zbv ⟨[(1,.v (kL (kR 8)) ctx),(4,.pt [4] 0),(6,.pt [6] 0),(7,.pt [7] 0),(9,.pt [9] 0),(10,.v .bool false),(17,.v .bool x17_7)],[([4],.box [.v (kL (kR 4)) s.tables]),([6],.box [.v kI e.kind,.v kS e.name,.v kI e.n,.v kI e.type.kind,.v (kL kS) e.type.labels,.v (kL (kR 0)) e.type.args,.v (kL kS) e.labels,.v (kL (kR 2)) e.args]),([7],.box [.v kI t.kind,.v (kL kS) t.labels,.v (kL (kR 0)) t.args]),([9],.box [.v kI (0:Int),.nl kS,.nl (kR 0)])]⟩ (qS (X_Zbv nf w10_Zbv) (KF [.t 8 (.v .bool)]))
noncomputable def j10_Zbv(nf:Nat)(t:Ty)(x10_10:Bool)(y9_10_0:Int)(y9_10_1:List Str)(y9_10_2:List Ty):Option (Bool):=X_Zbv nf c10_Zbv ⟨[(7,.pt [7] 0),(9,.pt [9] 0),(10,.v .bool x10_10)],[([7],.box [.v kI t.kind,.v (kL kS) t.labels,.v (kL (kR 0)) t.args]),([9],.box [.v kI y9_10_0,.v (kL kS) y9_10_1,.v (kL (kR 0)) y9_10_2])]⟩ (KF [.t 8 (.v .bool)])
theorem j7_Zbv_eq(nf:Nat)(ctx:List Typing)(s:Schema)(e:Tm)(t:Ty)(x17_7:Bool):j7_Zbv nf ctx s e t x17_7=(br x17_7 (cb (m_Zbt nf nf s ctx (Tm.h e)) fun r22=>mark (j10_Zbv nf t r22.2 r22.1.kind r22.1.labels r22.1.args)) (mark (j10_Zbv nf t false (0:Int) ([]:List Str) ([]:List Ty)))):=by
 unfold j7_Zbv j10_Zbv c7_Zbv w10_Zbv
 generalize c10_Zbv=x0
 revert x0
 refine id ?_
 intro x0
 kernel_rfl
theorem j10_Zbv_eq(nf:Nat)(t:Ty)(x10_10:Bool)(y9_10_0:Int)(y9_10_1:List Str)(y9_10_2:List Ty):j10_Zbv nf t x10_10 y9_10_0 y9_10_1 y9_10_2=(br (x10_10==true) (cb (m_ZaZ nf nf (Ty.mk y9_10_0 y9_10_1 y9_10_2) (Ty.h t)) fun r29=>some r29) (some false)):=by kernel_rfl
theorem m_Zbv_eq(nf:Nat)(s:Schema)(ctx:List Typing)(e:Tm)(t:Ty):m_Zbv nf s ctx e t=(cb (m_ZbR nf nf (Tm.h e)) fun r13=>br (r13==true) (cb (m_Zbc nf nf (Tm.h e)) fun r16=>mark (j7_Zbv nf ctx s e t r16)) (mark (j7_Zbv nf ctx s e t false))):=by
 unfold m_Zbv j7_Zbv ir_Zbv w7_Zbv w10_Zbv
 generalize c7_Zbv=x0
 generalize c10_Zbv=x1
 revert x0 x1
 refine id ?_
 intro x0 x1
 kernel_rfl
noncomputable def e_Zbv(nf:Nat):XE:=eF 93 [.v (kR 5),.v (kL (kR 8)),.v (kR 2),.v (kR 0)] [.v .bool] (fun t=>m_Zbv nf t.1 t.2.1 t.2.2.1 t.2.2.2.1)
theorem o_Zbv(nf:Nat):conOK Tryz.prog 93 (e_Zbv nf).con:=by
 have ih:XT.ok Tryz.prog (T_Zbv nf):=by exact⟨o_ZbR nf,o_Zbc nf,o_Zbt nf,o_ZaZ nf,trivial⟩
 refine eF_ok fun t x h=> ?_
 obtain⟨s,ctx,e,t,_⟩:=t
 exact runF_ok (N:=31) ih Tryz.func93 (by kernel_rfl) rfl h
end Go.Q
