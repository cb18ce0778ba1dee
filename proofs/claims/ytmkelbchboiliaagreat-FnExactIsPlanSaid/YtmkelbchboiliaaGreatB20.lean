/- Plans: the reference's side. -/
import Derived.Test.YtmkelbchboiliaaGreatB23
import Derived.Test.YtmkelbchboiliaaGreatProg
import Derived.KernelRfl
set_option linter.unusedVariables false
set_option linter.unusedSimpArgs false
namespace Go.Q
open Go.Proofs
set_option maxRecDepth 20000
set_option maxHeartbeats 4000000
def c31_ZaL:C:=.sq (.rg [.mv 4 (.b true)]) .rt
def c15_ZaL:C:=.sq (.sq (.rg [.mv 50 T5,.fa 51 T2 2 5 7,.ld 52 T51 (kL (kR 2)),.ln 53 false T52,.bi 54 .lss T50 T53]) (.cd T54 .skip (.ex 0))) (.sq (.bk 1 (.sq (.dr [] [.fa 57 T2 2 5 7,.ld 58 T57 (kL (kR 2)),.mv 59 T5,.ia 60 T58 T59 (kR 2),.ld 61 T60 (kR 2),.fa 62 T3 2 5 7,.ld 63 T62 (kL (kR 2)),.mv 64 T5,.ia 65 T63 T64 (kR 2),.ld 66 T65 (kR 2)] [.cv (some 67) 151 [(T61,.v (kR 2)),(T66,.v (kR 2))],.un 68 .not T67]) (.cd T68 (.sq (.rg [.mv 4 (.b false)]) .rt) .skip))) (.rg [.mv 55 T5,.bi 56 .add T55 (.i 1),.mv 5 T56]))
def c10_ZaL:C:=.sq (.sq (.rg [.mv 5 (.i 0)]) (.bk 0 (.lk [2,3,5] [[2],[3]] c15_ZaL))) c31_ZaL
def c5_ZaL:C:=.cd T49 (.sq (.rg [.mv 4 (.b false)]) .rt) .skip
def w5_ZaL:C:=.kp [2,3,49] [[2],[3]] c5_ZaL
def ir_ZaL:C:=.sq (.rg [.bx 2 T0 (kR 2),.bx 3 T1 (kR 2),.mv 4 (.b false)]) (.sq (.sq (.rg [.fa 6 T2 2 0 0,.ld 7 T6 kI,.fa 8 T3 2 0 0,.ld 9 T8 kI,.bi 10 .neq T7 T9,.mv 11 T10,.g 11 false (.fa 12 T2 2 1 1),.g 11 false (.ld 13 T12 kS),.g 11 false (.fa 14 T3 2 1 1),.g 11 false (.ld 15 T14 kS),.g 11 false (.bi 16 .neq T13 T15),.pk 17 T11 (.b true) T16,.mv 18 T17,.g 18 false (.fa 19 T2 2 2 2),.g 18 false (.ld 20 T19 kI),.g 18 false (.fa 21 T3 2 2 2),.g 18 false (.ld 22 T21 kI),.g 18 false (.bi 23 .neq T20 T22),.pk 24 T18 (.b true) T23,.mv 25 T24,.g 25 false (.fa 26 T2 2 3 3),.g 25 false (.ld 27 T26 (kR 0)),.g 25 false (.fa 28 T3 2 3 3),.g 25 false (.ld 29 T28 (kR 0)),.g 25 false (.cv (some 30) 135 [(T27,.v (kR 0)),(T29,.v (kR 0))]),.g 25 false (.un 31 .not T30),.pk 32 T25 (.b true) T31,.mv 33 T32,.g 33 false (.fa 34 T2 2 4 6),.g 33 false (.ld 35 T34 (kL kS)),.g 33 false (.fa 36 T3 2 4 6),.g 33 false (.ld 37 T36 (kL kS)),.g 33 false (.cv (some 38) 146 [(T35,.v (kL kS)),(T37,.v (kL kS))]),.g 33 false (.un 39 .not T38),.pk 40 T33 (.b true) T39,.mv 41 T40,.g 41 false (.fa 42 T2 2 5 7),.g 41 false (.ld 43 T42 (kL (kR 2))),.g 41 false (.ln 44 false T43),.g 41 false (.fa 45 T3 2 5 7),.g 41 false (.ld 46 T45 (kL (kR 2))),.g 41 false (.ln 47 false T46),.g 41 false (.bi 48 .neq T44 T47),.pk 49 T41 (.b true) T48]) w5_ZaL) c10_ZaL)
noncomputable def B_ZaL(nf:Nat):XT:=[e_ZaM nf,e_Zbz nf]
noncomputable def G_ZaL(nf:Nat):Nat->XT
 |0=>[]
 |kf+1=>[eF 151 [.v (kR 2),.v (kR 2)] [.v .bool] (fun t=>(fun(a:Tm) (b:Tm)=>runF (G_ZaL nf kf++B_ZaL nf) nf [.v (kR 2),.v (kR 2)] [.t 4 (.v .bool)] ir_ZaL (a,b,())) t.1 t.2.1)]
noncomputable abbrev T_ZaL(nf kf:Nat):XT:=G_ZaL nf kf++B_ZaL nf
noncomputable def m_ZaL(nf kf:Nat)(a:Tm)(b:Tm):Option (Bool):=runF (T_ZaL nf kf) nf [.v (kR 2),.v (kR 2)] [.t 4 (.v .bool)] ir_ZaL (a,b,())
noncomputable def X_ZaL{R:Type}(nf kf:Nat):C->Env->(Xt->Env->Option R)->Option R:=xc (R:=R) (T_ZaL nf kf).S nf
noncomputable def j5_ZaL(nf kf:Nat)(a:Tm)(b:Tm)(x49_5:Bool):Option (Bool):=X_ZaL nf kf c5_ZaL ⟨[(2,.pt [2] 0),(3,.pt [3] 0),(49,.v .bool x49_5)],[([2],.box [.v kI a.kind,.v kS a.name,.v kI a.n,.v kI a.type.kind,.v (kL kS) a.type.labels,.v (kL (kR 0)) a.type.args,.v (kL kS) a.labels,.v (kL (kR 2)) a.args]),([3],.box [.v kI b.kind,.v kS b.name,.v kI b.n,.v kI b.type.kind,.v (kL kS) b.type.labels,.v (kL (kR 0)) b.type.args,.v (kL kS) b.labels,.v (kL (kR 2)) b.args])]⟩ (qS (X_ZaL nf kf c10_ZaL) (KF [.t 4 (.v .bool)]))
noncomputable def l14_ZaL(nf kf:Nat)(m14:Nat)(a:Tm)(b:Tm)(x5_14:Int):Option (Bool):=xit [2,3,5] [[2],[3]] (X_ZaL nf kf c15_ZaL) (qB 0 (qS (X_ZaL nf kf c31_ZaL) (KF [.t 4 (.v .bool)]))) m14 ⟨[(2,.pt [2] 0),(3,.pt [3] 0),(5,.v kI x5_14)],[([2],.box [.v kI a.kind,.v kS a.name,.v kI a.n,.v kI a.type.kind,.v (kL kS) a.type.labels,.v (kL (kR 0)) a.type.args,.v (kL kS) a.labels,.v (kL (kR 2)) a.args]),([3],.box [.v kI b.kind,.v kS b.name,.v kI b.n,.v kI b.type.kind,.v (kL kS) b.type.labels,.v (kL (kR 0)) b.type.args,.v (kL kS) b.labels,.v (kL (kR 2)) b.args])]⟩
theorem j5_ZaL_eq(nf kf:Nat)(a:Tm)(b:Tm)(x49_5:Bool):j5_ZaL nf (kf+1) a b x49_5=(br x49_5 (some false) (mark (l14_ZaL nf (kf+1) nf a b (0:Int)))):=by kernel_rfl
theorem l14_ZaL_eq(nf kf:Nat)(m14:Nat)(a:Tm)(b:Tm)(x5_14:Int):l14_ZaL nf (kf+1) (m14+1) a b x5_14=(br (decide (x5_14<(List.length a.args:Int))) (gg (0<=x5_14∧x5_14<(List.length a.args:Int))<|gg (0<=x5_14∧x5_14<(List.length b.args:Int))<|cb (m_ZaL nf kf (gt a.args x5_14 Tm.zero) (gt b.args x5_14 Tm.zero)) fun r67=>br (!r67) (some false) (mark (l14_ZaL nf (kf+1) m14 a b (w64 (x5_14+(1:Int)))))) (some true)):=by kernel_rfl
theorem m_ZaL_eq(nf kf:Nat)(a:Tm)(b:Tm):m_ZaL nf (kf+1) a b=(br ((!(a.kind==b.kind))==false) (br ((!(a.name==b.name))==false) (br ((!(a.n==b.n))==false) (cb (m_ZaM nf nf (Ty.h a.type) (Ty.h b.type)) fun r30=>br ((!r30)==false) (cb (m_Zbz nf a.labels b.labels) fun r38=>br ((!r38)==false) (mark (j5_ZaL nf (kf+1) a b (!((List.length a.args:Int)==(List.length b.args:Int))))) (mark (j5_ZaL nf (kf+1) a b true))) (mark (j5_ZaL nf (kf+1) a b true))) (mark (j5_ZaL nf (kf+1) a b true))) (mark (j5_ZaL nf (kf+1) a b true))) (mark (j5_ZaL nf (kf+1) a b true))):=by
 unfold m_ZaL j5_ZaL ir_ZaL w5_ZaL c10_ZaL c31_ZaL
 generalize c5_ZaL=x0
 revert x0
 refine id ?_
 intro x0
 kernel_rfl
noncomputable def e_ZaL(nf:Nat):XE:=eF 151 [.v (kR 2),.v (kR 2)] [.v .bool] (fun t=>m_ZaL nf nf t.1 t.2.1)
theorem gok_ZaL(nf:Nat):∀kf:Nat,XT.ok Tryz.prog (G_ZaL nf kf++B_ZaL nf)
 |0=>by exact⟨o_ZaM nf,o_Zbz nf,trivial⟩
 |kf+1=>by
  have ih:=gok_ZaL nf kf
  refine⟨?_,(by exact⟨o_ZaM nf,o_Zbz nf,trivial⟩)⟩
  ·refine eF_ok fun t x h=> ?_
   obtain⟨a,b,_⟩:=t
   exact runF_ok (N:=69) ih Tryz.func151 (by kernel_rfl) rfl h
theorem o_ZaL(nf:Nat):conOK Tryz.prog 151 (e_ZaL nf).con:=by
 have ih:=gok_ZaL nf nf
 refine eF_ok fun t x h=> ?_
 obtain⟨a,b,_⟩:=t
 exact runF_ok (N:=69) ih Tryz.func151 (by kernel_rfl) rfl h
def ir_Zbh:C:=.sq (.rg [.bx 1 T0 (kR 2),.mv 2 (.b false)]) (.sq (.rg [.ld 3 T1 (kR 2),.bd 4 2 [],.cv (some 5) 151 [(T3,.v (kR 2)),(T4,.v (kR 2))],.mv 2 T5]) .rt)
noncomputable abbrev T_Zbh(nf:Nat):XT:=[e_ZaL nf]
noncomputable def m_Zbh(nf:Nat)(e:Tm):Option (Bool):=runF (T_Zbh nf) nf [.v (kR 2)] [.t 2 (.v .bool)] ir_Zbh (e,())
theorem m_Zbh_eq(nf:Nat)(e:Tm):m_Zbh nf e=(cb (m_ZaL nf nf (Tm.h e) (Tm.mk (0:Int) ([]:Str) (0:Int) (Ty.mk (0:Int) ([]:List Str) ([]:List Ty)) ([]:List Str) ([]:List Tm))) fun r5=>some r5):=by kernel_rfl
noncomputable def e_Zbh(nf:Nat):XE:=eF 114 [.v (kR 2)] [.v .bool] (fun t=>m_Zbh nf t.1)
theorem o_Zbh(nf:Nat):conOK Tryz.prog 114 (e_Zbh nf).con:=by
 have ih:XT.ok Tryz.prog (T_Zbh nf):=by exact⟨o_ZaL nf,trivial⟩
 refine eF_ok fun t x h=> ?_
 obtain⟨e,_⟩:=t
 exact runF_ok (N:=6) ih Tryz.func114 (by kernel_rfl) rfl h
def c45_ZaP:C:=.sq (.rg [.mv 2 (.b true)]) .rt
def c44_ZaP:C:=.rg [.mv 39 T3,.bi 40 .add T39 (.i 1),.mv 3 T40]
def c37_ZaP:C:=.sq (.rg [.fa 63 T1 2 5 7,.ld 64 T63 (kL (kR 2)),.mv 65 T3,.ia 66 T64 T65 (kR 2),.ld 67 T66 (kR 2),.cv (some 68) 133 [(T67,.v (kR 2))],.un 69 .not T68]) (.cd T69 (.sq (.rg [.mv 2 (.b false)]) .rt) .skip)
def c34_ZaP:C:=.cd T62 (.ex 1) .skip
def w34_ZaP:C:=.kp [1,3,62] [[1]] c34_ZaP
def c23_ZaP:C:=.sq (.sq (.rg [.mv 34 T3,.fa 35 T1 2 5 7,.ld 36 T35 (kL (kR 2)),.ln 37 false T36,.bi 38 .lss T34 T37]) (.cd T38 .skip (.ex 0))) (.sq (.bk 1 (.sq (.sq (.rg [.fa 41 T1 2 0 0,.ld 42 T41 kI,.bi 43 .eql T42 (.i 6),.mv 44 T43,.g 44 true (.fa 45 T1 2 5 7),.g 44 true (.ld 46 T45 (kL (kR 2))),.g 44 true (.mv 47 T3),.g 44 true (.ia 48 T46 T47 (kR 2)),.g 44 true (.fa 49 T48 2 0 0),.g 44 true (.ld 50 T49 kI),.g 44 true (.bi 51 .eql T50 (.i 1)),.pk 52 T44 T51 (.b false),.mv 53 T52,.g 53 true (.fa 54 T1 2 5 7),.g 53 true (.ld 55 T54 (kL (kR 2))),.g 53 true (.mv 56 T3),.g 53 true (.ia 57 T55 T56 (kR 2)),.g 53 true (.fa 58 T57 2 5 7),.g 53 true (.ld 59 T58 (kL (kR 2))),.g 53 true (.ln 60 false T59),.g 53 true (.bi 61 .eql T60 (.i 0)),.pk 62 T53 T61 (.b false)]) w34_ZaP) c37_ZaP)) c44_ZaP)
def c18_ZaP:C:=.sq (.sq (.rg [.mv 3 (.i 0)]) (.bk 0 (.lk [1,3] [[1]] c23_ZaP))) c45_ZaP
def c13_ZaP:C:=.cd T33 (.sq (.rg [.mv 2 (.b false)]) .rt) .skip
def w13_ZaP:C:=.kp [1,33] [[1]] c13_ZaP
def c10_ZaP:C:=.sq (.sq (.rg [.fa 17 T1 2 0 0,.ld 18 T17 kI,.bi 19 .eql T18 (.i 10),.mv 20 T19,.g 20 true (.fa 21 T1 2 5 7),.g 20 true (.ld 22 T21 (kL (kR 2))),.g 20 true (.ln 23 false T22),.g 20 true (.bi 24 .eql T23 (.i 0)),.g 20 true (.mv 25 T24),.g 25 false (.fa 26 T1 2 5 7),.g 25 false (.ld 27 T26 (kL (kR 2))),.g 25 false (.ia 28 T27 (.i 0) (kR 2)),.g 25 false (.fa 29 T28 2 0 0),.g 25 false (.ld 30 T29 kI),.g 25 false (.bi 31 .neq T30 (.i 12)),.g 20 true (.pk 32 T25 (.b true) T31),.pk 33 T20 T32 (.b false)]) w13_ZaP) c18_ZaP
def c5_ZaP:C:=.cd T16 (.sq (.rg [.mv 2 (.b false)]) .rt) .skip
def w5_ZaP:C:=.kp [1,16] [[1]] c5_ZaP
def ir_ZaP:C:=.sq (.rg [.bx 1 T0 (kR 2),.mv 2 (.b false)]) (.sq (.sq (.rg [.fa 4 T1 2 0 0,.ld 5 T4 kI,.bi 6 .eql T5 (.i 13),.mv 7 T6,.g 7 false (.fa 8 T1 2 0 0),.g 7 false (.ld 9 T8 kI),.g 7 false (.bi 10 .eql T9 (.i 14)),.pk 11 T7 (.b true) T10,.mv 12 T11,.g 12 false (.fa 13 T1 2 0 0),.g 12 false (.ld 14 T13 kI),.g 12 false (.bi 15 .eql T14 (.i 1)),.pk 16 T12 (.b true) T15]) w5_ZaP) c10_ZaP)
noncomputable def B_ZaP(nf:Nat):XT:=[]
noncomputable def G_ZaP(nf:Nat):Nat->XT
 |0=>[]
 |kf+1=>[eF 133 [.v (kR 2)] [.v .bool] (fun t=>(fun(e:Tm)=>runF (G_ZaP nf kf++B_ZaP nf) nf [.v (kR 2)] [.t 2 (.v .bool)] ir_ZaP (e,())) t.1)]
noncomputable abbrev T_ZaP(nf kf:Nat):XT:=G_ZaP nf kf++B_ZaP nf
noncomputable def m_ZaP(nf kf:Nat)(e:Tm):Option (Bool):=runF (T_ZaP nf kf) nf [.v (kR 2)] [.t 2 (.v .bool)] ir_ZaP (e,())
noncomputable def X_ZaP{R:Type}(nf kf:Nat):C->Env->(Xt->Env->Option R)->Option R:=xc (R:=R) (T_ZaP nf kf).S nf
noncomputable def j5_ZaP(nf kf:Nat)(e:Tm)(x16_5:Bool):Option (Bool):=X_ZaP nf kf c5_ZaP ⟨[(1,.pt [1] 0),(16,.v .bool x16_5)],[([1],.box [.v kI e.kind,.v kS e.name,.v kI e.n,.v kI e.type.kind,.v (kL kS) e.type.labels,.v (kL (kR 0)) e.type.args,.v (kL kS) e.labels,.v (kL (kR 2)) e.args])]⟩ (qS (X_ZaP nf kf c10_ZaP) (KF [.t 2 (.v .bool)]))
noncomputable def j13_ZaP(nf kf:Nat)(e:Tm)(x33_13:Bool):Option (Bool):=X_ZaP nf kf c13_ZaP ⟨[(1,.pt [1] 0),(33,.v .bool x33_13)],[([1],.box [.v kI e.kind,.v kS e.name,.v kI e.n,.v kI e.type.kind,.v (kL kS) e.type.labels,.v (kL (kR 0)) e.type.args,.v (kL kS) e.labels,.v (kL (kR 2)) e.args])]⟩ (qS (X_ZaP nf kf c18_ZaP) (KF [.t 2 (.v .bool)]))
noncomputable def j34_ZaP(nf kf:Nat)(m22:Nat)(x3_22:Int)(e:Tm)(x62_34:Bool):Option (Bool):=X_ZaP nf kf c34_ZaP ⟨[(1,.pt [1] 0),(3,.v kI x3_22),(62,.v .bool x62_34)],[([1],.box [.v kI e.kind,.v kS e.name,.v kI e.n,.v kI e.type.kind,.v (kL kS) e.type.labels,.v (kL (kR 0)) e.type.args,.v (kL kS) e.labels,.v (kL (kR 2)) e.args])]⟩ (qS (X_ZaP nf kf c37_ZaP) (qB 1 (qS (X_ZaP nf kf c44_ZaP) (qM [1,3] [[1]] (X_ZaP nf kf c23_ZaP) m22 (qB 0 (qS (X_ZaP nf kf c45_ZaP) (KF [.t 2 (.v .bool)])))))))
noncomputable def l22_ZaP(nf kf:Nat)(m22:Nat)(e:Tm)(x3_22:Int):Option (Bool):=xit [1,3] [[1]] (X_ZaP nf kf c23_ZaP) (qB 0 (qS (X_ZaP nf kf c45_ZaP) (KF [.t 2 (.v .bool)]))) m22 ⟨[(1,.pt [1] 0),(3,.v kI x3_22)],[([1],.box [.v kI e.kind,.v kS e.name,.v kI e.n,.v kI e.type.kind,.v (kL kS) e.type.labels,.v (kL (kR 0)) e.type.args,.v (kL kS) e.labels,.v (kL (kR 2)) e.args])]⟩
theorem j5_ZaP_eq(nf kf:Nat)(e:Tm)(x16_5:Bool):j5_ZaP nf (kf+1) e x16_5=(br x16_5 (some false) (br ((e.kind==(10:Int))==true) (br (((List.length e.args:Int)==(0:Int))==false) (gg (0<=(0:Int)∧(0:Int)<(List.length e.args:Int))<|mark (j13_ZaP nf (kf+1) e (!(((gt e.args (0:Int) Tm.zero).kind)==(12:Int))))) (mark (j13_ZaP nf (kf+1) e true))) (mark (j13_ZaP nf (kf+1) e false)))):=by
 unfold j5_ZaP j13_ZaP c5_ZaP c10_ZaP w13_ZaP c18_ZaP c45_ZaP
 generalize c13_ZaP=x0
 revert x0
 refine id ?_
 intro x0
 kernel_rfl
theorem j13_ZaP_eq(nf kf:Nat)(e:Tm)(x33_13:Bool):j13_ZaP nf (kf+1) e x33_13=(br x33_13 (some false) (mark (l22_ZaP nf (kf+1) nf e (0:Int)))):=by kernel_rfl
theorem j34_ZaP_eq(nf kf:Nat)(m22:Nat)(x3_22:Int)(e:Tm)(x62_34:Bool):j34_ZaP nf (kf+1) m22 x3_22 e x62_34=(br x62_34 (mark (l22_ZaP nf (kf+1) m22 e (w64 (x3_22+(1:Int))))) (gg (0<=x3_22∧x3_22<(List.length e.args:Int))<|cb (m_ZaP nf kf (gt e.args x3_22 Tm.zero)) fun r68=>br (!r68) (some false) (mark (l22_ZaP nf (kf+1) m22 e (w64 (x3_22+(1:Int))))))):=by kernel_rfl
theorem l22_ZaP_eq(nf kf:Nat)(m22:Nat)(e:Tm)(x3_22:Int):l22_ZaP nf (kf+1) (m22+1) e x3_22=(br (decide (x3_22<(List.length e.args:Int))) (br ((e.kind==(6:Int))==true) (gg (0<=x3_22∧x3_22<(List.length e.args:Int))<|br ((((gt e.args x3_22 Tm.zero).kind)==(1:Int))==true) (gg (0<=x3_22∧x3_22<(List.length e.args:Int))<|mark (j34_ZaP nf (kf+1) m22 x3_22 e ((List.length ((gt e.args x3_22 Tm.zero).args):Int)==(0:Int)))) (mark (j34_ZaP nf (kf+1) m22 x3_22 e false))) (mark (j34_ZaP nf (kf+1) m22 x3_22 e false))) (some true)):=by
 unfold l22_ZaP j34_ZaP c23_ZaP c45_ZaP w34_ZaP c37_ZaP c44_ZaP
 generalize c34_ZaP=x0
 revert x0
 refine id ?_
 intro x0
 kernel_rfl
theorem m_ZaP_eq(nf kf:Nat)(e:Tm):m_ZaP nf (kf+1) e=(br ((e.kind==(13:Int))==false) (br ((e.kind==(14:Int))==false) (mark (j5_ZaP nf (kf+1) e (e.kind==(1:Int)))) (mark (j5_ZaP nf (kf+1) e true))) (mark (j5_ZaP nf (kf+1) e true))):=by
 unfold m_ZaP j5_ZaP ir_ZaP w5_ZaP c10_ZaP w13_ZaP c18_ZaP c45_ZaP
 generalize c5_ZaP=x0
 generalize c13_ZaP=x1
 revert x0 x1
 refine id ?_
 intro x0 x1
 kernel_rfl
noncomputable def e_ZaP(nf:Nat):XE:=eF 133 [.v (kR 2)] [.v .bool] (fun t=>m_ZaP nf nf t.1)
theorem gok_ZaP(nf:Nat):∀kf:Nat,XT.ok Tryz.prog (G_ZaP nf kf++B_ZaP nf)
 |0=>by exact trivial
 |kf+1=>by
  have ih:=gok_ZaP nf kf
  refine⟨?_,(by exact trivial)⟩
  ·refine eF_ok fun t x h=> ?_
   obtain⟨e,_⟩:=t
   exact runF_ok (N:=70) ih Tryz.func133 (by kernel_rfl) rfl h
theorem o_ZaP(nf:Nat):conOK Tryz.prog 133 (e_ZaP nf).con:=by
 have ih:=gok_ZaP nf nf
 refine eF_ok fun t x h=> ?_
 obtain⟨e,_⟩:=t
 exact runF_ok (N:=70) ih Tryz.func133 (by kernel_rfl) rfl h
def c10_Zbg:C:=.sq (.rg [.mv 25 T10,.mv 26 T25,.g 26 true (.ld 27 T9 (kR 0)),.g 26 true (.ld 28 T7 (kR 0)),.g 26 true (.cv (some 29) 135 [(T27,.v (kR 0)),(T28,.v (kR 0))]),.pk 30 T26 T29 (.b false),.mv 8 T30]) .rt
def w10_Zbg:C:=.pb 9 1 (kL kS) (.pb 9 2 (kL (kR 0)) (.kp [7,9,10] [[7],[9]] c10_Zbg))
def c7_Zbg:C:=.cd T17 (.rg [.ld 19 T4 (kR 5),.mv 20 T1,.ld 21 T6 (kR 2),.ca (some 22) 134 [(T19,.v (kR 5)),(T20,.v (kL (kR 8))),(T21,.v (kR 2))],.mv 18 T22,.xt 23 T18 0,.xt 24 T18 1,.st T9 T23 (kR 0),.mv 10 T24]) .skip
def w7_Zbg:C:=.kp [1,4,6,7,9,10,17] [[4],[6],[7],[9]] c7_Zbg
def ir_Zbg:C:=.sq (.rg [.bx 4 T0 (kR 5),.bx 6 T2 (kR 2),.bx 7 T3 (kR 0),.mv 8 (.b false)]) (.sq (.rg [.bd 11 0 [],.al 9 (kR 0),.st T9 T11 (kR 0),.mv 10 (.b false)]) (.sq (.sq (.rg [.ld 12 T6 (kR 2),.cv (some 13) 132 [(T12,.v (kR 2))],.mv 14 T13,.g 14 true (.ld 15 T6 (kR 2)),.g 14 true (.cv (some 16) 133 [(T15,.v (kR 2))]),.pk 17 T14 T16 (.b false)]) w7_Zbg) w10_Zbg))
noncomputable abbrev T_Zbg(nf:Nat):XT:=[e_ZbC nf,e_ZaP nf,e_Zbe nf,e_ZaM nf]
noncomputable def m_Zbg(nf:Nat)(s:Schema)(ctx:List Typing)(e:Tm)(t:Ty):Option (Bool):=runF (T_Zbg nf) nf [.v (kR 5),.v (kL (kR 8)),.v (kR 2),.v (kR 0)] [.t 8 (.v .bool)] ir_Zbg (s,ctx,e,t,())
noncomputable def X_Zbg{R:Type}(nf:Nat):C->Env->(Xt->Env->Option R)->Option R:=xc (R:=R) (T_Zbg nf).S nf
noncomputable def j7_Zbg(nf:Nat)(ctx:List Typing)(s:Schema)(e:Tm)(t:Ty)(x17_7:Bool):Option (Bool):=X_Zbg nf c7_Zbg ⟨[(1,.v (kL (kR 8)) ctx),(4,.pt [4] 0),(6,.pt [6] 0),(7,.pt [7] 0),(9,.pt [9] 0),(10,.v .bool false),(17,.v .bool x17_7)],[([4],.box [.v (kL (kR 4)) s.tables]),([6],.box [.v kI e.kind,.v kS e.name,.v kI e.n,.v kI e.type.kind,.v (kL kS) e.type.labels,.v (kL (kR 0)) e.type.args,.v (kL kS) e.labels,.v (kL (kR 2)) e.args]),([7],.box [.v kI t.kind,.v (kL kS) t.labels,.v (kL (kR 0)) t.args]),([9],.box [.v kI (0:Int),.nl kS,.nl (kR 0)])]⟩ (qS (X_Zbg nf w10_Zbg) (KF [.t 8 (.v .bool)]))
noncomputable def j10_Zbg(nf:Nat)(t:Ty)(x10_10:Bool)(y9_10_0:Int)(y9_10_1:List Str)(y9_10_2:List Ty):Option (Bool):=X_Zbg nf c10_Zbg ⟨[(7,.pt [7] 0),(9,.pt [9] 0),(10,.v .bool x10_10)],[([7],.box [.v kI t.kind,.v (kL kS) t.labels,.v (kL (kR 0)) t.args]),([9],.box [.v kI y9_10_0,.v (kL kS) y9_10_1,.v (kL (kR 0)) y9_10_2])]⟩ (KF [.t 8 (.v .bool)])
theorem j7_Zbg_eq(nf:Nat)(ctx:List Typing)(s:Schema)(e:Tm)(t:Ty)(x17_7:Bool):j7_Zbg nf ctx s e t x17_7=(br x17_7 (cb (m_Zbe nf nf s ctx (Tm.h e)) fun r22=>mark (j10_Zbg nf t r22.2 r22.1.kind r22.1.labels r22.1.args)) (mark (j10_Zbg nf t false (0:Int) ([]:List Str) ([]:List Ty)))):=by
 unfold j7_Zbg j10_Zbg c7_Zbg w10_Zbg
 generalize c10_Zbg=x0
 revert x0
 refine id ?_
 intro x0
 kernel_rfl
theorem j10_Zbg_eq(nf:Nat)(t:Ty)(x10_10:Bool)(y9_10_0:Int)(y9_10_1:List Str)(y9_10_2:List Ty):j10_Zbg nf t x10_10 y9_10_0 y9_10_1 y9_10_2=(br (x10_10==true) (cb (m_ZaM nf nf (Ty.mk y9_10_0 y9_10_1 y9_10_2) (Ty.h t)) fun r29=>some r29) (some false)):=by kernel_rfl
theorem m_Zbg_eq(nf:Nat)(s:Schema)(ctx:List Typing)(e:Tm)(t:Ty):m_Zbg nf s ctx e t=(cb (m_ZbC nf nf (Tm.h e)) fun r13=>br (r13==true) (cb (m_ZaP nf nf (Tm.h e)) fun r16=>mark (j7_Zbg nf ctx s e t r16)) (mark (j7_Zbg nf ctx s e t false))):=by
 unfold m_Zbg j7_Zbg ir_Zbg w7_Zbg w10_Zbg
 generalize c7_Zbg=x0
 generalize c10_Zbg=x1
 revert x0 x1
 refine id ?_
 intro x0 x1
 kernel_rfl
noncomputable def e_Zbg(nf:Nat):XE:=eF 93 [.v (kR 5),.v (kL (kR 8)),.v (kR 2),.v (kR 0)] [.v .bool] (fun t=>m_Zbg nf t.1 t.2.1 t.2.2.1 t.2.2.2.1)
theorem o_Zbg(nf:Nat):conOK Tryz.prog 93 (e_Zbg nf).con:=by
 have ih:XT.ok Tryz.prog (T_Zbg nf):=by exact⟨o_ZbC nf,o_ZaP nf,o_Zbe nf,o_ZaM nf,trivial⟩
 refine eF_ok fun t x h=> ?_
 obtain⟨s,ctx,e,t,_⟩:=t
 exact runF_ok (N:=31) ih Tryz.func93 (by kernel_rfl) rfl h
def c25_ZaW:C:=.sq (.rg [.mv 32 T3,.mv 2 T32]) .rt
def c15_ZaW:C:=.sq (.sq (.rg [.mv 17 T4,.fa 18 T1 17 5 12,.ld 19 T18 (kL (kR 17)),.ln 20 false T19,.bi 21 .lss T17 T20]) (.cd T21 .skip (.ex 0))) (.sq (.bk 1 (.rg [.mv 24 T3,.fa 25 T1 17 5 12,.ld 26 T25 (kL (kR 17)),.mv 27 T4,.ia 28 T26 T27 (kR 17),.ld 29 T28 (kR 17),.cv (some 30) 32 [(T29,.v (kR 17))],.ap 31 [3] true (kR 3) T24 T30,.mv 3 T31])) (.rg [.mv 22 T4,.bi 23 .add T22 (.i 1),.mv 4 T23]))
def c10_ZaW:C:=.sq (.sq (.rg [.mv 4 (.i 0)]) (.bk 0 (.lk [1,3,4] [[1],[3]] c15_ZaW))) c25_ZaW
def w10_ZaW:C:=.gt 3 true (kR 3) (.kp [1,3] [[1],[3]] c10_ZaW)
def ir_ZaW:C:=.sq (.rg [.bx 1 T0 (kR 17),.mv 2 (.nl (kR 3))]) (.sq (.rg [.bs 5 true (kR 3) [],.mv 3 T5]) (.sq (.sq (.rg [.fa 6 T1 17 0 0,.ld 7 T6 kI,.bi 8 .eql T7 (.i 2)]) (.cd T8 (.gt 3 true (kR 3) (.rg [.mv 9 T3,.fa 10 T1 17 1 1,.ld 11 T10 kS,.fa 12 T1 17 2 2,.ld 13 T12 kS,.bd 14 3 [(0,1,T11),(1,1,T13)],.bs 15 true (kR 3) [T14],.ap 16 [3] true (kR 3) T9 T15,.mv 3 T16])) .skip)) w10_ZaW))
noncomputable def B_ZaW(nf:Nat):XT:=[]
noncomputable def G_ZaW(nf:Nat):Nat->XT
 |0=>[]
 |kf+1=>[eF 32 [.v (kR 17)] [.o (kL (kR 3))] (fun t=>(fun(p:Plan)=>runF (G_ZaW nf kf++B_ZaW nf) nf [.v (kR 17)] [.t 2 (.o (kL (kR 3)))] ir_ZaW (p,())) t.1)]
noncomputable abbrev T_ZaW(nf kf:Nat):XT:=G_ZaW nf kf++B_ZaW nf
noncomputable def m_ZaW(nf kf:Nat)(p:Plan):Option (List Gen):=runF (T_ZaW nf kf) nf [.v (kR 17)] [.t 2 (.o (kL (kR 3)))] ir_ZaW (p,())
noncomputable def X_ZaW{R:Type}(nf kf:Nat):C->Env->(Xt->Env->Option R)->Option R:=xc (R:=R) (T_ZaW nf kf).S nf
noncomputable def l14_ZaW(nf kf:Nat)(m14:Nat)(p:Plan)(x4_14:Int)(y3_14:List Gen):Option (List Gen):=xit [1,3,4] [[1],[3]] (X_ZaW nf kf c15_ZaW) (qB 0 (qS (X_ZaW nf kf c25_ZaW) (KF [.t 2 (.o (kL (kR 3)))]))) m14 ⟨[(1,.pt [1] 0),(3,.sl [3]),(4,.v kI x4_14)],[([1],.box [.v kI p.kind,.v kS p.var,.v kS p.table,.v kI p.cond.kind,.v kS p.cond.name,.v kI p.cond.n,.v kI p.cond.type.kind,.v (kL kS) p.cond.type.labels,.v (kL (kR 0)) p.cond.type.args,.v (kL kS) p.cond.labels,.v (kL (kR 2)) p.cond.args,.v (kL (kR 2)) p.keys,.v (kL (kR 17)) p.args]),([3],.row true false (kR 3) y3_14)]⟩
noncomputable def j10_ZaW(nf kf:Nat)(p:Plan)(y3_10:List Gen):Option (List Gen):=X_ZaW nf kf c10_ZaW ⟨[(1,.pt [1] 0),(3,.sl [3])],[([1],.box [.v kI p.kind,.v kS p.var,.v kS p.table,.v kI p.cond.kind,.v kS p.cond.name,.v kI p.cond.n,.v kI p.cond.type.kind,.v (kL kS) p.cond.type.labels,.v (kL (kR 0)) p.cond.type.args,.v (kL kS) p.cond.labels,.v (kL (kR 2)) p.cond.args,.v (kL (kR 2)) p.keys,.v (kL (kR 17)) p.args]),([3],.row true false (kR 3) y3_10)]⟩ (KF [.t 2 (.o (kL (kR 3)))])
theorem l14_ZaW_eq(nf kf:Nat)(m14:Nat)(p:Plan)(x4_14:Int)(y3_14:List Gen):l14_ZaW nf (kf+1) (m14+1) p x4_14 y3_14=(br (decide (x4_14<(List.length p.args:Int))) (gg (0<=x4_14∧x4_14<(List.length p.args:Int))<|cb (m_ZaW nf kf (gt p.args x4_14 Plan.zero)) fun r30=>gg (List.length y3_14+List.length r30<=33554432)<|mark (l14_ZaW nf (kf+1) m14 p (w64 (x4_14+(1:Int))) (y3_14++r30))) (some y3_14)):=by kernel_rfl
theorem j10_ZaW_eq(nf kf:Nat)(p:Plan)(y3_10:List Gen):j10_ZaW nf (kf+1) p y3_10=(mark (l14_ZaW nf (kf+1) nf p (0:Int) y3_10)):=by kernel_rfl
theorem m_ZaW_eq(nf kf:Nat)(p:Plan):m_ZaW nf (kf+1) p=(br (p.kind==(2:Int)) (gg (List.length ([]:List Gen)+List.length ([(Gen.mk p.var p.table)]:List Gen)<=33554432)<|mark (j10_ZaW nf (kf+1) p (([]:List Gen)++([(Gen.mk p.var p.table)]:List Gen)))) (mark (j10_ZaW nf (kf+1) p ([]:List Gen)))):=by
 unfold m_ZaW j10_ZaW ir_ZaW w10_ZaW
 generalize c10_ZaW=x0
 revert x0
 refine id ?_
 intro x0
 kernel_rfl
noncomputable def e_ZaW(nf:Nat):XE:=eF 32 [.v (kR 17)] [.o (kL (kR 3))] (fun t=>m_ZaW nf nf t.1)
theorem gok_ZaW(nf:Nat):∀kf:Nat,XT.ok Tryz.prog (G_ZaW nf kf++B_ZaW nf)
 |0=>by exact trivial
 |kf+1=>by
  have ih:=gok_ZaW nf kf
  refine⟨?_,(by exact trivial)⟩
  ·refine eF_ok fun t x h=> ?_
   obtain⟨p,_⟩:=t
   exact runF_ok (N:=33) ih Tryz.func32 (by kernel_rfl) rfl h
theorem o_ZaW(nf:Nat):conOK Tryz.prog 32 (e_ZaW nf).con:=by
 have ih:=gok_ZaW nf nf
 refine eF_ok fun t x h=> ?_
 obtain⟨p,_⟩:=t
 exact runF_ok (N:=33) ih Tryz.func32 (by kernel_rfl) rfl h
def c31_Zbl:C:=.sq (.rg [.mv 62 T6,.mv 4 T62,.mv 5 (.b true)]) .rt
def c30_Zbl:C:=.rg [.mv 17 T7,.bi 18 .add T17 (.i 1),.mv 7 T18]
def c29_Zbl:C:=.dr [] [.mv 54 T6,.mv 55 T1,.mv 56 T7,.ia 57 T55 T56 (kR 3),.fa 58 T57 3 0 0,.ld 59 T58 kS,.ld 60 T8 (kR 0)] [.cv (some 61) 73 [(T54,.v (kL (kR 8))),(T59,.v kS),(T60,.v (kR 0))],.mv 6 T61]
def c24_Zbl:C:=.cd T52 (.sq (.rg [.mv 53 T6,.mv 4 T53,.mv 5 (.b false)]) .rt) .skip
def w24_Zbl:C:=.kp [1,2,6,7,8,52] [[2],[8]] c24_Zbl
def c9_Zbl:C:=.sq (.sq (.rg [.mv 13 T7,.mv 14 T1,.ln 15 false T14,.bi 16 .lss T13 T15]) (.cd T16 .skip (.ex 0))) (.sq (.bk 1 (.sq (.dw [26,8] [19] [.ld 20 T2 (kR 5),.mv 21 T1,.mv 22 T7,.ia 23 T21 T22 (kR 3),.fa 24 T23 3 1 1,.ld 25 T24 kS,.ca (some 26) 70 [(T20,.v (kR 5)),(T25,.v kS)],.mv 19 T26,.xt 27 T19 0,.xt 28 T19 1,.al 8 (kR 0)] 8 T27 (kR 0) [.mv 9 T28]) (.sq (.rg [.mv 30 T6,.mv 31 T1,.mv 32 T7,.ia 33 T31 T32 (kR 3),.fa 34 T33 3 0 0,.ld 35 T34 kS,.ca (some 36) 71 [(T30,.v (kL (kR 8))),(T35,.v kS)],.mv 29 T36,.xt 37 T29 0,.xt 38 T29 1,.al 10 (kR 0),.st T10 T37 (kR 0),.mv 11 T38]) (.sq (.sq (.rg [.mv 39 T9,.un 40 .not T39,.mv 41 T40,.g 41 false (.mv 42 T11),.pk 43 T41 (.b true) T42,.mv 44 T43,.g 44 false (.mv 45 T1),.g 44 false (.mv 46 T7),.g 44 false (.ia 47 T45 T46 (kR 3)),.g 44 false (.fa 48 T47 3 0 0),.g 44 false (.ld 49 T48 kS),.g 44 false (.cv (some 50) 72 [(T49,.v kS)]),.g 44 false (.un 51 .not T50),.pk 52 T44 (.b true) T51]) w24_Zbl) c29_Zbl)))) c30_Zbl)
def ir_Zbl:C:=.sq (.rg [.bx 2 T0 (kR 5),.mv 4 (.nl (kR 8)),.mv 5 (.b false)]) (.sq (.rg [.bs 12 false (kR 8) [],.mv 6 T12]) (.sq (.sq (.rg [.mv 7 (.i 0)]) (.bk 0 (.pz 6 (kL (kR 8)) (.lk [1,2,6,7] [[2]] c9_Zbl)))) c31_Zbl))
noncomputable abbrev T_Zbl(nf:Nat):XT:=[e_ZaX nf,e_Zbb nf,e_ZaQ nf,e_Zbf nf]
noncomputable def m_Zbl(nf:Nat)(s:Schema)(gens:List Gen):Option ((List Typing)×Bool):=runF (T_Zbl nf) nf [.v (kR 5),.v (kL (kR 3))] [.t 4 (.v (kL (kR 8))),.t 5 (.v .bool)] ir_Zbl (s,gens,())
noncomputable def X_Zbl{R:Type}(nf:Nat):C->Env->(Xt->Env->Option R)->Option R:=xc (R:=R) (T_Zbl nf).S nf
noncomputable def j24_Zbl(nf:Nat)(m8:Nat)(gens:List Gen)(x6_8:List Typing)(x7_8:Int)(s:Schema)(r26:Ty×Bool)(x52_24:Bool):Option ((List Typing)×Bool):=X_Zbl nf c24_Zbl ⟨[(1,.v (kL (kR 3)) gens),(2,.pt [2] 0),(6,.v (kL (kR 8)) x6_8),(7,.v kI x7_8),(8,.pt [8] 0),(52,.v .bool x52_24)],[([2],.box [.v (kL (kR 4)) s.tables]),([8],.box [.v kI r26.1.kind,.v (kL kS) r26.1.labels,.v (kL (kR 0)) r26.1.args])]⟩ (qS (X_Zbl nf c29_Zbl) (qB 1 (qS (X_Zbl nf c30_Zbl) (qM [1,2,6,7] [[2]] (X_Zbl nf c9_Zbl) m8 (qB 0 (qS (X_Zbl nf c31_Zbl) (KF [.t 4 (.v (kL (kR 8))),.t 5 (.v .bool)])))))))
noncomputable def l8_Zbl(nf:Nat)(m8:Nat)(gens:List Gen)(s:Schema)(x6_8:List Typing)(x7_8:Int):Option ((List Typing)×Bool):=xit [1,2,6,7] [[2]] (X_Zbl nf c9_Zbl) (qB 0 (qS (X_Zbl nf c31_Zbl) (KF [.t 4 (.v (kL (kR 8))),.t 5 (.v .bool)]))) m8 ⟨[(1,.v (kL (kR 3)) gens),(2,.pt [2] 0),(6,.v (kL (kR 8)) x6_8),(7,.v kI x7_8)],[([2],.box [.v (kL (kR 4)) s.tables])]⟩
theorem j24_Zbl_eq(nf:Nat)(m8:Nat)(gens:List Gen)(x6_8:List Typing)(x7_8:Int)(s:Schema)(r26:Ty×Bool)(x52_24:Bool):j24_Zbl nf m8 gens x6_8 x7_8 s r26 x52_24=(br x52_24 (some (x6_8,false)) (gg (0<=x7_8∧x7_8<(List.length gens:Int))<|cb (m_Zbf nf x6_8 ((gt gens x7_8 Gen.zero).var) (Ty.h r26.1)) fun r61=>mark (l8_Zbl nf m8 gens s r61 (w64 (x7_8+(1:Int)))))):=by kernel_rfl
theorem l8_Zbl_eq(nf:Nat)(m8:Nat)(gens:List Gen)(s:Schema)(x6_8:List Typing)(x7_8:Int):l8_Zbl nf (m8+1) gens s x6_8 x7_8=(br (decide (x7_8<(List.length gens:Int))) (gg (0<=x7_8∧x7_8<(List.length gens:Int))<|cb (m_ZaX nf s ((gt gens x7_8 Gen.zero).table)) fun r26=>gg (0<=x7_8∧x7_8<(List.length gens:Int))<|cb (m_Zbb nf x6_8 ((gt gens x7_8 Gen.zero).var)) fun r36=>br ((!r26.2)==false) (br (r36.2==false) (gg (0<=x7_8∧x7_8<(List.length gens:Int))<|cb (m_ZaQ nf ((gt gens x7_8 Gen.zero).var)) fun r50=>mark (j24_Zbl nf m8 gens x6_8 x7_8 s r26 (!r50))) (mark (j24_Zbl nf m8 gens x6_8 x7_8 s r26 true))) (mark (j24_Zbl nf m8 gens x6_8 x7_8 s r26 true))) (some (x6_8,true))):=by
 unfold l8_Zbl j24_Zbl c9_Zbl c31_Zbl w24_Zbl c29_Zbl c30_Zbl
 generalize c24_Zbl=x0
 revert x0
 refine id ?_
 intro x0
 kernel_rfl
theorem m_Zbl_eq(nf:Nat)(s:Schema)(gens:List Gen):m_Zbl nf s gens=(mark (l8_Zbl nf nf gens s ([]:List Typing) (0:Int))):=by kernel_rfl
noncomputable def e_Zbl(nf:Nat):XE:=eF 31 [.v (kR 5),.v (kL (kR 3))] [.v (kL (kR 8)),.v .bool] (fun t=>m_Zbl nf t.1 t.2.1)
theorem o_Zbl(nf:Nat):conOK Tryz.prog 31 (e_Zbl nf).con:=by
 have ih:XT.ok Tryz.prog (T_Zbl nf):=by exact⟨o_ZaX nf,o_Zbb nf,o_ZaQ nf,o_Zbf nf,trivial⟩
 refine eF_ok fun t x h=> ?_
 obtain⟨s,gens,_⟩:=t
 exact runF_ok (N:=63) ih Tryz.func31 (by kernel_rfl) rfl h
def c33_Zbk:C:=.sq (.rg [.mv 2 (.i (-1))]) .rt
def c22_Zbk:C:=.cd T7 (.sq (.rg [.mv 2 (.i 2)]) .rt) (.sq (.rg [.bi 11 .eql T3 (.i 4),.mv 10 T11]) (.cd T10 (.sq (.rg [.mv 2 (.i 1)]) .rt) .skip))
def w22_Zbk:C:=.kp [3,7] [] c22_Zbk
def c12_Zbk:C:=.cd T4 (.sq (.rg [.mv 2 (.i 0)]) .rt) (.sq (.sq (.rg [.bi 8 .eql T3 (.i 3),.mv 7 T8]) (.cd T7 .skip (.rg [.bi 9 .eql T3 (.i 5),.mv 7 T9]))) w22_Zbk)
def w12_Zbk:C:=.kp [3,4] [] c12_Zbk
def ir_Zbk:C:=.sq (.rg [.mv 2 (.i 0)]) (.sq (.sq (.rg [.mv 3 T0]) (.bk 0 (.sq (.sq (.rg [.bi 5 .eql T3 (.i 1),.mv 4 T5]) (.cd T4 .skip (.rg [.bi 6 .eql T3 (.i 2),.mv 4 T6]))) w12_Zbk))) c33_Zbk)
noncomputable abbrev T_Zbk(nf:Nat):XT:=[]
noncomputable def m_Zbk(nf:Nat)(kind:Int):Option (Int):=runF (T_Zbk nf) nf [.v kI] [.t 2 (.v kI)] ir_Zbk (kind,())
noncomputable def X_Zbk{R:Type}(nf:Nat):C->Env->(Xt->Env->Option R)->Option R:=xc (R:=R) (T_Zbk nf).S nf
noncomputable def j22_Zbk(nf:Nat)(kind:Int)(x7_22:Bool):Option (Int):=X_Zbk nf c22_Zbk ⟨[(3,.v kI kind),(7,.v .bool x7_22)],[]⟩ (qB 0 (qS (X_Zbk nf c33_Zbk) (KF [.t 2 (.v kI)])))
noncomputable def j12_Zbk(nf:Nat)(kind:Int)(x4_12:Bool):Option (Int):=X_Zbk nf c12_Zbk ⟨[(3,.v kI kind),(4,.v .bool x4_12)],[]⟩ (qB 0 (qS (X_Zbk nf c33_Zbk) (KF [.t 2 (.v kI)])))
theorem j22_Zbk_eq(nf:Nat)(kind:Int)(x7_22:Bool):j22_Zbk nf kind x7_22=(br x7_22 (some (2:Int)) (br (kind==(4:Int)) (some (1:Int)) (some (-1:Int)))):=by kernel_rfl
theorem j12_Zbk_eq(nf:Nat)(kind:Int)(x4_12:Bool):j12_Zbk nf kind x4_12=(br x4_12 (some (0:Int)) (br (kind==(3:Int)) (mark (j22_Zbk nf kind (kind==(3:Int)))) (mark (j22_Zbk nf kind (kind==(5:Int)))))):=by
 unfold j12_Zbk j22_Zbk c12_Zbk c33_Zbk w22_Zbk
 generalize c22_Zbk=x0
 revert x0
 refine id ?_
 intro x0
 kernel_rfl
theorem m_Zbk_eq(nf:Nat)(kind:Int):m_Zbk nf kind=(br (kind==(1:Int)) (mark (j12_Zbk nf kind (kind==(1:Int)))) (mark (j12_Zbk nf kind (kind==(2:Int))))):=by
 unfold m_Zbk j12_Zbk ir_Zbk w12_Zbk c33_Zbk
 generalize c12_Zbk=x0
 revert x0
 refine id ?_
 intro x0
 kernel_rfl
noncomputable def e_Zbk(nf:Nat):XE:=eF 76 [.v kI] [.v kI] (fun t=>m_Zbk nf t.1)
theorem o_Zbk(nf:Nat):conOK Tryz.prog 76 (e_Zbk nf).con:=by
 have ih:XT.ok Tryz.prog (T_Zbk nf):=by exact trivial
 refine eF_ok fun t x h=> ?_
 obtain⟨kind,_⟩:=t
 exact runF_ok (N:=12) ih Tryz.func76 (by kernel_rfl) rfl h
def c25_Zbn:C:=.sq (.rg [.fa 88 T3 17 3 3,.ld 89 T88 (kR 2),.cv (some 90) 114 [(T89,.v (kR 2))],.mv 91 T90,.g 91 true (.fa 92 T3 17 4 11),.g 91 true (.ld 93 T92 (kL (kR 2))),.g 91 true (.ln 94 false T93),.g 91 true (.bi 95 .eql T94 (.i 0)),.pk 96 T91 T95 (.b false),.mv 4 T96]) .rt
def c23_Zbn:C:=.rt
def w23_Zbn:C:=.kp [4] [] c23_Zbn
def c13_Zbn:C:=.rt
def w13_Zbn:C:=.kp [4] [] c13_Zbn
def ir_Zbn:C:=.sq (.rg [.bx 2 T0 (kR 5),.bx 3 T1 (kR 17),.mv 4 (.b false)]) (.sq (.sq (.rg [.fa 11 T3 17 0 0,.ld 12 T11 kI]) (.bk 0 (.sq (.rg [.bi 14 .eql T12 (.i 4),.mv 13 T14]) (.cd T13 (.sq (.dr [22] [.ld 16 T2 (kR 5),.fa 17 T3 17 5 12,.ld 18 T17 (kL (kR 17)),.ia 19 T18 (.i 0) (kR 17),.ld 20 T19 (kR 17),.cv (some 21) 32 [(T20,.v (kR 17))],.ca (some 22) 31 [(T16,.v (kR 5)),(T21,.v (kL (kR 3)))],.mv 15 T22,.xt 23 T15 0,.xt 24 T15 1,.mv 5 T23] [.mv 6 T24]) (.sq (.dr [] [.fa 25 T3 17 4 11,.ld 26 T25 (kL (kR 2)),.ln 27 false T26,.bi 28 .eql T27 (.i 0),.mv 29 T28,.g 29 true (.ld 30 T2 (kR 5)),.g 29 true (.mv 31 T5),.g 29 true (.fa 32 T3 17 3 3),.g 29 true (.ld 33 T32 (kR 2)),.g 29 true (.cv (some 34) 94 [])] [.g 29 true (.cv (some 35) 93 [(T30,.v (kR 5)),(T31,.v (kL (kR 8))),(T33,.v (kR 2)),(T34,.v (kR 0))]),.pk 36 T29 T35 (.b false),.mv 4 T36]) w13_Zbn)) (.sq (.rg [.bi 38 .eql T12 (.i 5),.mv 37 T38]) (.cd T37 (.sq (.dr [46] [.ld 40 T2 (kR 5),.fa 41 T3 17 5 12,.ld 42 T41 (kL (kR 17)),.ia 43 T42 (.i 0) (kR 17),.ld 44 T43 (kR 17),.cv (some 45) 32 [(T44,.v (kR 17))],.ca (some 46) 31 [(T40,.v (kR 5)),(T45,.v (kL (kR 3)))],.mv 39 T46,.xt 47 T39 0,.xt 48 T39 1,.mv 7 T47] [.mv 8 T48]) (.sq (.dr [56] [.ld 50 T2 (kR 5),.fa 51 T3 17 5 12,.ld 52 T51 (kL (kR 17)),.ia 53 T52 (.i 1) (kR 17),.ld 54 T53 (kR 17),.cv (some 55) 32 [(T54,.v (kR 17))],.ca (some 56) 31 [(T50,.v (kR 5)),(T55,.v (kL (kR 3)))],.mv 49 T56,.xt 57 T49 0,.xt 58 T49 1,.mv 9 T57] [.mv 10 T58]) (.sq (.dr [] [.fa 59 T3 17 3 3,.ld 60 T59 (kR 2),.cv (some 61) 114 [(T60,.v (kR 2))],.mv 62 T61,.g 62 true (.fa 63 T3 17 4 11),.g 62 true (.ld 64 T63 (kL (kR 2))),.g 62 true (.ln 65 false T64),.g 62 true (.bi 66 .eql T65 (.i 2)),.pk 67 T62 T66 (.b false),.mv 68 T67,.g 68 true (.ld 69 T2 (kR 5)),.g 68 true (.mv 70 T7),.g 68 true (.fa 71 T3 17 4 11),.g 68 true (.ld 72 T71 (kL (kR 2))),.g 68 true (.ia 73 T72 (.i 0) (kR 2)),.g 68 true (.ld 74 T73 (kR 2)),.g 68 true (.cv (some 75) 115 []),.g 68 true (.cv (some 76) 93 [(T69,.v (kR 5)),(T70,.v (kL (kR 8))),(T74,.v (kR 2)),(T75,.v (kR 0))]),.pk 77 T68 T76 (.b false),.mv 78 T77,.g 78 true (.ld 79 T2 (kR 5)),.g 78 true (.mv 80 T9),.g 78 true (.fa 81 T3 17 4 11),.g 78 true (.ld 82 T81 (kL (kR 2))),.g 78 true (.ia 83 T82 (.i 1) (kR 2)),.g 78 true (.ld 84 T83 (kR 2)),.g 78 true (.cv (some 85) 115 [])] [.g 78 true (.cv (some 86) 93 [(T79,.v (kR 5)),(T80,.v (kL (kR 8))),(T84,.v (kR 2)),(T85,.v (kR 0))]),.pk 87 T78 T86 (.b false),.mv 4 T87]) w23_Zbn))) .skip)))))) c25_Zbn)
noncomputable abbrev T_Zbn(nf:Nat):XT:=[e_ZaW nf,e_Zbl nf,e_Zbq nf,e_Zbg nf,e_Zbh nf,e_Zbv nf]
noncomputable def m_Zbn(nf:Nat)(s:Schema)(p:Plan):Option (Bool):=runF (T_Zbn nf) nf [.v (kR 5),.v (kR 17)] [.t 4 (.v .bool)] ir_Zbn (s,p,())
noncomputable def X_Zbn{R:Type}(nf:Nat):C->Env->(Xt->Env->Option R)->Option R:=xc (R:=R) (T_Zbn nf).S nf
noncomputable def j13_Zbn(nf:Nat)(x4_13:Bool):Option (Bool):=X_Zbn nf c13_Zbn ⟨[(4,.v .bool x4_13)],[]⟩ (qB 0 (qS (X_Zbn nf c25_Zbn) (KF [.t 4 (.v .bool)])))
noncomputable def j23_Zbn(nf:Nat)(x4_23:Bool):Option (Bool):=X_Zbn nf c23_Zbn ⟨[(4,.v .bool x4_23)],[]⟩ (qB 0 (qS (X_Zbn nf c25_Zbn) (KF [.t 4 (.v .bool)])))
theorem j13_Zbn_eq(nf:Nat)(x4_13:Bool):j13_Zbn nf x4_13=(some x4_13):=by kernel_rfl
theorem j23_Zbn_eq(nf:Nat)(x4_23:Bool):j23_Zbn nf x4_23=(some x4_23):=by kernel_rfl
theorem m_Zbn_eq(nf:Nat)(s:Schema)(p:Plan):m_Zbn nf s p=(br (p.kind==(4:Int)) (gg (0<=(0:Int)∧(0:Int)<(List.length p.args:Int))<|cb (m_ZaW nf nf (gt p.args (0:Int) Plan.zero)) fun r21=>cb (m_Zbl nf s r21) fun r22=>br (((List.length p.keys:Int)==(0:Int))==true) (cb (m_Zbq nf) fun r34=>cb (m_Zbg nf s r22.1 (Tm.h p.cond) r34) fun r35=>mark (j13_Zbn nf r35)) (mark (j13_Zbn nf false))) (br (p.kind==(5:Int)) (gg (0<=(0:Int)∧(0:Int)<(List.length p.args:Int))<|cb (m_ZaW nf nf (gt p.args (0:Int) Plan.zero)) fun r45=>cb (m_Zbl nf s r45) fun r46=>gg (0<=(1:Int)∧(1:Int)<(List.length p.args:Int))<|cb (m_ZaW nf nf (gt p.args (1:Int) Plan.zero)) fun r55=>cb (m_Zbl nf s r55) fun r56=>cb (m_Zbh nf (Tm.h p.cond)) fun r61=>br (r61==true) (br (((List.length p.keys:Int)==(2:Int))==true) (gg (0<=(0:Int)∧(0:Int)<(List.length p.keys:Int))<|cb (m_Zbv nf) fun r75=>cb (m_Zbg nf s r46.1 (gt p.keys (0:Int) Tm.zero) r75) fun r76=>br (r76==true) (gg (0<=(1:Int)∧(1:Int)<(List.length p.keys:Int))<|cb (m_Zbv nf) fun r85=>cb (m_Zbg nf s r56.1 (gt p.keys (1:Int) Tm.zero) r85) fun r86=>mark (j23_Zbn nf r86)) (mark (j23_Zbn nf false))) (mark (j23_Zbn nf false))) (mark (j23_Zbn nf false))) (cb (m_Zbh nf (Tm.h p.cond)) fun r90=>br (r90==true) (some ((List.length p.keys:Int)==(0:Int))) (some false)))):=by
 unfold m_Zbn j13_Zbn j23_Zbn ir_Zbn w13_Zbn w23_Zbn c25_Zbn
 generalize c13_Zbn=x0
 generalize c23_Zbn=x1
 revert x0 x1
 refine id ?_
 intro x0 x1
 kernel_rfl
noncomputable def e_Zbn(nf:Nat):XE:=eF 77 [.v (kR 5),.v (kR 17)] [.v .bool] (fun t=>m_Zbn nf t.1 t.2.1)
theorem o_Zbn(nf:Nat):conOK Tryz.prog 77 (e_Zbn nf).con:=by
 have ih:XT.ok Tryz.prog (T_Zbn nf):=by exact⟨o_ZaW nf,o_Zbl nf,o_Zbq nf,o_Zbg nf,o_Zbh nf,o_Zbv nf,trivial⟩
 refine eF_ok fun t x h=> ?_
 obtain⟨s,p,_⟩:=t
 exact runF_ok (N:=97) ih Tryz.func77 (by kernel_rfl) rfl h
def c31_Zbm:C:=.sq (.rg [.ld 43 T2 (kR 5),.ld 44 T3 (kR 17),.cv (some 45) 77 [(T43,.v (kR 5)),(T44,.v (kR 17))],.mv 4 T45]) .rt
def w31_Zbm:C:=.kp [2,3] [[2],[3]] c31_Zbm
def c15_Zbm:C:=.sq (.sq (.rg [.mv 28 T5,.fa 29 T3 17 5 12,.ld 30 T29 (kL (kR 17)),.ln 31 false T30,.bi 32 .lss T28 T31]) (.cd T32 .skip (.ex 0))) (.sq (.bk 1 (.sq (.dr [] [.ld 35 T2 (kR 5),.fa 36 T3 17 5 12,.ld 37 T36 (kL (kR 17)),.mv 38 T5,.ia 39 T37 T38 (kR 17),.ld 40 T39 (kR 17)] [.cv (some 41) 34 [(T35,.v (kR 5)),(T40,.v (kR 17))],.un 42 .not T41]) (.cd T42 (.sq (.rg [.mv 4 (.b false)]) .rt) .skip))) (.rg [.mv 33 T5,.bi 34 .add T33 (.i 1),.mv 5 T34]))
def c10_Zbm:C:=.sq (.sq (.rg [.mv 5 (.i 0)]) (.bk 0 (.lk [2,3,5] [[2],[3]] c15_Zbm))) w31_Zbm
def c5_Zbm:C:=.cd T27 (.sq (.rg [.mv 4 (.b false)]) .rt) .skip
def w5_Zbm:C:=.kp [2,3,27] [[2],[3]] c5_Zbm
def ir_Zbm:C:=.sq (.rg [.bx 2 T0 (kR 5),.bx 3 T1 (kR 17),.mv 4 (.b false)]) (.sq (.sq (.dr [] [.fa 6 T3 17 5 12,.ld 7 T6 (kL (kR 17)),.ln 8 false T7,.fa 9 T3 17 0 0,.ld 10 T9 kI,.cv (some 11) 76 [(T10,.v kI)]] [.bi 12 .neq T8 T11,.mv 13 T12,.g 13 false (.fa 14 T3 17 0 0),.g 13 false (.ld 15 T14 kI),.g 13 false (.bi 16 .neq T15 (.i 2)),.g 13 false (.mv 17 T16),.g 17 true (.fa 18 T3 17 1 1),.g 17 true (.ld 19 T18 kS),.g 17 true (.bi 20 .neq T19 (.s [])),.g 17 true (.mv 21 T20),.g 21 false (.fa 22 T3 17 2 2),.g 21 false (.ld 23 T22 kS),.g 21 false (.bi 24 .neq T23 (.s [])),.g 17 true (.pk 25 T21 (.b true) T24),.g 13 false (.pk 26 T17 T25 (.b false)),.pk 27 T13 (.b true) T26]) w5_Zbm) c10_Zbm)
noncomputable def B_Zbm(nf:Nat):XT:=[e_Zbk nf,e_Zbn nf]
noncomputable def G_Zbm(nf:Nat):Nat->XT
 |0=>[]
 |kf+1=>[eF 34 [.v (kR 5),.v (kR 17)] [.v .bool] (fun t=>(fun(s:Schema) (p:Plan)=>runF (G_Zbm nf kf++B_Zbm nf) nf [.v (kR 5),.v (kR 17)] [.t 4 (.v .bool)] ir_Zbm (s,p,())) t.1 t.2.1)]
noncomputable abbrev T_Zbm(nf kf:Nat):XT:=G_Zbm nf kf++B_Zbm nf
noncomputable def m_Zbm(nf kf:Nat)(s:Schema)(p:Plan):Option (Bool):=runF (T_Zbm nf kf) nf [.v (kR 5),.v (kR 17)] [.t 4 (.v .bool)] ir_Zbm (s,p,())
noncomputable def X_Zbm{R:Type}(nf kf:Nat):C->Env->(Xt->Env->Option R)->Option R:=xc (R:=R) (T_Zbm nf kf).S nf
noncomputable def j5_Zbm(nf kf:Nat)(s:Schema)(p:Plan)(x27_5:Bool):Option (Bool):=X_Zbm nf kf c5_Zbm ⟨[(2,.pt [2] 0),(3,.pt [3] 0),(27,.v .bool x27_5)],[([2],.box [.v (kL (kR 4)) s.tables]),([3],.box [.v kI p.kind,.v kS p.var,.v kS p.table,.v kI p.cond.kind,.v kS p.cond.name,.v kI p.cond.n,.v kI p.cond.type.kind,.v (kL kS) p.cond.type.labels,.v (kL (kR 0)) p.cond.type.args,.v (kL kS) p.cond.labels,.v (kL (kR 2)) p.cond.args,.v (kL (kR 2)) p.keys,.v (kL (kR 17)) p.args])]⟩ (qS (X_Zbm nf kf c10_Zbm) (KF [.t 4 (.v .bool)]))
noncomputable def l14_Zbm(nf kf:Nat)(m14:Nat)(s:Schema)(p:Plan)(x5_14:Int):Option (Bool):=xit [2,3,5] [[2],[3]] (X_Zbm nf kf c15_Zbm) (qB 0 (qS (X_Zbm nf kf w31_Zbm) (KF [.t 4 (.v .bool)]))) m14 ⟨[(2,.pt [2] 0),(3,.pt [3] 0),(5,.v kI x5_14)],[([2],.box [.v (kL (kR 4)) s.tables]),([3],.box [.v kI p.kind,.v kS p.var,.v kS p.table,.v kI p.cond.kind,.v kS p.cond.name,.v kI p.cond.n,.v kI p.cond.type.kind,.v (kL kS) p.cond.type.labels,.v (kL (kR 0)) p.cond.type.args,.v (kL kS) p.cond.labels,.v (kL (kR 2)) p.cond.args,.v (kL (kR 2)) p.keys,.v (kL (kR 17)) p.args])]⟩
noncomputable def j31_Zbm(nf kf:Nat)(s:Schema)(p:Plan):Option (Bool):=X_Zbm nf kf c31_Zbm ⟨[(2,.pt [2] 0),(3,.pt [3] 0)],[([2],.box [.v (kL (kR 4)) s.tables]),([3],.box [.v kI p.kind,.v kS p.var,.v kS p.table,.v kI p.cond.kind,.v kS p.cond.name,.v kI p.cond.n,.v kI p.cond.type.kind,.v (kL kS) p.cond.type.labels,.v (kL (kR 0)) p.cond.type.args,.v (kL kS) p.cond.labels,.v (kL (kR 2)) p.cond.args,.v (kL (kR 2)) p.keys,.v (kL (kR 17)) p.args])]⟩ (KF [.t 4 (.v .bool)])
theorem j5_Zbm_eq(nf kf:Nat)(s:Schema)(p:Plan)(x27_5:Bool):j5_Zbm nf (kf+1) s p x27_5=(br x27_5 (some false) (mark (l14_Zbm nf (kf+1) nf s p (0:Int)))):=by
 unfold j5_Zbm l14_Zbm c5_Zbm c10_Zbm w31_Zbm
 generalize c31_Zbm=x0
 revert x0
 refine id ?_
 intro x0
 kernel_rfl
theorem l14_Zbm_eq(nf kf:Nat)(m14:Nat)(s:Schema)(p:Plan)(x5_14:Int):l14_Zbm nf (kf+1) (m14+1) s p x5_14=(br (decide (x5_14<(List.length p.args:Int))) (gg (0<=x5_14∧x5_14<(List.length p.args:Int))<|cb (m_Zbm nf kf s (gt p.args x5_14 Plan.zero)) fun r41=>br (!r41) (some false) (mark (l14_Zbm nf (kf+1) m14 s p (w64 (x5_14+(1:Int)))))) (mark (j31_Zbm nf (kf+1) s p))):=by
 unfold l14_Zbm j31_Zbm c15_Zbm w31_Zbm
 generalize c31_Zbm=x0
 revert x0
 refine id ?_
 intro x0
 kernel_rfl
theorem j31_Zbm_eq(nf kf:Nat)(s:Schema)(p:Plan):j31_Zbm nf (kf+1) s p=(cb (m_Zbn nf s (Plan.h p)) fun r45=>some r45):=by kernel_rfl
theorem m_Zbm_eq(nf kf:Nat)(s:Schema)(p:Plan):m_Zbm nf (kf+1) s p=(cb (m_Zbk nf p.kind) fun r11=>br ((!((List.length p.args:Int)==r11))==false) (br ((!(p.kind==(2:Int)))==true) (br ((!(p.var==([]:Str)))==false) (mark (j5_Zbm nf (kf+1) s p (!(p.table==([]:Str))))) (mark (j5_Zbm nf (kf+1) s p true))) (mark (j5_Zbm nf (kf+1) s p false))) (mark (j5_Zbm nf (kf+1) s p true))):=by
 unfold m_Zbm j5_Zbm ir_Zbm w5_Zbm c10_Zbm w31_Zbm
 generalize c5_Zbm=x0
 generalize c31_Zbm=x1
 revert x0 x1
 refine id ?_
 intro x0 x1
 kernel_rfl
noncomputable def e_Zbm(nf:Nat):XE:=eF 34 [.v (kR 5),.v (kR 17)] [.v .bool] (fun t=>m_Zbm nf nf t.1 t.2.1)
theorem gok_Zbm(nf:Nat):∀kf:Nat,XT.ok Tryz.prog (G_Zbm nf kf++B_Zbm nf)
 |0=>by exact⟨o_Zbk nf,o_Zbn nf,trivial⟩
 |kf+1=>by
  have ih:=gok_Zbm nf kf
  refine⟨?_,(by exact⟨o_Zbk nf,o_Zbn nf,trivial⟩)⟩
  ·refine eF_ok fun t x h=> ?_
   obtain⟨s,p,_⟩:=t
   exact runF_ok (N:=46) ih Tryz.func34 (by kernel_rfl) rfl h
theorem o_Zbm(nf:Nat):conOK Tryz.prog 34 (e_Zbm nf).con:=by
 have ih:=gok_Zbm nf nf
 refine eF_ok fun t x h=> ?_
 obtain⟨s,p,_⟩:=t
 exact runF_ok (N:=46) ih Tryz.func34 (by kernel_rfl) rfl h
def ir_ZaR:C:=.sq (.rg [.bx 2 T0 (kR 5),.bx 3 T1 (kR 17),.mv 4 (.b false)]) (.sq (.dr [11] [.ld 8 T2 (kR 5),.ld 9 T3 (kR 17),.cv (some 10) 32 [(T9,.v (kR 17))],.ca (some 11) 31 [(T8,.v (kR 5)),(T10,.v (kL (kR 3)))],.mv 7 T11,.xt 12 T7 0,.xt 13 T7 1,.mv 5 T12] [.mv 6 T13]) (.sq (.rg [.mv 14 T6,.mv 15 T14,.g 15 true (.ld 16 T2 (kR 5)),.g 15 true (.cv (some 17) 33 [(T16,.v (kR 5))]),.pk 18 T15 T17 (.b false),.mv 19 T18,.g 19 true (.ld 20 T2 (kR 5)),.g 19 true (.ld 21 T3 (kR 17)),.g 19 true (.cv (some 22) 34 [(T20,.v (kR 5)),(T21,.v (kR 17))]),.pk 23 T19 T22 (.b false),.mv 4 T23]) .rt))
noncomputable abbrev T_ZaR(nf:Nat):XT:=[e_ZaW nf,e_Zbl nf,e_ZaT nf,e_Zbm nf]
noncomputable def m_ZaR(nf:Nat)(s:Schema)(p:Plan):Option (Bool):=runF (T_ZaR nf) nf [.v (kR 5),.v (kR 17)] [.t 4 (.v .bool)] ir_ZaR (s,p,())
theorem m_ZaR_eq(nf:Nat)(s:Schema)(p:Plan):m_ZaR nf s p=(cb (m_ZaW nf nf (Plan.h p)) fun r10=>cb (m_Zbl nf s r10) fun r11=>br (r11.2==true) (cb (m_ZaT nf s) fun r17=>br (r17==true) (cb (m_Zbm nf nf s (Plan.h p)) fun r22=>some r22) (some false)) (some false)):=by kernel_rfl
noncomputable def e_ZaR(nf:Nat):XE:=eF 8 [.v (kR 5),.v (kR 17)] [.v .bool] (fun t=>m_ZaR nf t.1 t.2.1)
theorem o_ZaR(nf:Nat):conOK Tryz.prog 8 (e_ZaR nf).con:=by
 have ih:XT.ok Tryz.prog (T_ZaR nf):=by exact⟨o_ZaW nf,o_Zbl nf,o_ZaT nf,o_Zbm nf,trivial⟩
 refine eF_ok fun t x h=> ?_
 obtain⟨s,p,_⟩:=t
 exact runF_ok (N:=24) ih Tryz.func8 (by kernel_rfl) rfl h
end Go.Q
