/- Flat queries: the program's side. -/
import Derived.Test.YtmkelbchboiliaaGreatB21
import Derived.Test.YtmkelbchboiliaaGreatB28
import Derived.Test.YtmkelbchboiliaaGreatProg
import Derived.KernelRfl
set_option linter.unusedVariables false
set_option linter.unusedSimpArgs false
namespace Go.Q
open Go.Proofs
set_option maxRecDepth 20000
set_option maxHeartbeats 4000000
def ir_ZaP:C:=.sq (.rg [.mv 2 (.nl kS)]) (.sq (.rg [.mv 3 T0,.mv 4 T0,.ln 5 false T4,.mv 6 T0,.ln 7 false T6,.sm 8 T3 none T5 T7 kS,.mv 2 T8]) .rt)
noncomputable abbrev T_ZaP(nf:Nat):XT:=[]
noncomputable def m_ZaP(nf:Nat)(s:List Str):Option (List Str):=runF (T_ZaP nf) nf [.v (kL kS)] [.t 2 (.cl kS)] ir_ZaP (s,())
theorem m_ZaP_eq(nf:Nat)(s:List Str):m_ZaP nf s=(gg (0<=(0:Int)∧(0:Int)<=(List.length s:Int)∧(List.length s:Int)<=(List.length s:Int)∧(List.length s:Int)=(List.length s:Int))<|some (List.drop (Int.toNat (0:Int)) (List.take (Int.toNat (List.length s:Int)) s))):=by kernel_rfl
noncomputable def e_ZaP(nf:Nat):XE:=eF 139 [.v (kL kS)] [.cl kS] (fun t=>m_ZaP nf t.1)
theorem o_ZaP(nf:Nat):conOK Tryz.prog 139 (e_ZaP nf).con:=by
 have ih:XT.ok Tryz.prog (T_ZaP nf):=by exact trivial
 refine eF_ok fun t x h=> ?_
 obtain⟨s,_⟩:=t
 exact runF_ok (N:=9) ih Tryz.func139 (by kernel_rfl) rfl h
def ir_ZaR:C:=.sq (.rg [.mv 4 (.b false)]) (.sq (.rg [.mv 5 T0,.mv 6 T1,.cv (some 7) 100 [(T5,.v (kL kS)),(T6,.v kS)],.bi 8 .geq T7 (.i 0),.mv 4 T8]) .rt)
noncomputable abbrev T_ZaR(nf:Nat):XT:=[e_ZaV nf]
noncomputable def m_ZaR(nf:Nat)(s:List Str)(v:Str):Option (Bool):=runF (T_ZaR nf) nf [.v (kL kS),.v kS] [.t 4 (.v .bool)] ir_ZaR (s,v,())
theorem m_ZaR_eq(nf:Nat)(s:List Str)(v:Str):m_ZaR nf s v=(cb (m_ZaV nf s v) fun r7=>some (decide ((0:Int)<=r7))):=by kernel_rfl
noncomputable def e_ZaR(nf:Nat):XE:=eF 99 [.v (kL kS),.v kS] [.v .bool] (fun t=>m_ZaR nf t.1 t.2.1)
theorem o_ZaR(nf:Nat):conOK Tryz.prog 99 (e_ZaR nf).con:=by
 have ih:XT.ok Tryz.prog (T_ZaR nf):=by exact⟨o_ZaV nf,trivial⟩
 refine eF_ok fun t x h=> ?_
 obtain⟨s,v,_⟩:=t
 exact runF_ok (N:=9) ih Tryz.func99 (by kernel_rfl) rfl h
def c27_ZN:C:=.sq (.rg [.mv 48 T2,.mv 6 T48]) .rt
def c15_ZN:C:=.sq (.rg [.bi 26 .lss T25 T24]) (.sq (.cd T26 .skip (.ex 0)) (.sq (.bk 1 (.sq (.rg [.mv 27 T25,.mv 7 T27]) (.dr [35,43] [.mv 28 T0,.nck 29 T28,.fa 30 T29 0 2 2,.ld 31 T30 (kL (kR 0)),.mv 32 T7,.ia 33 T31 T32 (kR 0),.mv 34 T1,.ca (some 35) 139 [(T34,.v (kL kS))],.mv 36 T0,.nck 37 T36,.fa 38 T37 0 1 1,.ld 39 T38 (kL kS),.mv 40 T7,.ia 41 T39 T40 kS,.ld 42 T41 kS,.bs 43 true kS [T42],.af 44 kS T35 T43,.mv 45 T2] [.cq (some 46) 102 [(T33,.v (.ptr (kR 0))),(T44,.v (kL kS)),(T45,.rw false (kR 18))],.rn 2 [1000] T46]))) (.rg [.bi 47 .add T25 (.i 1),.mv 25 T47])))
def ir_ZN:C:=.sq (.rg [.mv 6 (.nl (kR 18))]) (.sq (.sq (.rg [.mv 8 T0,.nck 9 T8,.fa 10 T9 0 0 0,.ld 11 T10 kI,.bi 12 .neq T11 (.i 3)]) (.cd T12 (.sq (.rg [.mv 13 T2,.mv 14 T1,.cv (some 15) 138 [(T14,.v (kL kS))],.mv 16 T0,.bd 17 18 [(0,1,T15),(1,1,T16)],.bs 18 false (kR 18) [T17],.ap 19 [6] false (kR 18) T13 T18,.mv 6 T19]) .rt) .skip)) (.sq (.sq (.rg [.mv 20 T0,.nck 21 T20,.fa 22 T21 0 2 2,.ld 23 T22 (kL (kR 0)),.ln 24 false T23,.mv 25 (.i 0)]) (.bk 0 (.lk [0,1,2,24,25] [[1000]] c15_ZN))) c27_ZN))
noncomputable def B_ZN(nf:Nat):XT:=[e_ZaQ nf,e_ZaP nf]
noncomputable def G_ZN(nf:Nat):Nat->XT
 |0=>[]
 |kf+1=>[eQ 102 [.p (kR 0),.v (kL kS),.sl 0] [.s (kR 18)] [.row false (kR 18)] [.gone] (fun t u=>(fun(t:Ty) (path:List Str) (out:List Leaf)=>runQ (G_ZN nf kf++B_ZN nf) nf [.p (kR 0),.v (kL kS),.sl 0] [.row false (kR 18)] [.gone] [.t 6 (.s (kR 18))] ir_ZN (t,path,(),()) out) t.1 t.2.1 u)]
noncomputable abbrev T_ZN(nf kf:Nat):XT:=G_ZN nf kf++B_ZN nf
noncomputable def m_ZN(nf kf:Nat)(t:Ty)(path:List Str)(out:List Leaf):Option ((List Leaf)×Unit):=runQ (T_ZN nf kf) nf [.p (kR 0),.v (kL kS),.sl 0] [.row false (kR 18)] [.gone] [.t 6 (.s (kR 18))] ir_ZN (t,path,(),()) out
noncomputable def X_ZN{R:Type}(nf kf:Nat):C->Env->(Xt->Env->Option R)->Option R:=xc (R:=R) (T_ZN nf kf).S nf
noncomputable def l14_ZN(nf kf:Nat)(m14:Nat)(t:Ty)(path:List Str)(x25_14:Int)(y1000_14:List Leaf):Option ((List Leaf)×Unit):=xit [0,1,2,24,25] [[1000]] (X_ZN nf kf c15_ZN) (qB 0 (qS (X_ZN nf kf c27_ZN) (KQ [.t 6 (.s (kR 18))] [.gone]))) m14 ⟨[(0,.v (.ptr (kR 0)) (some t)),(1,.v (kL kS) path),(2,.sl [1000]),(24,.v kI (List.length t.args:Int)),(25,.v kI x25_14)],[([1000],.row false false (kR 18) y1000_14)]⟩
theorem l14_ZN_eq(nf kf:Nat)(m14:Nat)(t:Ty)(path:List Str)(x25_14:Int)(y1000_14:List Leaf):l14_ZN nf (kf+1) (m14+1) t path x25_14 y1000_14=(br (decide (x25_14<(List.length t.args:Int))) (gg (0<=x25_14∧x25_14<(List.length t.args:Int))<|cb (m_ZaP nf path) fun r35=>gg (0<=x25_14∧x25_14<(List.length t.labels:Int))<|gg (List.length r35+List.length ([(gt t.labels x25_14 ([]:Str))]:List Str)<=33554432)<|cb (m_ZN nf kf (gt t.args x25_14 Ty.zero) (r35++([(gt t.labels x25_14 ([]:Str))]:List Str)) y1000_14) fun r46=>mark (l14_ZN nf (kf+1) m14 t path (w64 (x25_14+(1:Int))) r46.1)) (some (y1000_14,()))):=by kernel_rfl
theorem m_ZN_eq(nf kf:Nat)(t:Ty)(path:List Str)(out:List Leaf):m_ZN nf (kf+1) t path out=(br (!(t.kind==(3:Int))) (cb (m_ZaQ nf path) fun r15=>gg (List.length out+List.length ([(Leaf.mk r15 (some t))]:List Leaf)<=33554432)<|some ((out++([(Leaf.mk r15 (some t))]:List Leaf)),())) (mark (l14_ZN nf (kf+1) nf t path (0:Int) out))):=by kernel_rfl
noncomputable def e_ZN(nf:Nat):XE:=eQ 102 [.p (kR 0),.v (kL kS),.sl 0] [.s (kR 18)] [.row false (kR 18)] [.gone] (fun t u=>m_ZN nf nf t.1 t.2.1 u)
theorem gok_ZN(nf:Nat):∀kf:Nat,XT.ok Tryz.prog (G_ZN nf kf++B_ZN nf)
 |0=>by exact⟨o_ZaQ nf,o_ZaP nf,trivial⟩
 |kf+1=>by
  have ih:=gok_ZN nf kf
  refine⟨?_,(by exact⟨o_ZaQ nf,o_ZaP nf,trivial⟩)⟩
  ·refine eQ_ok fun t u x h=> ?_
   obtain⟨t,path,_,_⟩:=t
   exact runQ_ok (N:=49) ih Tryz.func102 (by kernel_rfl) rfl rfl rfl rfl rfl h
theorem o_ZN(nf:Nat):conOK Tryz.prog 102 (e_ZN nf).con:=by
 have ih:=gok_ZN nf nf
 refine eQ_ok fun t u x h=> ?_
 obtain⟨t,path,_,_⟩:=t
 exact runQ_ok (N:=49) ih Tryz.func102 (by kernel_rfl) rfl rfl rfl rfl rfl h
def c30_ZT:C:=.sq (.rg [.mv 54 T0,.mv 4 T54]) .rt
def c29_ZT:C:=.rg [.bi 53 .add T9 (.i 1),.mv 9 T53]
def c24_ZT:C:=.cd T28 (.dr [] [.mv 42 T0,.nck 43 T42,.fa 44 T43 0 2 2,.ld 45 T44 (kL (kR 0)),.mv 46 T0,.nck 47 T46,.fa 48 T47 0 1 1,.ld 49 T48 (kL kS),.mv 50 T6,.cv (some 51) 100 [(T49,.v (kL kS)),(T50,.v kS)]] [.ia 52 T45 T51 (kR 0),.mv 0 T52]) (.sq (.rg [.mv 4 (.np (kR 0))]) .rt)
def w24_ZT:C:=.kp [0,6,7,8,9,28] [] c24_ZT
def c20_ZT:C:=.cd T13 (.rg [.mv 23 T0,.nck 24 T23,.fa 25 T24 0 2 2,.ld 26 T25 (kL (kR 0)),.ia 27 T26 (.i 0) (kR 0),.mv 0 T27]) (.sq (.rg [.mv 29 T0,.nck 30 T29,.fa 31 T30 0 0 0,.ld 32 T31 kI,.bi 33 .eql T32 (.i 3),.mv 34 T33,.g 34 true (.mv 35 T0),.g 34 true (.nck 36 T35),.g 34 true (.fa 37 T36 0 1 1),.g 34 true (.ld 38 T37 (kL kS)),.g 34 true (.mv 39 T6),.g 34 true (.cv (some 40) 99 [(T38,.v (kL kS)),(T39,.v kS)]),.pk 41 T34 T40 (.b false),.mv 28 T41]) w24_ZT)
def w20_ZT:C:=.kp [0,6,7,8,9,13] [] c20_ZT
def c7_ZT:C:=.sq (.rg [.bi 10 .lss T9 T8]) (.sq (.cd T10 .skip (.ex 0)) (.sq (.bk 1 (.sq (.rg [.ia 11 T7 T9 kS,.ld 12 T11 kS,.mv 6 T12]) (.bk 2 (.sq (.rg [.mv 14 T0,.nck 15 T14,.fa 16 T15 0 0 0,.ld 17 T16 kI,.bi 18 .eql T17 (.i 4),.mv 19 T18,.g 19 true (.mv 20 T6),.g 19 true (.bi 21 .eql T20 (.s [33])),.pk 22 T19 T21 (.b false),.mv 13 T22]) w20_ZT)))) c29_ZT))
def ir_ZT:C:=.sq (.rg [.mv 4 (.np (kR 0))]) (.sq (.sq (.rg [.mv 7 T1,.ln 8 false T7,.mv 9 (.i 0)]) (.bk 0 (.lk [0,7,8,9] [] c7_ZT))) c30_ZT)
noncomputable abbrev T_ZT(nf:Nat):XT:=[e_ZaR nf,e_ZaV nf]
noncomputable def m_ZT(nf:Nat)(t:Ty)(path:List Str):Option (Option Ty):=runF (T_ZT nf) nf [.p (kR 0),.v (kL kS)] [.t 4 (.v (.ptr (kR 0)))] ir_ZT (t,path,())
noncomputable def X_ZT{R:Type}(nf:Nat):C->Env->(Xt->Env->Option R)->Option R:=xc (R:=R) (T_ZT nf).S nf
noncomputable def j24_ZT(nf:Nat)(m6:Nat)(x0_6:Ty)(path:List Str)(x9_6:Int)(x28_24:Bool):Option (Option Ty):=X_ZT nf c24_ZT ⟨[(0,.v (.ptr (kR 0)) (some x0_6)),(6,.v kS (gt path x9_6 ([]:Str))),(7,.v (kL kS) path),(8,.v kI (List.length path:Int)),(9,.v kI x9_6),(28,.v .bool x28_24)],[]⟩ (qB 2 (qB 1 (qS (X_ZT nf c29_ZT) (qM [0,7,8,9] [] (X_ZT nf c7_ZT) m6 (qB 0 (qS (X_ZT nf c30_ZT) (KF [.t 4 (.v (.ptr (kR 0)))])))))))
noncomputable def j20_ZT(nf:Nat)(m6:Nat)(x0_6:Ty)(path:List Str)(x9_6:Int)(x13_20:Bool):Option (Option Ty):=X_ZT nf c20_ZT ⟨[(0,.v (.ptr (kR 0)) (some x0_6)),(6,.v kS (gt path x9_6 ([]:Str))),(7,.v (kL kS) path),(8,.v kI (List.length path:Int)),(9,.v kI x9_6),(13,.v .bool x13_20)],[]⟩ (qB 2 (qB 1 (qS (X_ZT nf c29_ZT) (qM [0,7,8,9] [] (X_ZT nf c7_ZT) m6 (qB 0 (qS (X_ZT nf c30_ZT) (KF [.t 4 (.v (.ptr (kR 0)))])))))))
noncomputable def l6_ZT(nf:Nat)(m6:Nat)(path:List Str)(x0_6:Ty)(x9_6:Int):Option (Option Ty):=xit [0,7,8,9] [] (X_ZT nf c7_ZT) (qB 0 (qS (X_ZT nf c30_ZT) (KF [.t 4 (.v (.ptr (kR 0)))]))) m6 ⟨[(0,.v (.ptr (kR 0)) (some x0_6)),(7,.v (kL kS) path),(8,.v kI (List.length path:Int)),(9,.v kI x9_6)],[]⟩
theorem j24_ZT_eq(nf:Nat)(m6:Nat)(x0_6:Ty)(path:List Str)(x9_6:Int)(x28_24:Bool):j24_ZT nf m6 x0_6 path x9_6 x28_24=(br x28_24 (cb (m_ZaV nf x0_6.labels (gt path x9_6 ([]:Str))) fun r51=>gg (0<=r51∧r51<(List.length x0_6.args:Int))<|mark (l6_ZT nf m6 path (gt x0_6.args r51 Ty.zero) (w64 (x9_6+(1:Int))))) (some (none:Option Ty))):=by kernel_rfl
theorem j20_ZT_eq(nf:Nat)(m6:Nat)(x0_6:Ty)(path:List Str)(x9_6:Int)(x13_20:Bool):j20_ZT nf m6 x0_6 path x9_6 x13_20=(br x13_20 (gg (0<=(0:Int)∧(0:Int)<(List.length x0_6.args:Int))<|mark (l6_ZT nf m6 path (gt x0_6.args (0:Int) Ty.zero) (w64 (x9_6+(1:Int))))) (br ((x0_6.kind==(3:Int))==true) (cb (m_ZaR nf x0_6.labels (gt path x9_6 ([]:Str))) fun r40=>mark (j24_ZT nf m6 x0_6 path x9_6 r40)) (mark (j24_ZT nf m6 x0_6 path x9_6 false)))):=by
 unfold j20_ZT l6_ZT j24_ZT c20_ZT c30_ZT c29_ZT w24_ZT
 generalize c24_ZT=x0
 revert x0
 refine id ?_
 intro x0
 kernel_rfl
theorem l6_ZT_eq(nf:Nat)(m6:Nat)(path:List Str)(x0_6:Ty)(x9_6:Int):l6_ZT nf (m6+1) path x0_6 x9_6=(br (decide (x9_6<(List.length path:Int))) (gg (0<=x9_6∧x9_6<(List.length path:Int))<|br ((x0_6.kind==(4:Int))==true) (mark (j20_ZT nf m6 x0_6 path x9_6 ((gt path x9_6 ([]:Str))==([33]:Str)))) (mark (j20_ZT nf m6 x0_6 path x9_6 false))) (some (some x0_6))):=by
 unfold l6_ZT j20_ZT c7_ZT c30_ZT w20_ZT c29_ZT
 generalize c20_ZT=x0
 revert x0
 refine id ?_
 intro x0
 kernel_rfl
theorem m_ZT_eq(nf:Nat)(t:Ty)(path:List Str):m_ZT nf t path=(mark (l6_ZT nf nf path t (0:Int))):=by kernel_rfl
noncomputable def e_ZT(nf:Nat):XE:=eF 57 [.p (kR 0),.v (kL kS)] [.v (.ptr (kR 0))] (fun t=>m_ZT nf t.1 t.2.1)
theorem o_ZT(nf:Nat):conOK Tryz.prog 57 (e_ZT nf).con:=by
 have ih:XT.ok Tryz.prog (T_ZT nf):=by exact⟨o_ZaR nf,o_ZaV nf,trivial⟩
 refine eF_ok fun t x h=> ?_
 obtain⟨t,path,_⟩:=t
 exact runF_ok (N:=55) ih Tryz.func57 (by kernel_rfl) rfl h
def c45_ZB:C:=.sq (.rg [.mv 6 (.b true)]) .rt
def c44_ZB:C:=.rg [.bi 128 .add T81 (.i 1),.mv 81 T128]
def c39_ZB:C:=.cd T127 (.sq (.rg [.mv 6 (.b false)]) .rt) .skip
def w39_ZB:C:=.kp [1,3,7,79,80,81,127] [[3]] c39_ZB
def c27_ZB:C:=.sq (.rg [.bi 82 .lss T81 T80]) (.sq (.cd T82 .skip (.ex 0)) (.sq (.bk 1 (.sq (.rg [.mv 83 T81,.ia 84 T79 T81 (kR 18),.ld 85 T84 (kR 18),.al 11 (kR 18),.mv 10 T83,.st T11 T85 (kR 18)]) (.sq (.dr [] [.fa 86 T11 18 1 1,.ld 87 T86 (.ptr (kR 0)),.nck 88 T87,.fa 89 T88 0 0 0,.ld 90 T89 kI,.bi 91 .eql T90 (.i 4),.mv 92 T91,.g 92 true (.mv 93 T1),.g 92 true (.nck 94 T93),.g 92 true (.fa 95 T94 12 5 12),.g 92 true (.ld 96 T95 (kL (kR 2))),.g 92 true (.mv 97 T10),.g 92 true (.ia 98 T96 T97 (kR 2)),.g 92 true (.ld 99 T98 (kR 2)),.g 92 true (.cv (some 100) 104 [(T99,.v (kR 2))]),.g 92 true (.un 101 .not T100),.pk 102 T92 T101 (.b false),.mv 103 T102,.g 103 false (.fa 104 T11 18 1 1),.g 103 false (.ld 105 T104 (.ptr (kR 0))),.g 103 false (.nck 106 T105),.g 103 false (.fa 107 T106 0 0 0),.g 103 false (.ld 108 T107 kI),.g 103 false (.bi 109 .neq T108 (.i 4)),.g 103 false (.mv 110 T109),.g 110 true (.ld 111 T3 (kR 5)),.g 110 true (.mv 112 T7),.g 110 true (.mv 113 T1),.g 110 true (.nck 114 T113),.g 110 true (.fa 115 T114 12 5 12),.g 110 true (.ld 116 T115 (kL (kR 2))),.g 110 true (.mv 117 T10),.g 110 true (.ia 118 T116 T117 (kR 2)),.g 110 true (.fa 119 T11 18 1 1),.g 110 true (.ld 120 T119 (.ptr (kR 0))),.g 110 true (.nck 121 T120),.g 110 true (.fa 122 T121 0 0 0),.g 110 true (.ld 123 T122 kI)] [.g 110 true (.cv (some 124) 103 [(T111,.v (kR 5)),(T112,.v (kL (kR 8))),(T118,.v (.ptr (kR 2))),(T123,.v kI)]),.g 110 true (.un 125 .not T124),.g 103 false (.pk 126 T110 T125 (.b false)),.pk 127 T103 (.b true) T126]) w39_ZB))) c44_ZB))
def c22_ZB:C:=.sq (.sq (.rg [.mv 79 T9,.ln 80 false T79,.mv 81 (.i 0)]) (.bk 0 (.lk [1,3,7,79,80,81] [[3]] c27_ZB))) c45_ZB
def c17_ZB:C:=.cd T78 (.sq (.rg [.mv 6 (.b false)]) .rt) .skip
def w17_ZB:C:=.kp [1,3,7,9,78] [[3]] c17_ZB
def c10_ZB:C:=.sq (.dr [53] [.ld 48 T3 (kR 5),.mv 49 T1,.nck 50 T49,.fa 51 T50 12 3 3,.ld 52 T51 (kL (kR 3)),.ca (some 53) 40 [(T48,.v (kR 5)),((.nl (kR 8)),.v (kL (kR 8))),(T52,.v (kL (kR 3)))],.mv 47 T53,.xt 54 T47 0,.xt 55 T47 1,.mv 7 T54] [.mv 8 T55]) (.sq (.rg [.mv 56 T2,.cq (some 57) 102 [(T56,.v (.ptr (kR 0))),((.nl kS),.v (kL kS)),((.nl (kR 18)),.rw false (kR 18))],.fz 9 T57 (kL (kR 18))]) (.sq (.sq (.dr [] [.mv 58 T8,.un 59 .not T58,.mv 60 T59,.g 60 false (.ld 61 T3 (kR 5)),.g 60 false (.mv 62 T7),.g 60 false (.mv 63 T1),.g 60 false (.nck 64 T63),.g 60 false (.fa 65 T64 12 4 4),.g 60 false (.cv (some 66) 103 [(T61,.v (kR 5)),(T62,.v (kL (kR 8))),(T65,.v (.ptr (kR 2))),((.i 2),.v kI)]),.g 60 false (.un 67 .not T66),.pk 68 T60 (.b true) T67,.mv 69 T68,.g 69 false (.mv 70 T1),.g 69 false (.nck 71 T70),.g 69 false (.fa 72 T71 12 5 12),.g 69 false (.ld 73 T72 (kL (kR 2))),.g 69 false (.ln 74 false T73),.g 69 false (.mv 75 T9),.g 69 false (.ln 76 false T75)] [.g 69 false (.bi 77 .neq T74 T76),.pk 78 T69 (.b true) T77]) w17_ZB) c22_ZB))
def c5_ZB:C:=.cd T46 (.sq (.rg [.mv 6 (.b false)]) .rt) .skip
def w5_ZB:C:=.kp [1,2,3,46] [[3]] c5_ZB
def ir_ZB:C:=.sq (.rg [.bx 3 T0 (kR 5),.mv 6 (.b false)]) (.sq (.sq (.dr [] [.mv 12 T1,.nck 13 T12,.fa 14 T13 12 0 0,.ld 15 T14 kI,.bi 16 .lss T15 (.i 0),.mv 17 T16,.g 17 false (.mv 18 T1),.g 17 false (.nck 19 T18),.g 17 false (.fa 20 T19 12 2 2),.g 17 false (.ld 21 T20 kI),.g 17 false (.mv 22 T1),.g 17 false (.nck 23 T22),.g 17 false (.fa 24 T23 12 0 0),.g 17 false (.ld 25 T24 kI),.g 17 false (.bi 26 .leq T21 T25),.pk 27 T17 (.b true) T26,.mv 28 T27,.g 28 false (.mv 29 T1),.g 28 false (.nck 30 T29),.g 28 false (.fa 31 T30 12 1 1),.g 28 false (.ld 32 T31 kI),.g 28 false (.bi 33 .lss T32 (.i 0)),.pk 34 T28 (.b true) T33,.mv 35 T34,.g 35 false (.mv 36 T1),.g 35 false (.nck 37 T36),.g 35 false (.fa 38 T37 12 1 1),.g 35 false (.ld 39 T38 kI),.g 35 false (.mv 40 T1),.g 35 false (.nck 41 T40),.g 35 false (.fa 42 T41 12 3 3),.g 35 false (.ld 43 T42 (kL (kR 3))),.g 35 false (.ln 44 false T43)] [.g 35 false (.bi 45 .gtr T39 T44),.pk 46 T35 (.b true) T45]) w5_ZB) c10_ZB)
noncomputable abbrev T_ZB(nf:Nat):XT:=[e_ZC nf,e_ZN nf,e_ZD nf,e_ZJ nf]
noncomputable def m_ZB(nf:Nat)(s:Schema)(x:FComp)(t:Ty):Option (Bool):=runF (T_ZB nf) nf [.v (kR 5),.p (kR 12),.p (kR 0)] [.t 6 (.v .bool)] ir_ZB (s,x,t,())
noncomputable def X_ZB{R:Type}(nf:Nat):C->Env->(Xt->Env->Option R)->Option R:=xc (R:=R) (T_ZB nf).S nf
noncomputable def j5_ZB(nf:Nat)(x:FComp)(t:Ty)(s:Schema)(x46_5:Bool):Option (Bool):=X_ZB nf c5_ZB ⟨[(1,.v (.ptr (kR 12)) (some x)),(2,.v (.ptr (kR 0)) (some t)),(3,.pt [3] 0),(46,.v .bool x46_5)],[([3],.box [.v (kL (kR 4)) s.tables])]⟩ (qS (X_ZB nf c10_ZB) (KF [.t 6 (.v .bool)]))
noncomputable def j17_ZB(nf:Nat)(x:FComp)(r53:(List Typing)×Bool)(r57:((List Leaf))×(Unit))(s:Schema)(x78_17:Bool):Option (Bool):=X_ZB nf c17_ZB ⟨[(1,.v (.ptr (kR 12)) (some x)),(3,.pt [3] 0),(7,.v (kL (kR 8)) r53.1),(9,.v (kL (kR 18)) r57.1),(78,.v .bool x78_17)],[([3],.box [.v (kL (kR 4)) s.tables])]⟩ (qS (X_ZB nf c22_ZB) (KF [.t 6 (.v .bool)]))
noncomputable def j39_ZB(nf:Nat)(m26:Nat)(x:FComp)(r53:(List Typing)×Bool)(r57:((List Leaf))×(Unit))(x81_26:Int)(s:Schema)(x127_39:Bool):Option (Bool):=X_ZB nf c39_ZB ⟨[(1,.v (.ptr (kR 12)) (some x)),(3,.pt [3] 0),(7,.v (kL (kR 8)) r53.1),(79,.v (kL (kR 18)) r57.1),(80,.v kI (List.length r57.1:Int)),(81,.v kI x81_26),(127,.v .bool x127_39)],[([3],.box [.v (kL (kR 4)) s.tables])]⟩ (qB 1 (qS (X_ZB nf c44_ZB) (qM [1,3,7,79,80,81] [[3]] (X_ZB nf c27_ZB) m26 (qB 0 (qS (X_ZB nf c45_ZB) (KF [.t 6 (.v .bool)]))))))
noncomputable def l26_ZB(nf:Nat)(m26:Nat)(x:FComp)(r53:(List Typing)×Bool)(r57:((List Leaf))×(Unit))(s:Schema)(x81_26:Int):Option (Bool):=xit [1,3,7,79,80,81] [[3]] (X_ZB nf c27_ZB) (qB 0 (qS (X_ZB nf c45_ZB) (KF [.t 6 (.v .bool)]))) m26 ⟨[(1,.v (.ptr (kR 12)) (some x)),(3,.pt [3] 0),(7,.v (kL (kR 8)) r53.1),(79,.v (kL (kR 18)) r57.1),(80,.v kI (List.length r57.1:Int)),(81,.v kI x81_26)],[([3],.box [.v (kL (kR 4)) s.tables])]⟩
theorem j5_ZB_eq(nf:Nat)(x:FComp)(t:Ty)(s:Schema)(x46_5:Bool):j5_ZB nf x t s x46_5=(br x46_5 (some false) (cb (m_ZC nf s ([]:List Typing) x.gens) fun r53=>cb (m_ZN nf nf t ([]:List Str) ([]:List Leaf)) fun r57=>br ((!r53.2)==false) (cb (m_ZD nf s r53.1 x.whr (2:Int)) fun r66=>br ((!r66)==false) (mark (j17_ZB nf x r53 r57 s (!((List.length x.cols:Int)==(List.length r57.1:Int))))) (mark (j17_ZB nf x r53 r57 s true))) (mark (j17_ZB nf x r53 r57 s true)))):=by
 unfold j5_ZB j17_ZB c5_ZB c10_ZB w17_ZB c22_ZB c45_ZB
 generalize c17_ZB=x0
 revert x0
 refine id ?_
 intro x0
 kernel_rfl
theorem j17_ZB_eq(nf:Nat)(x:FComp)(r53:(List Typing)×Bool)(r57:((List Leaf))×(Unit))(s:Schema)(x78_17:Bool):j17_ZB nf x r53 r57 s x78_17=(br x78_17 (some false) (mark (l26_ZB nf nf x r53 r57 s (0:Int)))):=by kernel_rfl
theorem j39_ZB_eq(nf:Nat)(m26:Nat)(x:FComp)(r53:(List Typing)×Bool)(r57:((List Leaf))×(Unit))(x81_26:Int)(s:Schema)(x127_39:Bool):j39_ZB nf m26 x r53 r57 x81_26 s x127_39=(br x127_39 (some false) (mark (l26_ZB nf m26 x r53 r57 s (w64 (x81_26+(1:Int)))))):=by kernel_rfl
theorem l26_ZB_eq(nf:Nat)(m26:Nat)(x:FComp)(r53:(List Typing)×Bool)(r57:((List Leaf))×(Unit))(s:Schema)(x81_26:Int):l26_ZB nf (m26+1) x r53 r57 s x81_26=(br (decide (x81_26<(List.length r57.1:Int))) (gg (0<=x81_26∧x81_26<(List.length r57.1:Int))<|Option.bind ((gt r57.1 x81_26 Leaf.zero).t) fun p88=>br ((p88.kind==(4:Int))==true) (gg (0<=x81_26∧x81_26<(List.length x.cols:Int))<|cb (m_ZJ nf (gt x.cols x81_26 Tm.zero)) fun r100=>br ((!r100)==false) (Option.bind ((gt r57.1 x81_26 Leaf.zero).t) fun p106=>br ((!(p106.kind==(4:Int)))==true) (gg (0<=x81_26∧x81_26<(List.length x.cols:Int))<|Option.bind ((gt r57.1 x81_26 Leaf.zero).t) fun p121=>cb (m_ZD nf s r53.1 (gt x.cols x81_26 Tm.zero) p121.kind) fun r124=>mark (j39_ZB nf m26 x r53 r57 x81_26 s (!r124))) (mark (j39_ZB nf m26 x r53 r57 x81_26 s false))) (mark (j39_ZB nf m26 x r53 r57 x81_26 s true))) (Option.bind ((gt r57.1 x81_26 Leaf.zero).t) fun p106=>br ((!(p106.kind==(4:Int)))==true) (gg (0<=x81_26∧x81_26<(List.length x.cols:Int))<|Option.bind ((gt r57.1 x81_26 Leaf.zero).t) fun p121=>cb (m_ZD nf s r53.1 (gt x.cols x81_26 Tm.zero) p121.kind) fun r124=>mark (j39_ZB nf m26 x r53 r57 x81_26 s (!r124))) (mark (j39_ZB nf m26 x r53 r57 x81_26 s false)))) (some true)):=by
 unfold l26_ZB j39_ZB c27_ZB c45_ZB w39_ZB c44_ZB
 generalize c39_ZB=x0
 revert x0
 refine id ?_
 intro x0
 kernel_rfl
theorem m_ZB_eq(nf:Nat)(s:Schema)(x:FComp)(t:Ty):m_ZB nf s x t=(br ((decide (x.outer<(0:Int)))==false) (br ((decide (x.tag<=x.outer))==false) (br ((decide (x.outerGens<(0:Int)))==false) (mark (j5_ZB nf x t s (decide ((List.length x.gens:Int)<x.outerGens)))) (mark (j5_ZB nf x t s true))) (mark (j5_ZB nf x t s true))) (mark (j5_ZB nf x t s true))):=by
 unfold m_ZB j5_ZB ir_ZB w5_ZB c10_ZB w17_ZB c22_ZB c45_ZB
 generalize c5_ZB=x0
 generalize c17_ZB=x1
 revert x0 x1
 refine id ?_
 intro x0 x1
 kernel_rfl
noncomputable def e_ZB(nf:Nat):XE:=eF 60 [.v (kR 5),.p (kR 12),.p (kR 0)] [.v .bool] (fun t=>m_ZB nf t.1 t.2.1 t.2.2.1)
theorem o_ZB(nf:Nat):conOK Tryz.prog 60 (e_ZB nf).con:=by
 have ih:XT.ok Tryz.prog (T_ZB nf):=by exact⟨o_ZC nf,o_ZN nf,o_ZD nf,o_ZJ nf,trivial⟩
 refine eF_ok fun t x h=> ?_
 obtain⟨s,x,t,_⟩:=t
 exact runF_ok (N:=129) ih Tryz.func60 (by kernel_rfl) rfl h
def ir_Zo:C:=.sq (.rg [.bx 3 T0 (kR 12),.mv 4 (.b false)]) (.sq (.dr [] [.ld 5 T1 (kR 5),.ld 6 T2 (.ptr (kR 0)),.nck 7 T6,.fa 8 T7 0 2 2,.ld 9 T8 (kL (kR 0)),.ia 10 T9 (.i 0) (kR 0)] [.cv (some 11) 60 [(T5,.v (kR 5)),(T3,.v (.ptr (kR 12))),(T10,.v (.ptr (kR 0)))],.un 12 .not T11,.mv 4 T12]) .rt)
noncomputable abbrev T_Zo(nf:Nat):XT:=[e_ZB nf]
noncomputable def m_Zo(nf:Nat)(x:FComp)(sc:Schema)(ta:Option Ty):Option (Bool):=runF (T_Zo nf) nf [.v (kR 12),.p (kR 5),.p (.ptr (kR 0))] [.t 4 (.v .bool)] ir_Zo (x,sc,ta,())
theorem m_Zo_eq(nf:Nat)(x:FComp)(sc:Schema)(ta:Option Ty):m_Zo nf x sc ta=(Option.bind ta fun p7=>gg (0<=(0:Int)∧(0:Int)<(List.length p7.args:Int))<|cb (m_ZB nf sc (FComp.h x) (gt p7.args (0:Int) Ty.zero)) fun r11=>some (!r11)):=by kernel_rfl
noncomputable def e_Zo(nf:Nat):XE:=eF 59 [.v (kR 12),.p (kR 5),.p (.ptr (kR 0))] [.v .bool] (fun t=>m_Zo nf t.1 t.2.1 t.2.2.1)
theorem o_Zo(nf:Nat):conOK Tryz.prog 59 (e_Zo nf).con:=by
 have ih:XT.ok Tryz.prog (T_Zo nf):=by exact⟨o_ZB nf,trivial⟩
 refine eF_ok fun t x h=> ?_
 obtain⟨x,sc,ta,_⟩:=t
 exact runF_ok (N:=13) ih Tryz.func59 (by kernel_rfl) rfl h
def c25_Zf:C:=.sq (.rg [.mv 4 (.i (-1))]) .rt
def c7_Zf:C:=.sq (.rg [.bi 9 .lss T8 T7]) (.sq (.cd T9 .skip (.ex 0)) (.sq (.bk 1 (.sq (.rg [.mv 10 T8,.mv 5 T10]) (.sq (.rg [.mv 11 T1,.mv 12 T0,.mv 13 T5,.ia 14 T12 T13 (kR 12),.ld 15 T14 (kR 12),.cf (some 16) T11 [(T15,.v (kR 12))]]) (.cd T16 (.sq (.rg [.mv 17 T5,.mv 4 T17]) .rt) .skip)))) (.rg [.bi 18 .add T8 (.i 1),.mv 8 T18])))
def ir_Zf:C:=.sq (.rg [.mv 4 (.i 0)]) (.sq (.sq (.rg [.mv 6 T0,.ln 7 false T6,.mv 8 (.i 0)]) (.bk 0 (.lk [0,1,7,8] [] c7_Zf))) c25_Zf)
noncomputable abbrev T_Zf(nf:Nat):XT:=[e_Zo nf]
noncomputable def m_Zf(nf:Nat)(s:List FComp)(sc:Option Schema)(ta:Option (Option Ty)):Option (Int):=runF (T_Zf nf) nf [.v (kL (kR 12)),.fn 59 [(.ptr (kR 5)),(.ptr (.ptr (kR 0)))]] [.t 4 (.v kI)] ir_Zf (s,(sc,ta,()),())
noncomputable def X_Zf{R:Type}(nf:Nat):C->Env->(Xt->Env->Option R)->Option R:=xc (R:=R) (T_Zf nf).S nf
noncomputable def l6_Zf(nf:Nat)(m6:Nat)(s:List FComp)(sc:Option Schema)(ta:Option (Option Ty))(x8_6:Int):Option (Int):=xit [0,1,7,8] [] (X_Zf nf c7_Zf) (qB 0 (qS (X_Zf nf c25_Zf) (KF [.t 4 (.v kI)]))) m6 ⟨[(0,.v (kL (kR 12)) s),(1,.fn 59 [.v (.ptr (kR 5)) sc,.v (.ptr (.ptr (kR 0))) ta]),(7,.v kI (List.length s:Int)),(8,.v kI x8_6)],[]⟩
theorem l6_Zf_eq(nf:Nat)(m6:Nat)(s:List FComp)(sc:Option Schema)(ta:Option (Option Ty))(x8_6:Int):l6_Zf nf (m6+1) s sc ta x8_6=(br (decide (x8_6<(List.length s:Int))) (gg (0<=x8_6∧x8_6<(List.length s:Int))<|Option.bind sc fun q0=>Option.bind ta fun q1=>cb (m_Zo nf (gt s x8_6 FComp.zero) q0 q1) fun r16=>br r16 (some x8_6) (mark (l6_Zf nf m6 s sc ta (w64 (x8_6+(1:Int)))))) (some (-1:Int))):=by cases sc<;>cases ta<;>kernel_rfl
theorem m_Zf_eq(nf:Nat)(s:List FComp)(sc:Option Schema)(ta:Option (Option Ty)):m_Zf nf s sc ta=(mark (l6_Zf nf nf s sc ta (0:Int))):=by kernel_rfl
noncomputable def e_Zf(nf:Nat):XE:=eF 101 [.v (kL (kR 12)),.fn 59 [(.ptr (kR 5)),(.ptr (.ptr (kR 0)))]] [.v kI] (fun t=>m_Zf nf t.1 t.2.1.1 t.2.1.2.1)
theorem o_Zf(nf:Nat):conOK Tryz.prog 101 (e_Zf nf).con:=by
 have ih:XT.ok Tryz.prog (T_Zf nf):=by exact⟨o_Zo nf,trivial⟩
 refine eF_ok fun t x h=> ?_
 obtain⟨s,⟨sc,ta,_⟩,_⟩:=t
 exact runF_ok (N:=19) ih Tryz.func101 (by kernel_rfl) rfl h
def ir_Zb:C:=.sq (.rg [.mv 4 (.b false)]) (.sq (.rg [.mv 5 T0,.mv 6 T1,.cv (some 7) 101 [(T5,.v (kL (kR 12))),(T6,.fn)],.bi 8 .geq T7 (.i 0),.mv 4 T8]) .rt)
noncomputable abbrev T_Zb(nf:Nat):XT:=[e_Zf nf]
noncomputable def m_Zb(nf:Nat)(s:List FComp)(sc:Option Schema)(ta:Option (Option Ty)):Option (Bool):=runF (T_Zb nf) nf [.v (kL (kR 12)),.fn 59 [(.ptr (kR 5)),(.ptr (.ptr (kR 0)))]] [.t 4 (.v .bool)] ir_Zb (s,(sc,ta,()),())
theorem m_Zb_eq(nf:Nat)(s:List FComp)(sc:Option Schema)(ta:Option (Option Ty)):m_Zb nf s sc ta=(cb (m_Zf nf s sc ta) fun r7=>some (decide ((0:Int)<=r7))):=by kernel_rfl
noncomputable def e_Zb(nf:Nat):XE:=eF 58 [.v (kL (kR 12)),.fn 59 [(.ptr (kR 5)),(.ptr (.ptr (kR 0)))]] [.v .bool] (fun t=>m_Zb nf t.1 t.2.1.1 t.2.1.2.1)
theorem o_Zb(nf:Nat):conOK Tryz.prog 58 (e_Zb nf).con:=by
 have ih:XT.ok Tryz.prog (T_Zb nf):=by exact⟨o_Zf nf,trivial⟩
 refine eF_ok fun t x h=> ?_
 obtain⟨s,⟨sc,ta,_⟩,_⟩:=t
 exact runF_ok (N:=9) ih Tryz.func58 (by kernel_rfl) rfl h
def c20_Zn:C:=.sq (.gz 7 (.ptr (.ptr (kR 0))) (.rg [.fa 28 T4 13 1 1,.ld 29 T28 (kL (kR 12)),.mf 30 59 [T3,T7],.cv (some 31) 58 [(T29,.v (kL (kR 12))),(T30,.fn)],.un 32 .not T31,.mv 6 T32])) .rt
def c15_Zn:C:=.cd T27 (.sq (.rg [.mv 6 (.b false)]) .rt) .skip
def w15_Zn:C:=.kp [3,4,7,27] [[4],[7]] c15_Zn
def c10_Zn:C:=.sq (.rg [.fa 16 T4 13 0 0,.ld 17 T16 (kL kS),.cv (some 18) 57 [(T5,.v (.ptr (kR 0))),(T17,.v (kL kS))],.al 7 (.ptr (kR 0)),.st T7 T18 (.ptr (kR 0))]) (.sq (.sq (.rg [.ld 19 T7 (.ptr (kR 0)),.nq 20 false true T19,.mv 21 T20,.g 21 false (.ld 22 T7 (.ptr (kR 0))),.g 21 false (.nck 23 T22),.g 21 false (.fa 24 T23 0 0 0),.g 21 false (.ld 25 T24 kI),.g 21 false (.bi 26 .neq T25 (.i 4)),.pk 27 T21 (.b true) T26]) w15_Zn) c20_Zn)
def c5_Zn:C:=.cd T15 (.sq (.rg [.mv 6 (.b false)]) .rt) .skip
def w5_Zn:C:=.kp [3,4,5,15] [[4]] c5_Zn
def ir_Zn:C:=.sq (.rg [.bz 3 T0 (kR 5),.bx 4 T1 (kR 13),.bz 5 T2 (kR 0),.mv 6 (.b false)]) (.sq (.sq (.rg [.ld 8 T3 (kR 5),.cv (some 9) 39 [(T8,.v (kR 5))],.un 10 .not T9,.mv 11 T10,.g 11 false (.ld 12 T5 (kR 0)),.g 11 false (.cv (some 13) 56 [(T12,.v (kR 0))]),.g 11 false (.un 14 .not T13),.pk 15 T11 (.b true) T14]) w5_Zn) c10_Zn)
noncomputable abbrev T_Zn(nf:Nat):XT:=[e_Zs nf,e_Zm nf,e_ZT nf,e_Zb nf]
noncomputable def m_Zn(nf:Nat)(s:Schema)(f:FQuery)(t:Ty):Option (Bool):=runF (T_Zn nf) nf [.v (kR 5),.v (kR 13),.v (kR 0)] [.t 6 (.v .bool)] ir_Zn (s,f,t,())
noncomputable def X_Zn{R:Type}(nf:Nat):C->Env->(Xt->Env->Option R)->Option R:=xc (R:=R) (T_Zn nf).S nf
noncomputable def j5_Zn(nf:Nat)(s:Schema)(t:Ty)(f:FQuery)(x15_5:Bool):Option (Bool):=X_Zn nf c5_Zn ⟨[(3,.v (.ptr (kR 5)) (some s)),(4,.pt [4] 0),(5,.v (.ptr (kR 0)) (some t)),(15,.v .bool x15_5)],[([4],.box [.v (kL kS) f.path,.v (kL (kR 12)) f.comps])]⟩ (qS (X_Zn nf c10_Zn) (KF [.t 6 (.v .bool)]))
noncomputable def j15_Zn(nf:Nat)(s:Schema)(f:FQuery)(r18:(Option Ty))(x27_15:Bool):Option (Bool):=X_Zn nf c15_Zn ⟨[(3,.v (.ptr (kR 5)) (some s)),(4,.pt [4] 0),(7,.pt [7] 0),(27,.v .bool x27_15)],[([4],.box [.v (kL kS) f.path,.v (kL (kR 12)) f.comps]),([7],.box [.v (.ptr (kR 0)) r18])]⟩ (qS (X_Zn nf c20_Zn) (KF [.t 6 (.v .bool)]))
theorem j5_Zn_eq(nf:Nat)(s:Schema)(t:Ty)(f:FQuery)(x15_5:Bool):j5_Zn nf s t f x15_5=(br x15_5 (some false) (cb (m_ZT nf t f.path) fun r18=>br ((Option.isNone r18)==false) (Option.bind r18 fun p23=>mark (j15_Zn nf s f r18 (!(p23.kind==(4:Int))))) (mark (j15_Zn nf s f r18 true)))):=by
 unfold j5_Zn j15_Zn c5_Zn c10_Zn w15_Zn c20_Zn
 generalize c15_Zn=x0
 revert x0
 refine id ?_
 intro x0
 kernel_rfl
theorem j15_Zn_eq(nf:Nat)(s:Schema)(f:FQuery)(r18:(Option Ty))(x27_15:Bool):j15_Zn nf s f r18 x27_15=(br x27_15 (some false) (cb (m_Zb nf f.comps (some s) (some r18)) fun r31=>some (!r31))):=by kernel_rfl
theorem m_Zn_eq(nf:Nat)(s:Schema)(f:FQuery)(t:Ty):m_Zn nf s f t=(cb (m_Zs nf s) fun r9=>br ((!r9)==false) (cb (m_Zm nf t) fun r13=>mark (j5_Zn nf s t f (!r13))) (mark (j5_Zn nf s t f true))):=by
 unfold m_Zn j5_Zn ir_Zn w5_Zn c10_Zn w15_Zn c20_Zn
 generalize c5_Zn=x0
 generalize c15_Zn=x1
 revert x0 x1
 refine id ?_
 intro x0 x1
 kernel_rfl
noncomputable def e_Zn(nf:Nat):XE:=eF 19 [.v (kR 5),.v (kR 13),.v (kR 0)] [.v .bool] (fun t=>m_Zn nf t.1 t.2.1 t.2.2.1)
theorem o_Zn(nf:Nat):conOK Tryz.prog 19 (e_Zn nf).con:=by
 have ih:XT.ok Tryz.prog (T_Zn nf):=by exact⟨o_Zs nf,o_Zm nf,o_ZT nf,o_Zb nf,trivial⟩
 refine eF_ok fun t x h=> ?_
 obtain⟨s,f,t,_⟩:=t
 exact runF_ok (N:=33) ih Tryz.func19 (by kernel_rfl) rfl h
end Go.Q
