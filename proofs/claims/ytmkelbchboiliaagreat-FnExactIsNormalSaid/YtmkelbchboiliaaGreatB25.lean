/- Normal queries: the reference's side. -/
import Derived.Test.YtmkelbchboiliaaGreatB20
import Derived.Test.YtmkelbchboiliaaGreatProg
import Derived.KernelRfl
set_option linter.unusedVariables false
set_option linter.unusedSimpArgs false
namespace Go.Q
open Go.Proofs
set_option maxRecDepth 20000
set_option maxHeartbeats 4000000
def c29_Zbw:C:=.sq (.rg [.mv 62 T1,.mv 63 T2,.ln 64 false T63,.bi 65 .leq T64 (.i 6),.mv 6 T62,.mv 7 T65]) .rt
def w29_Zbw:C:=.kp [1,2] [] c29_Zbw
def c28_Zbw:C:=.rg [.mv 17 T8,.bi 18 .add T17 (.i 1),.mv 8 T18]
def c27_Zbw:C:=.dr [] [.mv 54 T1,.mv 55 T2,.mv 56 T8,.ia 57 T55 T56 (kR 3),.fa 58 T57 3 0 0,.ld 59 T58 kS,.ld 60 T9 (kR 0)] [.cv (some 61) 73 [(T54,.v (kL (kR 8))),(T59,.v kS),(T60,.v (kR 0))],.mv 1 T61]
def c22_Zbw:C:=.cd T52 (.sq (.rg [.mv 53 T1,.mv 6 T53,.mv 7 (.b false)]) .rt) .skip
def w22_Zbw:C:=.kp [1,2,3,8,9,52] [[3],[9]] c22_Zbw
def c7_Zbw:C:=.sq (.sq (.rg [.mv 13 T8,.mv 14 T2,.ln 15 false T14,.bi 16 .lss T13 T15]) (.cd T16 .skip (.ex 0))) (.sq (.bk 1 (.sq (.dw [26,9] [19] [.ld 20 T3 (kR 5),.mv 21 T2,.mv 22 T8,.ia 23 T21 T22 (kR 3),.fa 24 T23 3 1 1,.ld 25 T24 kS,.ca (some 26) 70 [(T20,.v (kR 5)),(T25,.v kS)],.mv 19 T26,.xt 27 T19 0,.xt 28 T19 1,.al 9 (kR 0)] 9 T27 (kR 0) [.mv 10 T28]) (.sq (.rg [.mv 30 T1,.mv 31 T2,.mv 32 T8,.ia 33 T31 T32 (kR 3),.fa 34 T33 3 0 0,.ld 35 T34 kS,.ca (some 36) 71 [(T30,.v (kL (kR 8))),(T35,.v kS)],.mv 29 T36,.xt 37 T29 0,.xt 38 T29 1,.al 11 (kR 0),.st T11 T37 (kR 0),.mv 12 T38]) (.sq (.sq (.rg [.mv 39 T10,.un 40 .not T39,.mv 41 T40,.g 41 false (.mv 42 T12),.pk 43 T41 (.b true) T42,.mv 44 T43,.g 44 false (.mv 45 T2),.g 44 false (.mv 46 T8),.g 44 false (.ia 47 T45 T46 (kR 3)),.g 44 false (.fa 48 T47 3 0 0),.g 44 false (.ld 49 T48 kS),.g 44 false (.cv (some 50) 72 [(T49,.v kS)]),.g 44 false (.un 51 .not T50),.pk 52 T44 (.b true) T51]) w22_Zbw) c27_Zbw)))) c28_Zbw)
def ir_Zbw:C:=.sq (.rg [.bx 3 T0 (kR 5),.mv 6 (.nl (kR 8)),.mv 7 (.b false)]) (.sq (.sq (.rg [.mv 8 (.i 0)]) (.bk 0 (.lk [1,2,3,8] [[3]] c7_Zbw))) w29_Zbw)
noncomputable abbrev T_Zbw(nf:Nat):XT:=[e_Zbm nf,e_Zbq nf,e_Zbg nf,e_Zbu nf]
noncomputable def m_Zbw(nf:Nat)(s:Schema)(ctx:List Typing)(gens:List Gen):Option ((List Typing)×Bool):=runF (T_Zbw nf) nf [.v (kR 5),.v (kL (kR 8)),.v (kL (kR 3))] [.t 6 (.v (kL (kR 8))),.t 7 (.v .bool)] ir_Zbw (s,ctx,gens,())
noncomputable def X_Zbw{R:Type}(nf:Nat):C->Env->(Xt->Env->Option R)->Option R:=xc (R:=R) (T_Zbw nf).S nf
noncomputable def j22_Zbw(nf:Nat)(m6:Nat)(x1_6:List Typing)(gens:List Gen)(x8_6:Int)(s:Schema)(r26:Ty×Bool)(x52_22:Bool):Option ((List Typing)×Bool):=X_Zbw nf c22_Zbw ⟨[(1,.v (kL (kR 8)) x1_6),(2,.v (kL (kR 3)) gens),(3,.pt [3] 0),(8,.v kI x8_6),(9,.pt [9] 0),(52,.v .bool x52_22)],[([3],.box [.v (kL (kR 4)) s.tables]),([9],.box [.v kI r26.1.kind,.v (kL kS) r26.1.labels,.v (kL (kR 0)) r26.1.args])]⟩ (qS (X_Zbw nf c27_Zbw) (qB 1 (qS (X_Zbw nf c28_Zbw) (qM [1,2,3,8] [[3]] (X_Zbw nf c7_Zbw) m6 (qB 0 (qS (X_Zbw nf w29_Zbw) (KF [.t 6 (.v (kL (kR 8))),.t 7 (.v .bool)])))))))
noncomputable def l6_Zbw(nf:Nat)(m6:Nat)(gens:List Gen)(s:Schema)(x1_6:List Typing)(x8_6:Int):Option ((List Typing)×Bool):=xit [1,2,3,8] [[3]] (X_Zbw nf c7_Zbw) (qB 0 (qS (X_Zbw nf w29_Zbw) (KF [.t 6 (.v (kL (kR 8))),.t 7 (.v .bool)]))) m6 ⟨[(1,.v (kL (kR 8)) x1_6),(2,.v (kL (kR 3)) gens),(3,.pt [3] 0),(8,.v kI x8_6)],[([3],.box [.v (kL (kR 4)) s.tables])]⟩
noncomputable def j29_Zbw(nf:Nat)(x1_6:List Typing)(gens:List Gen):Option ((List Typing)×Bool):=X_Zbw nf c29_Zbw ⟨[(1,.v (kL (kR 8)) x1_6),(2,.v (kL (kR 3)) gens)],[]⟩ (KF [.t 6 (.v (kL (kR 8))),.t 7 (.v .bool)])
theorem j22_Zbw_eq(nf:Nat)(m6:Nat)(x1_6:List Typing)(gens:List Gen)(x8_6:Int)(s:Schema)(r26:Ty×Bool)(x52_22:Bool):j22_Zbw nf m6 x1_6 gens x8_6 s r26 x52_22=(br x52_22 (some (x1_6,false)) (gg (0<=x8_6∧x8_6<(List.length gens:Int))<|cb (m_Zbu nf x1_6 ((gt gens x8_6 Gen.zero).var) (Ty.h r26.1)) fun r61=>mark (l6_Zbw nf m6 gens s r61 (w64 (x8_6+(1:Int)))))):=by
 unfold j22_Zbw l6_Zbw c22_Zbw w29_Zbw c28_Zbw c27_Zbw
 generalize c29_Zbw=x0
 revert x0
 refine id ?_
 intro x0
 kernel_rfl
theorem l6_Zbw_eq(nf:Nat)(m6:Nat)(gens:List Gen)(s:Schema)(x1_6:List Typing)(x8_6:Int):l6_Zbw nf (m6+1) gens s x1_6 x8_6=(br (decide (x8_6<(List.length gens:Int))) (gg (0<=x8_6∧x8_6<(List.length gens:Int))<|cb (m_Zbm nf s ((gt gens x8_6 Gen.zero).table)) fun r26=>gg (0<=x8_6∧x8_6<(List.length gens:Int))<|cb (m_Zbq nf x1_6 ((gt gens x8_6 Gen.zero).var)) fun r36=>br ((!r26.2)==false) (br (r36.2==false) (gg (0<=x8_6∧x8_6<(List.length gens:Int))<|cb (m_Zbg nf ((gt gens x8_6 Gen.zero).var)) fun r50=>mark (j22_Zbw nf m6 x1_6 gens x8_6 s r26 (!r50))) (mark (j22_Zbw nf m6 x1_6 gens x8_6 s r26 true))) (mark (j22_Zbw nf m6 x1_6 gens x8_6 s r26 true))) (mark (j29_Zbw nf x1_6 gens))):=by
 unfold l6_Zbw j22_Zbw j29_Zbw c7_Zbw w29_Zbw w22_Zbw c27_Zbw c28_Zbw
 generalize c29_Zbw=x0
 generalize c22_Zbw=x1
 revert x0 x1
 refine id ?_
 intro x0 x1
 kernel_rfl
theorem j29_Zbw_eq(nf:Nat)(x1_6:List Typing)(gens:List Gen):j29_Zbw nf x1_6 gens=(some (x1_6,(decide ((List.length gens:Int)<=(6:Int))))):=by kernel_rfl
theorem m_Zbw_eq(nf:Nat)(s:Schema)(ctx:List Typing)(gens:List Gen):m_Zbw nf s ctx gens=(mark (l6_Zbw nf nf gens s ctx (0:Int))):=by
 unfold m_Zbw l6_Zbw ir_Zbw w29_Zbw
 generalize c29_Zbw=x0
 revert x0
 refine id ?_
 intro x0
 kernel_rfl
noncomputable def e_Zbw(nf:Nat):XE:=eF 107 [.v (kR 5),.v (kL (kR 8)),.v (kL (kR 3))] [.v (kL (kR 8)),.v .bool] (fun t=>m_Zbw nf t.1 t.2.1 t.2.2.1)
theorem o_Zbw(nf:Nat):conOK Tryz.prog 107 (e_Zbw nf).con:=by
 have ih:XT.ok Tryz.prog (T_Zbw nf):=by exact⟨o_Zbm nf,o_Zbq nf,o_Zbg nf,o_Zbu nf,trivial⟩
 refine eF_ok fun t x h=> ?_
 obtain⟨s,ctx,gens,_⟩:=t
 exact runF_ok (N:=66) ih Tryz.func107 (by kernel_rfl) rfl h
def c52_Zbx:C:=.sq (.rg [.mv 8 (.b true)]) .rt
def c36_Zbx:C:=.sq (.sq (.rg [.mv 108 T9,.fa 109 T6 9 3 10,.ld 110 T109 (kL (kR 9)),.ln 111 false T110,.bi 112 .lss T108 T111]) (.cd T112 .skip (.ex 1))) (.sq (.bk 2 (.sq (.dr [] [.ld 115 T4 (kR 5),.mv 116 T1,.fa 117 T6 9 3 10,.ld 118 T117 (kL (kR 9)),.mv 119 T9,.ia 120 T118 T119 (kR 9),.ld 121 T120 (kR 9),.fa 122 T7 0 2 2,.ld 123 T122 (kL (kR 0)),.mv 124 T9,.ia 125 T123 T124 (kR 0),.ld 126 T125 (kR 0)] [.cv (some 127) 108 [(T115,.v (kR 5)),(T116,.v (kL (kR 8))),(T121,.v (kR 9)),(T126,.v (kR 0))],.un 128 .not T127]) (.cd T128 (.sq (.rg [.mv 8 (.b false)]) .rt) .skip))) (.rg [.mv 113 T9,.bi 114 .add T113 (.i 1),.mv 9 T114]))
def c31_Zbx:C:=.sq (.sq (.rg [.mv 9 (.i 0)]) (.bk 1 (.lk [1,4,6,7,9] [[4],[6],[7]] c36_Zbx))) c52_Zbx
def c26_Zbx:C:=.cd T107 (.sq (.rg [.mv 8 (.b false)]) .rt) .skip
def w26_Zbx:C:=.kp [1,4,6,7,107] [[4],[6],[7]] c26_Zbx
def c23_Zbx:C:=.sq (.sq (.rg [.fa 75 T6 9 0 0,.ld 76 T75 kI,.bi 77 .neq T76 (.i 2),.mv 78 T77,.g 78 false (.fa 79 T6 9 2 9),.g 78 false (.ld 80 T79 (kL kS)),.g 78 false (.fa 81 T7 0 1 1),.g 78 false (.ld 82 T81 (kL kS)),.g 78 false (.cv (some 83) 146 [(T80,.v (kL kS)),(T82,.v (kL kS))]),.g 78 false (.un 84 .not T83),.pk 85 T78 (.b true) T84,.mv 86 T85,.g 86 false (.fa 87 T6 9 3 10),.g 86 false (.ld 88 T87 (kL (kR 9))),.g 86 false (.ln 89 false T88),.g 86 false (.fa 90 T7 0 2 2),.g 86 false (.ld 91 T90 (kL (kR 0))),.g 86 false (.ln 92 false T91),.g 86 false (.bi 93 .neq T89 T92),.pk 94 T86 (.b true) T93,.mv 95 T94,.g 95 false (.fa 96 T6 9 1 1),.g 95 false (.ld 97 T96 (kR 2)),.g 95 false (.cv (some 98) 114 [(T97,.v (kR 2))]),.g 95 false (.un 99 .not T98),.pk 100 T95 (.b true) T99,.mv 101 T100,.g 101 false (.fa 102 T6 9 4 11),.g 101 false (.fa 103 T102 11 0 0),.g 101 false (.ld 104 T103 (kL (kR 10))),.g 101 false (.ln 105 false T104),.g 101 false (.bi 106 .gtr T105 (.i 0)),.pk 107 T101 (.b true) T106]) w26_Zbx) c31_Zbx
def c21_Zbx:C:=.rt
def w21_Zbx:C:=.kp [8] [] c21_Zbx
def c15_Zbx:C:=.rt
def w15_Zbx:C:=.kp [8] [] c15_Zbx
def c12_Zbx:C:=.cd T12 (.sq (.rg [.fa 15 T6 9 0 0,.ld 16 T15 kI,.bi 17 .eql T16 (.i 1),.mv 18 T17,.g 18 true (.fa 19 T6 9 2 9),.g 18 true (.ld 20 T19 (kL kS)),.g 18 true (.ln 21 false T20),.g 18 true (.bi 22 .eql T21 (.i 0)),.pk 23 T18 T22 (.b false),.mv 24 T23,.g 24 true (.fa 25 T6 9 3 10),.g 24 true (.ld 26 T25 (kL (kR 9))),.g 24 true (.ln 27 false T26),.g 24 true (.bi 28 .eql T27 (.i 0)),.pk 29 T24 T28 (.b false),.mv 30 T29,.g 30 true (.fa 31 T6 9 4 11),.g 30 true (.fa 32 T31 11 0 0),.g 30 true (.ld 33 T32 (kL (kR 10))),.g 30 true (.ln 34 false T33),.g 30 true (.bi 35 .eql T34 (.i 0)),.pk 36 T30 T35 (.b false),.mv 37 T36,.g 37 true (.ld 38 T4 (kR 5)),.g 37 true (.mv 39 T1),.g 37 true (.fa 40 T6 9 1 1),.g 37 true (.ld 41 T40 (kR 2)),.g 37 true (.ld 42 T7 (kR 0)),.g 37 true (.cv (some 43) 93 [(T38,.v (kR 5)),(T39,.v (kL (kR 8))),(T41,.v (kR 2)),(T42,.v (kR 0))]),.pk 44 T37 T43 (.b false),.mv 8 T44]) w15_Zbx) (.sq (.rg [.bi 46 .eql T11 (.i 4),.mv 45 T46]) (.cd T45 (.sq (.rg [.fa 47 T6 9 0 0,.ld 48 T47 kI,.bi 49 .eql T48 (.i 3),.mv 50 T49,.g 50 true (.fa 51 T6 9 2 9),.g 50 true (.ld 52 T51 (kL kS)),.g 50 true (.ln 53 false T52),.g 50 true (.bi 54 .eql T53 (.i 0)),.pk 55 T50 T54 (.b false),.mv 56 T55,.g 56 true (.fa 57 T6 9 3 10),.g 56 true (.ld 58 T57 (kL (kR 9))),.g 56 true (.ln 59 false T58),.g 56 true (.bi 60 .eql T59 (.i 0)),.pk 61 T56 T60 (.b false),.mv 62 T61,.g 62 true (.fa 63 T6 9 1 1),.g 62 true (.ld 64 T63 (kR 2)),.g 62 true (.cv (some 65) 114 [(T64,.v (kR 2))]),.pk 66 T62 T65 (.b false),.mv 67 T66,.g 67 true (.ld 68 T4 (kR 5)),.g 67 true (.mv 69 T1),.g 67 true (.fa 70 T6 9 4 11),.g 67 true (.ld 71 T70 (kR 11)),.g 67 true (.ld 72 T7 (kR 0)),.g 67 true (.cv (some 73) 65 [(T68,.v (kR 5)),(T69,.v (kL (kR 8))),(T71,.v (kR 11)),(T72,.v (kR 0))]),.pk 74 T67 T73 (.b false),.mv 8 T74]) w21_Zbx) .skip))
def w12_Zbx:C:=.kp [1,4,6,7,11,12] [[4],[6],[7]] c12_Zbx
def ir_Zbx:C:=.sq (.rg [.bx 4 T0 (kR 5),.bx 6 T2 (kR 9),.bx 7 T3 (kR 0),.mv 8 (.b false)]) (.sq (.sq (.rg [.fa 10 T7 0 0 0,.ld 11 T10 kI]) (.bk 0 (.sq (.sq (.rg [.bi 13 .eql T11 (.i 1),.mv 12 T13]) (.cd T12 .skip (.rg [.bi 14 .eql T11 (.i 2),.mv 12 T14]))) w12_Zbx))) c23_Zbx)
def c27_Zby:C:=.sq (.rg [.fa 68 T6 11 0 0,.ld 69 T68 (kL (kR 10)),.ln 70 false T69,.bi 71 .leq T70 (.i 24),.mv 8 T71]) .rt
def c26_Zby:C:=.rg [.mv 18 T9,.bi 19 .add T18 (.i 1),.mv 9 T19]
def c21_Zby:C:=.cd T67 (.sq (.rg [.mv 8 (.b false)]) .rt) .skip
def w21_Zby:C:=.kp [1,4,6,7,9,67] [[4],[6],[7]] c21_Zby
def c7_Zby:C:=.sq (.sq (.rg [.mv 13 T9,.fa 14 T6 11 0 0,.ld 15 T14 (kL (kR 10)),.ln 16 false T15,.bi 17 .lss T13 T16]) (.cd T17 .skip (.ex 0))) (.sq (.bk 1 (.sq (.rg [.fa 20 T6 11 0 0,.ld 21 T20 (kL (kR 10)),.mv 22 T9,.ia 23 T21 T22 (kR 10),.ld 24 T23 (kR 10),.al 10 (kR 10),.st T10 T24 (kR 10)]) (.sq (.rg [.ld 26 T4 (kR 5),.mv 27 T1,.fa 28 T10 10 0 0,.ld 29 T28 (kL (kR 3)),.ca (some 30) 107 [(T26,.v (kR 5)),(T27,.v (kL (kR 8))),(T29,.v (kL (kR 3)))],.mv 25 T30,.xt 31 T25 0,.xt 32 T25 1,.mv 11 T31,.mv 12 T32]) (.sq (.dr [] [.mv 33 T12,.un 34 .not T33,.mv 35 T34,.g 35 false (.ld 36 T4 (kR 5)),.g 35 false (.mv 37 T11),.g 35 false (.fa 38 T10 10 1 1),.g 35 false (.ld 39 T38 (kR 2)),.g 35 false (.cv (some 40) 94 []),.g 35 false (.cv (some 41) 93 [(T36,.v (kR 5)),(T37,.v (kL (kR 8))),(T39,.v (kR 2)),(T40,.v (kR 0))]),.g 35 false (.un 42 .not T41),.pk 43 T35 (.b true) T42,.mv 44 T43,.g 44 false (.fa 45 T10 10 1 1),.g 44 false (.fa 46 T45 2 0 0),.g 44 false (.ld 47 T46 kI),.g 44 false (.bi 48 .eql T47 (.i 3)),.g 44 false (.mv 49 T48),.g 49 true (.fa 50 T10 10 1 1),.g 49 true (.fa 51 T50 2 2 2),.g 49 true (.ld 52 T51 kI),.g 49 true (.bi 53 .eql T52 (.i 0)),.g 44 false (.pk 54 T49 T53 (.b false)),.pk 55 T44 (.b true) T54,.mv 56 T55,.g 56 false (.ld 57 T4 (kR 5)),.g 56 false (.mv 58 T11),.g 56 false (.fa 59 T10 10 2 9),.g 56 false (.ld 60 T59 (kR 9)),.g 56 false (.fa 61 T7 0 2 2),.g 56 false (.ld 62 T61 (kL (kR 0))),.g 56 false (.ia 63 T62 (.i 0) (kR 0)),.g 56 false (.ld 64 T63 (kR 0))] [.g 56 false (.cv (some 65) 108 [(T57,.v (kR 5)),(T58,.v (kL (kR 8))),(T60,.v (kR 9)),(T64,.v (kR 0))]),.g 56 false (.un 66 .not T65),.pk 67 T56 (.b true) T66]) w21_Zby)))) c26_Zby)
def ir_Zby:C:=.sq (.rg [.bx 4 T0 (kR 5),.bx 6 T2 (kR 11),.bx 7 T3 (kR 0),.mv 8 (.b false)]) (.sq (.sq (.rg [.mv 9 (.i 0)]) (.bk 0 (.lk [1,4,6,7,9] [[4],[6],[7]] c7_Zby))) c27_Zby)
noncomputable def B_Zbx(nf:Nat):XT:=[e_Zbv nf,e_Zbz nf,e_ZbN nf,e_Zbw nf,e_ZbE nf]
noncomputable def G_Zbx(nf:Nat):Nat->XT
 |0=>[]
 |kf+1=>[eF 108 [.v (kR 5),.v (kL (kR 8)),.v (kR 9),.v (kR 0)] [.v .bool] (fun t=>(fun(s:Schema) (ctx:List Typing) (h:Head) (t:Ty)=>runF (G_Zbx nf kf++B_Zbx nf) nf [.v (kR 5),.v (kL (kR 8)),.v (kR 9),.v (kR 0)] [.t 8 (.v .bool)] ir_Zbx (s,ctx,h,t,())) t.1 t.2.1 t.2.2.1 t.2.2.2.1),
  eF 65 [.v (kR 5),.v (kL (kR 8)),.v (kR 11),.v (kR 0)] [.v .bool] (fun t=>(fun(s:Schema) (ctx:List Typing) (q:Query) (t:Ty)=>runF (G_Zbx nf kf++B_Zbx nf) nf [.v (kR 5),.v (kL (kR 8)),.v (kR 11),.v (kR 0)] [.t 8 (.v .bool)] ir_Zby (s,ctx,q,t,())) t.1 t.2.1 t.2.2.1 t.2.2.2.1)]
noncomputable abbrev T_Zbx(nf kf:Nat):XT:=G_Zbx nf kf++B_Zbx nf
noncomputable abbrev T_Zby(nf kf:Nat):XT:=G_Zbx nf kf++B_Zbx nf
noncomputable def m_Zbx(nf kf:Nat)(s:Schema)(ctx:List Typing)(h:Head)(t:Ty):Option (Bool):=runF (T_Zbx nf kf) nf [.v (kR 5),.v (kL (kR 8)),.v (kR 9),.v (kR 0)] [.t 8 (.v .bool)] ir_Zbx (s,ctx,h,t,())
noncomputable def X_Zbx{R:Type}(nf kf:Nat):C->Env->(Xt->Env->Option R)->Option R:=xc (R:=R) (T_Zbx nf kf).S nf
noncomputable def m_Zby(nf kf:Nat)(s:Schema)(ctx:List Typing)(q:Query)(t:Ty):Option (Bool):=runF (T_Zby nf kf) nf [.v (kR 5),.v (kL (kR 8)),.v (kR 11),.v (kR 0)] [.t 8 (.v .bool)] ir_Zby (s,ctx,q,t,())
noncomputable def X_Zby{R:Type}(nf kf:Nat):C->Env->(Xt->Env->Option R)->Option R:=xc (R:=R) (T_Zby nf kf).S nf
noncomputable def j15_Zbx(nf kf:Nat)(x8_15:Bool):Option (Bool):=X_Zbx nf kf c15_Zbx ⟨[(8,.v .bool x8_15)],[]⟩ (qB 0 (qS (X_Zbx nf kf c23_Zbx) (KF [.t 8 (.v .bool)])))
noncomputable def j21_Zbx(nf kf:Nat)(x8_21:Bool):Option (Bool):=X_Zbx nf kf c21_Zbx ⟨[(8,.v .bool x8_21)],[]⟩ (qB 0 (qS (X_Zbx nf kf c23_Zbx) (KF [.t 8 (.v .bool)])))
noncomputable def j12_Zbx(nf kf:Nat)(ctx:List Typing)(t:Ty)(s:Schema)(h:Head)(x12_12:Bool):Option (Bool):=X_Zbx nf kf c12_Zbx ⟨[(1,.v (kL (kR 8)) ctx),(4,.pt [4] 0),(6,.pt [6] 0),(7,.pt [7] 0),(11,.v kI t.kind),(12,.v .bool x12_12)],[([4],.box [.v (kL (kR 4)) s.tables]),([6],.box [.v kI h.kind,.v kI h.term.kind,.v kS h.term.name,.v kI h.term.n,.v kI h.term.type.kind,.v (kL kS) h.term.type.labels,.v (kL (kR 0)) h.term.type.args,.v (kL kS) h.term.labels,.v (kL (kR 2)) h.term.args,.v (kL kS) h.labels,.v (kL (kR 9)) h.parts,.v (kL (kR 10)) h.query.comps]),([7],.box [.v kI t.kind,.v (kL kS) t.labels,.v (kL (kR 0)) t.args])]⟩ (qB 0 (qS (X_Zbx nf kf c23_Zbx) (KF [.t 8 (.v .bool)])))
noncomputable def j26_Zbx(nf kf:Nat)(ctx:List Typing)(s:Schema)(h:Head)(t:Ty)(x107_26:Bool):Option (Bool):=X_Zbx nf kf c26_Zbx ⟨[(1,.v (kL (kR 8)) ctx),(4,.pt [4] 0),(6,.pt [6] 0),(7,.pt [7] 0),(107,.v .bool x107_26)],[([4],.box [.v (kL (kR 4)) s.tables]),([6],.box [.v kI h.kind,.v kI h.term.kind,.v kS h.term.name,.v kI h.term.n,.v kI h.term.type.kind,.v (kL kS) h.term.type.labels,.v (kL (kR 0)) h.term.type.args,.v (kL kS) h.term.labels,.v (kL (kR 2)) h.term.args,.v (kL kS) h.labels,.v (kL (kR 9)) h.parts,.v (kL (kR 10)) h.query.comps]),([7],.box [.v kI t.kind,.v (kL kS) t.labels,.v (kL (kR 0)) t.args])]⟩ (qS (X_Zbx nf kf c31_Zbx) (KF [.t 8 (.v .bool)]))
noncomputable def l35_Zbx(nf kf:Nat)(m35:Nat)(ctx:List Typing)(s:Schema)(h:Head)(t:Ty)(x9_35:Int):Option (Bool):=xit [1,4,6,7,9] [[4],[6],[7]] (X_Zbx nf kf c36_Zbx) (qB 1 (qS (X_Zbx nf kf c52_Zbx) (KF [.t 8 (.v .bool)]))) m35 ⟨[(1,.v (kL (kR 8)) ctx),(4,.pt [4] 0),(6,.pt [6] 0),(7,.pt [7] 0),(9,.v kI x9_35)],[([4],.box [.v (kL (kR 4)) s.tables]),([6],.box [.v kI h.kind,.v kI h.term.kind,.v kS h.term.name,.v kI h.term.n,.v kI h.term.type.kind,.v (kL kS) h.term.type.labels,.v (kL (kR 0)) h.term.type.args,.v (kL kS) h.term.labels,.v (kL (kR 2)) h.term.args,.v (kL kS) h.labels,.v (kL (kR 9)) h.parts,.v (kL (kR 10)) h.query.comps]),([7],.box [.v kI t.kind,.v (kL kS) t.labels,.v (kL (kR 0)) t.args])]⟩
theorem j15_Zbx_eq(nf kf:Nat)(x8_15:Bool):j15_Zbx nf (kf+1) x8_15=(some x8_15):=by
 unfold j15_Zbx c15_Zbx c23_Zbx w26_Zbx c31_Zbx c52_Zbx
 generalize c26_Zbx=x0
 revert x0
 refine id ?_
 intro x0
 kernel_rfl
theorem j21_Zbx_eq(nf kf:Nat)(x8_21:Bool):j21_Zbx nf (kf+1) x8_21=(some x8_21):=by
 unfold j21_Zbx c21_Zbx c23_Zbx w26_Zbx c31_Zbx c52_Zbx
 generalize c26_Zbx=x0
 revert x0
 refine id ?_
 intro x0
 kernel_rfl
theorem j12_Zbx_eq(nf kf:Nat)(ctx:List Typing)(t:Ty)(s:Schema)(h:Head)(x12_12:Bool):j12_Zbx nf (kf+1) ctx t s h x12_12=(br x12_12 (br ((h.kind==(1:Int))==true) (br (((List.length h.labels:Int)==(0:Int))==true) (br (((List.length h.parts:Int)==(0:Int))==true) (br (((List.length h.query.comps:Int)==(0:Int))==true) (cb (m_Zbv nf s ctx (Tm.h h.term) (Ty.h t)) fun r43=>mark (j15_Zbx nf (kf+1) r43)) (mark (j15_Zbx nf (kf+1) false))) (mark (j15_Zbx nf (kf+1) false))) (mark (j15_Zbx nf (kf+1) false))) (mark (j15_Zbx nf (kf+1) false))) (br (t.kind==(4:Int)) (br ((h.kind==(3:Int))==true) (br (((List.length h.labels:Int)==(0:Int))==true) (br (((List.length h.parts:Int)==(0:Int))==true) (cb (m_Zbz nf (Tm.h h.term)) fun r65=>br (r65==true) (cb (m_Zby nf kf s ctx (Query.h h.query) (Ty.h t)) fun r73=>mark (j21_Zbx nf (kf+1) r73)) (mark (j21_Zbx nf (kf+1) false))) (mark (j21_Zbx nf (kf+1) false))) (mark (j21_Zbx nf (kf+1) false))) (mark (j21_Zbx nf (kf+1) false))) (br ((!(h.kind==(2:Int)))==false) (cb (m_ZbN nf h.labels t.labels) fun r83=>br ((!r83)==false) (br ((!((List.length h.parts:Int)==(List.length t.args:Int)))==false) (cb (m_Zbz nf (Tm.h h.term)) fun r98=>br ((!r98)==false) (mark (j26_Zbx nf (kf+1) ctx s h t (decide ((0:Int)<(List.length h.query.comps:Int))))) (mark (j26_Zbx nf (kf+1) ctx s h t true))) (mark (j26_Zbx nf (kf+1) ctx s h t true))) (mark (j26_Zbx nf (kf+1) ctx s h t true))) (mark (j26_Zbx nf (kf+1) ctx s h t true))))):=by
 unfold j12_Zbx j15_Zbx j21_Zbx j26_Zbx c12_Zbx c23_Zbx w15_Zbx w21_Zbx w26_Zbx c31_Zbx c52_Zbx
 generalize c15_Zbx=x0
 generalize c21_Zbx=x1
 generalize c26_Zbx=x2
 revert x0 x1 x2
 refine id ?_
 intro x0 x1 x2
 kernel_rfl
theorem j26_Zbx_eq(nf kf:Nat)(ctx:List Typing)(s:Schema)(h:Head)(t:Ty)(x107_26:Bool):j26_Zbx nf (kf+1) ctx s h t x107_26=(br x107_26 (some false) (mark (l35_Zbx nf (kf+1) nf ctx s h t (0:Int)))):=by kernel_rfl
theorem l35_Zbx_eq(nf kf:Nat)(m35:Nat)(ctx:List Typing)(s:Schema)(h:Head)(t:Ty)(x9_35:Int):l35_Zbx nf (kf+1) (m35+1) ctx s h t x9_35=(br (decide (x9_35<(List.length h.parts:Int))) (gg (0<=x9_35∧x9_35<(List.length h.parts:Int))<|gg (0<=x9_35∧x9_35<(List.length t.args:Int))<|cb (m_Zbx nf kf s ctx (gt h.parts x9_35 Head.zero) (gt t.args x9_35 Ty.zero)) fun r127=>br (!r127) (some false) (mark (l35_Zbx nf (kf+1) m35 ctx s h t (w64 (x9_35+(1:Int)))))) (some true)):=by kernel_rfl
theorem m_Zbx_eq(nf kf:Nat)(s:Schema)(ctx:List Typing)(h:Head)(t:Ty):m_Zbx nf (kf+1) s ctx h t=(br (t.kind==(1:Int)) (mark (j12_Zbx nf (kf+1) ctx t s h (t.kind==(1:Int)))) (mark (j12_Zbx nf (kf+1) ctx t s h (t.kind==(2:Int))))):=by
 unfold m_Zbx j12_Zbx ir_Zbx w12_Zbx c23_Zbx w26_Zbx c31_Zbx c52_Zbx
 generalize c12_Zbx=x0
 generalize c26_Zbx=x1
 revert x0 x1
 refine id ?_
 intro x0 x1
 kernel_rfl
noncomputable def j21_Zby(nf kf:Nat)(m6:Nat)(ctx:List Typing)(x9_6:Int)(s:Schema)(q:Query)(t:Ty)(x67_21:Bool):Option (Bool):=X_Zby nf kf c21_Zby ⟨[(1,.v (kL (kR 8)) ctx),(4,.pt [4] 0),(6,.pt [6] 0),(7,.pt [7] 0),(9,.v kI x9_6),(67,.v .bool x67_21)],[([4],.box [.v (kL (kR 4)) s.tables]),([6],.box [.v (kL (kR 10)) q.comps]),([7],.box [.v kI t.kind,.v (kL kS) t.labels,.v (kL (kR 0)) t.args])]⟩ (qB 1 (qS (X_Zby nf kf c26_Zby) (qM [1,4,6,7,9] [[4],[6],[7]] (X_Zby nf kf c7_Zby) m6 (qB 0 (qS (X_Zby nf kf c27_Zby) (KF [.t 8 (.v .bool)]))))))
noncomputable def l6_Zby(nf kf:Nat)(m6:Nat)(ctx:List Typing)(s:Schema)(q:Query)(t:Ty)(x9_6:Int):Option (Bool):=xit [1,4,6,7,9] [[4],[6],[7]] (X_Zby nf kf c7_Zby) (qB 0 (qS (X_Zby nf kf c27_Zby) (KF [.t 8 (.v .bool)]))) m6 ⟨[(1,.v (kL (kR 8)) ctx),(4,.pt [4] 0),(6,.pt [6] 0),(7,.pt [7] 0),(9,.v kI x9_6)],[([4],.box [.v (kL (kR 4)) s.tables]),([6],.box [.v (kL (kR 10)) q.comps]),([7],.box [.v kI t.kind,.v (kL kS) t.labels,.v (kL (kR 0)) t.args])]⟩
theorem j21_Zby_eq(nf kf:Nat)(m6:Nat)(ctx:List Typing)(x9_6:Int)(s:Schema)(q:Query)(t:Ty)(x67_21:Bool):j21_Zby nf (kf+1) m6 ctx x9_6 s q t x67_21=(br x67_21 (some false) (mark (l6_Zby nf (kf+1) m6 ctx s q t (w64 (x9_6+(1:Int)))))):=by kernel_rfl
theorem l6_Zby_eq(nf kf:Nat)(m6:Nat)(ctx:List Typing)(s:Schema)(q:Query)(t:Ty)(x9_6:Int):l6_Zby nf (kf+1) (m6+1) ctx s q t x9_6=(br (decide (x9_6<(List.length q.comps:Int))) (gg (0<=x9_6∧x9_6<(List.length q.comps:Int))<|cb (m_Zbw nf s ctx ((gt q.comps x9_6 Comp.zero).gens)) fun r30=>br ((!r30.2)==false) (cb (m_ZbE nf) fun r40=>cb (m_Zbv nf s r30.1 (Tm.h ((gt q.comps x9_6 Comp.zero).whr)) r40) fun r41=>br ((!r41)==false) (br (((((gt q.comps x9_6 Comp.zero).whr).kind)==(3:Int))==true) (br (((((gt q.comps x9_6 Comp.zero).whr).n)==(0:Int))==false) (gg (0<=(0:Int)∧(0:Int)<(List.length t.args:Int))<|cb (m_Zbx nf kf s r30.1 (Head.h ((gt q.comps x9_6 Comp.zero).head)) (gt t.args (0:Int) Ty.zero)) fun r65=>mark (j21_Zby nf (kf+1) m6 ctx x9_6 s q t (!r65))) (mark (j21_Zby nf (kf+1) m6 ctx x9_6 s q t true))) (gg (0<=(0:Int)∧(0:Int)<(List.length t.args:Int))<|cb (m_Zbx nf kf s r30.1 (Head.h ((gt q.comps x9_6 Comp.zero).head)) (gt t.args (0:Int) Ty.zero)) fun r65=>mark (j21_Zby nf (kf+1) m6 ctx x9_6 s q t (!r65)))) (mark (j21_Zby nf (kf+1) m6 ctx x9_6 s q t true))) (mark (j21_Zby nf (kf+1) m6 ctx x9_6 s q t true))) (some (decide ((List.length q.comps:Int)<=(24:Int))))):=by
 unfold l6_Zby j21_Zby c7_Zby c27_Zby w21_Zby c26_Zby
 generalize c21_Zby=x0
 revert x0
 refine id ?_
 intro x0
 kernel_rfl
theorem m_Zby_eq(nf kf:Nat)(s:Schema)(ctx:List Typing)(q:Query)(t:Ty):m_Zby nf (kf+1) s ctx q t=(mark (l6_Zby nf (kf+1) nf ctx s q t (0:Int))):=by kernel_rfl
noncomputable def e_Zby(nf:Nat):XE:=eF 65 [.v (kR 5),.v (kL (kR 8)),.v (kR 11),.v (kR 0)] [.v .bool] (fun t=>m_Zby nf nf t.1 t.2.1 t.2.2.1 t.2.2.2.1)
theorem gok_Zbx(nf:Nat):∀kf:Nat,XT.ok Tryz.prog (G_Zbx nf kf++B_Zbx nf)
 |0=>by exact⟨o_Zbv nf,o_Zbz nf,o_ZbN nf,o_Zbw nf,o_ZbE nf,trivial⟩
 |kf+1=>by
  have ih:=gok_Zbx nf kf
  refine⟨?_,?_,(by exact⟨o_Zbv nf,o_Zbz nf,o_ZbN nf,o_Zbw nf,o_ZbE nf,trivial⟩)⟩
  ·refine eF_ok fun t x h=> ?_
   obtain⟨s,ctx,h,t,_⟩:=t
   exact runF_ok (N:=129) ih Tryz.func108 (by kernel_rfl) rfl h
  ·refine eF_ok fun t x h=> ?_
   obtain⟨s,ctx,q,t,_⟩:=t
   exact runF_ok (N:=72) ih Tryz.func65 (by kernel_rfl) rfl h
theorem o_Zby(nf:Nat):conOK Tryz.prog 65 (e_Zby nf).con:=by
 have ih:=gok_Zbx nf nf
 refine eF_ok fun t x h=> ?_
 obtain⟨s,ctx,q,t,_⟩:=t
 exact runF_ok (N:=72) ih Tryz.func65 (by kernel_rfl) rfl h
def ir_Zbh:C:=.sq (.rg [.bx 3 T0 (kR 5),.bx 4 T1 (kR 11),.bx 5 T2 (kR 0),.mv 6 (.b false)]) (.sq (.rg [.ld 7 T3 (kR 5),.cv (some 8) 33 [(T7,.v (kR 5))],.mv 9 T8,.g 9 true (.ld 10 T5 (kR 0)),.g 9 true (.cv (some 11) 51 [(T10,.v (kR 0))]),.pk 12 T9 T11 (.b false),.mv 13 T12,.g 13 true (.fa 14 T5 0 0 0),.g 13 true (.ld 15 T14 kI),.g 13 true (.bi 16 .eql T15 (.i 4)),.pk 17 T13 T16 (.b false),.mv 18 T17,.g 18 true (.ld 19 T3 (kR 5)),.g 18 true (.bs 20 false (kR 8) []),.g 18 true (.ld 21 T4 (kR 11)),.g 18 true (.ld 22 T5 (kR 0)),.g 18 true (.cv (some 23) 65 [(T19,.v (kR 5)),(T20,.v (kL (kR 8))),(T21,.v (kR 11)),(T22,.v (kR 0))]),.pk 24 T18 T23 (.b false),.mv 6 T24]) .rt)
noncomputable abbrev T_Zbh(nf:Nat):XT:=[e_Zbj nf,e_Zbf nf,e_Zby nf]
noncomputable def m_Zbh(nf:Nat)(s:Schema)(q:Query)(t:Ty):Option (Bool):=runF (T_Zbh nf) nf [.v (kR 5),.v (kR 11),.v (kR 0)] [.t 6 (.v .bool)] ir_Zbh (s,q,t,())
theorem m_Zbh_eq(nf:Nat)(s:Schema)(q:Query)(t:Ty):m_Zbh nf s q t=(cb (m_Zbj nf s) fun r8=>br (r8==true) (cb (m_Zbf nf (Ty.h t)) fun r11=>br (r11==true) (br ((t.kind==(4:Int))==true) (cb (m_Zby nf nf s ([]:List Typing) (Query.h q) (Ty.h t)) fun r23=>some r23) (some false)) (some false)) (some false)):=by kernel_rfl
noncomputable def e_Zbh(nf:Nat):XE:=eF 23 [.v (kR 5),.v (kR 11),.v (kR 0)] [.v .bool] (fun t=>m_Zbh nf t.1 t.2.1 t.2.2.1)
theorem o_Zbh(nf:Nat):conOK Tryz.prog 23 (e_Zbh nf).con:=by
 have ih:XT.ok Tryz.prog (T_Zbh nf):=by exact⟨o_Zbj nf,o_Zbf nf,o_Zby nf,trivial⟩
 refine eF_ok fun t x h=> ?_
 obtain⟨s,q,t,_⟩:=t
 exact runF_ok (N:=25) ih Tryz.func23 (by kernel_rfl) rfl h
end Go.Q
