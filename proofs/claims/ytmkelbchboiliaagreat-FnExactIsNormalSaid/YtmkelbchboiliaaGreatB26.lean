/- Normal queries: the program's side. -/
import Derived.Test.YtmkelbchboiliaaGreatB21
import Derived.Test.YtmkelbchboiliaaGreatB25
import Derived.Test.YtmkelbchboiliaaGreatProg
import Derived.KernelRfl
set_option linter.unusedVariables false
set_option linter.unusedSimpArgs false
namespace Go.Q
open Go.Proofs
set_option maxRecDepth 20000
set_option maxHeartbeats 4000000
def ir_Zy:C:=.sq (.rg [.al 0 (kR 2)]) (.sq (.rg [.bd 1 2 [(0,1,(.i 3))],.st T0 T1 (kR 2)]) .rt)
noncomputable abbrev T_Zy(nf:Nat):XT:=[]
noncomputable def m_Zy(nf:Nat):Option (Tm):=runF (T_Zy nf) nf [] [.c 0 (.o (kR 2))] ir_Zy (())
theorem m_Zy_eq(nf:Nat):m_Zy nf=(some (Tm.mk (3:Int) ([]:Str) (0:Int) (Ty.mk (0:Int) ([]:List Str) ([]:List Ty)) ([]:List Str) ([]:List Tm))):=by kernel_rfl
noncomputable def e_Zy(nf:Nat):XE:=eF 148 [] [.o (kR 2)] (fun t=>m_Zy nf)
theorem o_Zy(nf:Nat):conOK Tryz.prog 148 (e_Zy nf).con:=by
 have ih:XT.ok Tryz.prog (T_Zy nf):=by exact trivial
 refine eF_ok fun t x h=> ?_
 exact runF_ok (N:=2) ih Tryz.func148 (by kernel_rfl) rfl h
def ir_ZF:C:=.sq (.rg [.bx 1 T0 (kR 2),.mv 2 (.b false)]) (.sq (.dr [] [.ld 3 T1 (kR 2),.cv (some 4) 148 []] [.cv (some 5) 143 [(T3,.v (kR 2)),(T4,.v (kR 2))],.mv 2 T5]) .rt)
noncomputable abbrev T_ZF(nf:Nat):XT:=[e_Zy nf,e_Zh nf]
noncomputable def m_ZF(nf:Nat)(e:Tm):Option (Bool):=runF (T_ZF nf) nf [.v (kR 2)] [.t 2 (.v .bool)] ir_ZF (e,())
theorem m_ZF_eq(nf:Nat)(e:Tm):m_ZF nf e=(cb (m_Zy nf) fun r4=>cb (m_Zh nf nf (Tm.h e) r4) fun r5=>some r5):=by kernel_rfl
noncomputable def e_ZF(nf:Nat):XE:=eF 110 [.v (kR 2)] [.v .bool] (fun t=>m_ZF nf t.1)
theorem o_ZF(nf:Nat):conOK Tryz.prog 110 (e_ZF nf).con:=by
 have ih:XT.ok Tryz.prog (T_ZF nf):=by exact⟨o_Zy nf,o_Zh nf,trivial⟩
 refine eF_ok fun t x h=> ?_
 obtain⟨e,_⟩:=t
 exact runF_ok (N:=6) ih Tryz.func110 (by kernel_rfl) rfl h
def c37_ZN:C:=.sq (.rg [.mv 8 (.b true)]) .rt
def c36_ZN:C:=.rg [.bi 83 .add T24 (.i 1),.mv 24 T83]
def c31_ZN:C:=.cd T82 (.sq (.rg [.mv 8 (.b false)]) .rt) .skip
def w31_ZN:C:=.kp [1,2,3,4,23,24,82] [[4]] c31_ZN
def c15_ZN:C:=.sq (.rg [.bi 25 .lss T24 T23]) (.sq (.cd T25 .skip (.ex 0)) (.sq (.bk 1 (.sq (.rg [.mv 26 T24,.mv 9 T26]) (.sq (.rg [.mv 27 T1,.nck 28 T27,.fa 29 T28 11 0 0,.ld 30 T29 (kL (kR 10)),.mv 31 T9,.ia 32 T30 T31 (kR 10),.mv 10 T32]) (.sq (.dr [40] [.ld 34 T4 (kR 5),.mv 35 T3,.mv 36 T10,.nck 37 T36,.fa 38 T37 10 0 0,.ld 39 T38 (kL (kR 3)),.ca (some 40) 40 [(T34,.v (kR 5)),(T35,.v (kL (kR 8))),(T39,.v (kL (kR 3)))],.mv 33 T40,.xt 41 T33 0,.xt 42 T33 1,.mv 11 T41] [.mv 12 T42]) (.sq (.dr [] [.mv 43 T12,.un 44 .not T43,.mv 45 T44,.g 45 false (.mv 46 T10),.g 45 false (.nck 47 T46),.g 45 false (.fa 48 T47 10 0 0),.g 45 false (.ld 49 T48 (kL (kR 3))),.g 45 false (.ln 50 false T49),.g 45 false (.bi 51 .gtr T50 (.i 6)),.pk 52 T45 (.b true) T51,.mv 53 T52,.g 53 false (.mv 54 T10),.g 53 false (.nck 55 T54),.g 53 false (.fa 56 T55 10 1 1),.g 53 false (.ld 57 T56 (kR 2)),.g 53 false (.cv (some 58) 110 [(T57,.v (kR 2))]),.pk 59 T53 (.b true) T58,.mv 60 T59,.g 60 false (.ld 61 T4 (kR 5)),.g 60 false (.mv 62 T11),.g 60 false (.mv 63 T10),.g 60 false (.nck 64 T63),.g 60 false (.fa 65 T64 10 1 1),.g 60 false (.cv (some 66) 103 [(T61,.v (kR 5)),(T62,.v (kL (kR 8))),(T65,.v (.ptr (kR 2))),((.i 2),.v kI)]),.g 60 false (.un 67 .not T66),.pk 68 T60 (.b true) T67,.mv 69 T68,.g 69 false (.ld 70 T4 (kR 5)),.g 69 false (.mv 71 T10),.g 69 false (.nck 72 T71),.g 69 false (.fa 73 T72 10 2 9),.g 69 false (.mv 74 T2),.g 69 false (.nck 75 T74),.g 69 false (.fa 76 T75 0 2 2),.g 69 false (.ld 77 T76 (kL (kR 0))),.g 69 false (.ia 78 T77 (.i 0) (kR 0)),.g 69 false (.mv 79 T11)] [.g 69 false (.cv (some 80) 111 [(T70,.v (kR 5)),(T73,.v (.ptr (kR 9))),(T78,.v (.ptr (kR 0))),(T79,.v (kL (kR 8)))]),.g 69 false (.un 81 .not T80),.pk 82 T69 (.b true) T81]) w31_ZN))))) c36_ZN))
def ir_ZN:C:=.sq (.rg [.bx 4 T0 (kR 5),.mv 8 (.b false)]) (.sq (.sq (.rg [.mv 13 T1,.nck 14 T13,.fa 15 T14 11 0 0,.ld 16 T15 (kL (kR 10)),.ln 17 false T16,.bi 18 .gtr T17 (.i 24)]) (.cd T18 (.sq (.rg [.mv 8 (.b false)]) .rt) .skip)) (.sq (.sq (.rg [.mv 19 T1,.nck 20 T19,.fa 21 T20 11 0 0,.ld 22 T21 (kL (kR 10)),.ln 23 false T22,.mv 24 (.i 0)]) (.bk 0 (.lk [1,2,3,4,23,24] [[4]] c15_ZN))) c37_ZN))
def c50_ZB:C:=.sq (.dr [] [.mv 127 T1,.nck 128 T127,.fa 129 T128 9 0 0,.ld 130 T129 kI,.bi 131 .eql T130 (.i 1),.mv 132 T131,.g 132 true (.mv 133 T1),.g 132 true (.nck 134 T133),.g 132 true (.fa 135 T134 9 2 9),.g 132 true (.ld 136 T135 (kL kS)),.g 132 true (.ln 137 false T136),.g 132 true (.bi 138 .eql T137 (.i 0)),.pk 139 T132 T138 (.b false),.mv 140 T139,.g 140 true (.mv 141 T1),.g 140 true (.nck 142 T141),.g 140 true (.fa 143 T142 9 3 10),.g 140 true (.ld 144 T143 (kL (kR 9))),.g 140 true (.ln 145 false T144),.g 140 true (.bi 146 .eql T145 (.i 0)),.pk 147 T140 T146 (.b false),.mv 148 T147,.g 148 true (.mv 149 T1),.g 148 true (.nck 150 T149),.g 148 true (.fa 151 T150 9 4 11),.g 148 true (.fa 152 T151 11 0 0),.g 148 true (.ld 153 T152 (kL (kR 10))),.g 148 true (.ln 154 false T153),.g 148 true (.bi 155 .eql T154 (.i 0)),.pk 156 T148 T155 (.b false),.mv 157 T156,.g 157 true (.ld 158 T4 (kR 5)),.g 157 true (.mv 159 T3),.g 157 true (.mv 160 T1),.g 157 true (.nck 161 T160),.g 157 true (.fa 162 T161 9 1 1),.g 157 true (.mv 163 T2),.g 157 true (.nck 164 T163),.g 157 true (.fa 165 T164 0 0 0),.g 157 true (.ld 166 T165 kI)] [.g 157 true (.cv (some 167) 103 [(T158,.v (kR 5)),(T159,.v (kL (kR 8))),(T162,.v (.ptr (kR 2))),(T166,.v kI)]),.pk 168 T157 T167 (.b false),.mv 8 T168]) .rt
def w50_ZB:C:=.kp [1,2,3,4] [[4]] c50_ZB
def c48_ZB:C:=.rt
def w48_ZB:C:=.kp [8] [] c48_ZB
def c40_ZB:C:=.sq (.rg [.mv 8 (.b true)]) .rt
def w40_ZB:C:=.kp [] [] c40_ZB
def c22_ZB:C:=.sq (.rg [.bi 69 .lss T68 T67]) (.sq (.cd T69 .skip (.ex 1)) (.sq (.bk 2 (.sq (.rg [.mv 70 T68,.mv 9 T70]) (.sq (.dr [] [.ld 71 T4 (kR 5),.mv 72 T1,.nck 73 T72,.fa 74 T73 9 3 10,.ld 75 T74 (kL (kR 9)),.mv 76 T9,.ia 77 T75 T76 (kR 9),.mv 78 T2,.nck 79 T78,.fa 80 T79 0 2 2,.ld 81 T80 (kL (kR 0)),.mv 82 T9,.ia 83 T81 T82 (kR 0),.mv 84 T3] [.cv (some 85) 111 [(T71,.v (kR 5)),(T77,.v (.ptr (kR 9))),(T83,.v (.ptr (kR 0))),(T84,.v (kL (kR 8)))],.un 86 .not T85]) (.cd T86 (.sq (.rg [.mv 8 (.b false)]) .rt) .skip)))) (.rg [.bi 87 .add T68 (.i 1),.mv 68 T87])))
def c17_ZB:C:=.sq (.sq (.rg [.mv 63 T1,.nck 64 T63,.fa 65 T64 9 3 10,.ld 66 T65 (kL (kR 9)),.ln 67 false T66,.mv 68 (.i 0)]) (.bk 1 (.lk [1,2,3,4,67,68] [[4]] c22_ZB))) w40_ZB
def c12_ZB:C:=.cd T62 (.sq (.rg [.mv 8 (.b false)]) .rt) .skip
def w12_ZB:C:=.kp [1,2,3,4,62] [[4]] c12_ZB
def ir_ZB:C:=.sq (.rg [.bx 4 T0 (kR 5),.mv 8 (.b false)]) (.sq (.sq (.rg [.mv 10 T2,.nck 11 T10,.fa 12 T11 0 0 0,.ld 13 T12 kI]) (.bk 0 (.sq (.rg [.bi 15 .eql T13 (.i 3),.mv 14 T15]) (.cd T14 (.sq (.sq (.dr [] [.mv 16 T1,.nck 17 T16,.fa 18 T17 9 0 0,.ld 19 T18 kI,.bi 20 .neq T19 (.i 2),.mv 21 T20,.g 21 false (.mv 22 T1),.g 21 false (.nck 23 T22),.g 21 false (.fa 24 T23 9 2 9),.g 21 false (.ld 25 T24 (kL kS)),.g 21 false (.mv 26 T2),.g 21 false (.nck 27 T26),.g 21 false (.fa 28 T27 0 1 1),.g 21 false (.ld 29 T28 (kL kS)),.g 21 false (.cv (some 30) 149 [(T25,.v (kL kS)),(T29,.v (kL kS))]),.g 21 false (.un 31 .not T30),.pk 32 T21 (.b true) T31,.mv 33 T32,.g 33 false (.mv 34 T1),.g 33 false (.nck 35 T34),.g 33 false (.fa 36 T35 9 3 10),.g 33 false (.ld 37 T36 (kL (kR 9))),.g 33 false (.ln 38 false T37),.g 33 false (.mv 39 T2),.g 33 false (.nck 40 T39),.g 33 false (.fa 41 T40 0 2 2),.g 33 false (.ld 42 T41 (kL (kR 0))),.g 33 false (.ln 43 false T42)] [.g 33 false (.bi 44 .neq T38 T43),.pk 45 T33 (.b true) T44,.mv 46 T45,.g 46 false (.mv 47 T1),.g 46 false (.nck 48 T47),.g 46 false (.fa 49 T48 9 1 1),.g 46 false (.ld 50 T49 (kR 2)),.g 46 false (.cv (some 51) 104 [(T50,.v (kR 2))]),.g 46 false (.un 52 .not T51),.pk 53 T46 (.b true) T52,.mv 54 T53,.g 54 false (.mv 55 T1),.g 54 false (.nck 56 T55),.g 54 false (.fa 57 T56 9 4 11),.g 54 false (.fa 58 T57 11 0 0),.g 54 false (.ld 59 T58 (kL (kR 10))),.g 54 false (.ln 60 false T59),.g 54 false (.bi 61 .gtr T60 (.i 0)),.pk 62 T54 (.b true) T61]) w12_ZB) c17_ZB) (.sq (.rg [.bi 89 .eql T13 (.i 4),.mv 88 T89]) (.cd T88 (.sq (.dr [] [.mv 90 T1,.nck 91 T90,.fa 92 T91 9 0 0,.ld 93 T92 kI,.bi 94 .eql T93 (.i 3),.mv 95 T94,.g 95 true (.mv 96 T1),.g 95 true (.nck 97 T96),.g 95 true (.fa 98 T97 9 2 9),.g 95 true (.ld 99 T98 (kL kS)),.g 95 true (.ln 100 false T99),.g 95 true (.bi 101 .eql T100 (.i 0)),.pk 102 T95 T101 (.b false),.mv 103 T102,.g 103 true (.mv 104 T1),.g 103 true (.nck 105 T104),.g 103 true (.fa 106 T105 9 3 10),.g 103 true (.ld 107 T106 (kL (kR 9))),.g 103 true (.ln 108 false T107),.g 103 true (.bi 109 .eql T108 (.i 0)),.pk 110 T103 T109 (.b false),.mv 111 T110,.g 111 true (.mv 112 T1),.g 111 true (.nck 113 T112),.g 111 true (.fa 114 T113 9 1 1),.g 111 true (.ld 115 T114 (kR 2)),.g 111 true (.cv (some 116) 104 [(T115,.v (kR 2))]),.pk 117 T111 T116 (.b false),.mv 118 T117,.g 118 true (.ld 119 T4 (kR 5)),.g 118 true (.mv 120 T1),.g 118 true (.nck 121 T120),.g 118 true (.fa 122 T121 9 4 11),.g 118 true (.mv 123 T2),.g 118 true (.mv 124 T3)] [.g 118 true (.cv (some 125) 67 [(T119,.v (kR 5)),(T122,.v (.ptr (kR 11))),(T123,.v (.ptr (kR 0))),(T124,.v (kL (kR 8)))]),.pk 126 T118 T125 (.b false),.mv 8 T126]) w48_ZB) .skip)))))) w50_ZB)
noncomputable def B_ZN(nf:Nat):XT:=[e_Zz nf,e_ZF nf,e_ZA nf,e_ZaW nf,e_ZI nf]
noncomputable def G_ZN(nf:Nat):Nat->XT
 |0=>[]
 |kf+1=>[eF 67 [.v (kR 5),.p (kR 11),.p (kR 0),.v (kL (kR 8))] [.v .bool] (fun t=>(fun(s:Schema) (q:Query) (t:Ty) (ctx:List Typing)=>runF (G_ZN nf kf++B_ZN nf) nf [.v (kR 5),.p (kR 11),.p (kR 0),.v (kL (kR 8))] [.t 8 (.v .bool)] ir_ZN (s,q,t,ctx,())) t.1 t.2.1 t.2.2.1 t.2.2.2.1),
  eF 111 [.v (kR 5),.p (kR 9),.p (kR 0),.v (kL (kR 8))] [.v .bool] (fun t=>(fun(s:Schema) (h:Head) (t:Ty) (ctx:List Typing)=>runF (G_ZN nf kf++B_ZN nf) nf [.v (kR 5),.p (kR 9),.p (kR 0),.v (kL (kR 8))] [.t 8 (.v .bool)] ir_ZB (s,h,t,ctx,())) t.1 t.2.1 t.2.2.1 t.2.2.2.1)]
noncomputable abbrev T_ZN(nf kf:Nat):XT:=G_ZN nf kf++B_ZN nf
noncomputable abbrev T_ZB(nf kf:Nat):XT:=G_ZN nf kf++B_ZN nf
noncomputable def m_ZN(nf kf:Nat)(s:Schema)(q:Query)(t:Ty)(ctx:List Typing):Option (Bool):=runF (T_ZN nf kf) nf [.v (kR 5),.p (kR 11),.p (kR 0),.v (kL (kR 8))] [.t 8 (.v .bool)] ir_ZN (s,q,t,ctx,())
noncomputable def X_ZN{R:Type}(nf kf:Nat):C->Env->(Xt->Env->Option R)->Option R:=xc (R:=R) (T_ZN nf kf).S nf
noncomputable def m_ZB(nf kf:Nat)(s:Schema)(h:Head)(t:Ty)(ctx:List Typing):Option (Bool):=runF (T_ZB nf kf) nf [.v (kR 5),.p (kR 9),.p (kR 0),.v (kL (kR 8))] [.t 8 (.v .bool)] ir_ZB (s,h,t,ctx,())
noncomputable def X_ZB{R:Type}(nf kf:Nat):C->Env->(Xt->Env->Option R)->Option R:=xc (R:=R) (T_ZB nf kf).S nf
noncomputable def j31_ZN(nf kf:Nat)(m14:Nat)(q:Query)(t:Ty)(ctx:List Typing)(x24_14:Int)(s:Schema)(x82_31:Bool):Option (Bool):=X_ZN nf kf c31_ZN ⟨[(1,.v (.ptr (kR 11)) (some q)),(2,.v (.ptr (kR 0)) (some t)),(3,.v (kL (kR 8)) ctx),(4,.pt [4] 0),(23,.v kI (List.length q.comps:Int)),(24,.v kI x24_14),(82,.v .bool x82_31)],[([4],.box [.v (kL (kR 4)) s.tables])]⟩ (qB 1 (qS (X_ZN nf kf c36_ZN) (qM [1,2,3,4,23,24] [[4]] (X_ZN nf kf c15_ZN) m14 (qB 0 (qS (X_ZN nf kf c37_ZN) (KF [.t 8 (.v .bool)]))))))
noncomputable def l14_ZN(nf kf:Nat)(m14:Nat)(q:Query)(t:Ty)(ctx:List Typing)(s:Schema)(x24_14:Int):Option (Bool):=xit [1,2,3,4,23,24] [[4]] (X_ZN nf kf c15_ZN) (qB 0 (qS (X_ZN nf kf c37_ZN) (KF [.t 8 (.v .bool)]))) m14 ⟨[(1,.v (.ptr (kR 11)) (some q)),(2,.v (.ptr (kR 0)) (some t)),(3,.v (kL (kR 8)) ctx),(4,.pt [4] 0),(23,.v kI (List.length q.comps:Int)),(24,.v kI x24_14)],[([4],.box [.v (kL (kR 4)) s.tables])]⟩
theorem j31_ZN_eq(nf kf:Nat)(m14:Nat)(q:Query)(t:Ty)(ctx:List Typing)(x24_14:Int)(s:Schema)(x82_31:Bool):j31_ZN nf (kf+1) m14 q t ctx x24_14 s x82_31=(br x82_31 (some false) (mark (l14_ZN nf (kf+1) m14 q t ctx s (w64 (x24_14+(1:Int)))))):=by kernel_rfl
theorem l14_ZN_eq(nf kf:Nat)(m14:Nat)(q:Query)(t:Ty)(ctx:List Typing)(s:Schema)(x24_14:Int):l14_ZN nf (kf+1) (m14+1) q t ctx s x24_14=(br (decide (x24_14<(List.length q.comps:Int))) (gg (0<=x24_14∧x24_14<(List.length q.comps:Int))<|cb (m_Zz nf s ctx ((gt q.comps x24_14 Comp.zero).gens)) fun r40=>br ((!r40.2)==false) (br ((decide ((6:Int)<(List.length ((gt q.comps x24_14 Comp.zero).gens):Int)))==false) (cb (m_ZF nf ((gt q.comps x24_14 Comp.zero).whr)) fun r58=>br (r58==false) (cb (m_ZA nf s r40.1 ((gt q.comps x24_14 Comp.zero).whr) (2:Int)) fun r66=>br ((!r66)==false) (gg (0<=(0:Int)∧(0:Int)<(List.length t.args:Int))<|cb (m_ZB nf kf s ((gt q.comps x24_14 Comp.zero).head) (gt t.args (0:Int) Ty.zero) r40.1) fun r80=>mark (j31_ZN nf (kf+1) m14 q t ctx x24_14 s (!r80))) (mark (j31_ZN nf (kf+1) m14 q t ctx x24_14 s true))) (mark (j31_ZN nf (kf+1) m14 q t ctx x24_14 s true))) (mark (j31_ZN nf (kf+1) m14 q t ctx x24_14 s true))) (mark (j31_ZN nf (kf+1) m14 q t ctx x24_14 s true))) (some true)):=by
 unfold l14_ZN j31_ZN c15_ZN c37_ZN w31_ZN c36_ZN
 generalize c31_ZN=x0
 revert x0
 refine id ?_
 intro x0
 kernel_rfl
theorem m_ZN_eq(nf kf:Nat)(s:Schema)(q:Query)(t:Ty)(ctx:List Typing):m_ZN nf (kf+1) s q t ctx=(br (decide ((24:Int)<(List.length q.comps:Int))) (some false) (mark (l14_ZN nf (kf+1) nf q t ctx s (0:Int)))):=by kernel_rfl
noncomputable def e_ZN(nf:Nat):XE:=eF 67 [.v (kR 5),.p (kR 11),.p (kR 0),.v (kL (kR 8))] [.v .bool] (fun t=>m_ZN nf nf t.1 t.2.1 t.2.2.1 t.2.2.2.1)
noncomputable def j12_ZB(nf kf:Nat)(h:Head)(t:Ty)(ctx:List Typing)(s:Schema)(x62_12:Bool):Option (Bool):=X_ZB nf kf c12_ZB ⟨[(1,.v (.ptr (kR 9)) (some h)),(2,.v (.ptr (kR 0)) (some t)),(3,.v (kL (kR 8)) ctx),(4,.pt [4] 0),(62,.v .bool x62_12)],[([4],.box [.v (kL (kR 4)) s.tables])]⟩ (qS (X_ZB nf kf c17_ZB) (qB 0 (qS (X_ZB nf kf w50_ZB) (KF [.t 8 (.v .bool)]))))
noncomputable def l21_ZB(nf kf:Nat)(m21:Nat)(h:Head)(t:Ty)(ctx:List Typing)(s:Schema)(x68_21:Int):Option (Bool):=xit [1,2,3,4,67,68] [[4]] (X_ZB nf kf c22_ZB) (qB 1 (qS (X_ZB nf kf w40_ZB) (qB 0 (qS (X_ZB nf kf w50_ZB) (KF [.t 8 (.v .bool)]))))) m21 ⟨[(1,.v (.ptr (kR 9)) (some h)),(2,.v (.ptr (kR 0)) (some t)),(3,.v (kL (kR 8)) ctx),(4,.pt [4] 0),(67,.v kI (List.length h.parts:Int)),(68,.v kI x68_21)],[([4],.box [.v (kL (kR 4)) s.tables])]⟩
noncomputable def j40_ZB(nf kf:Nat):Option (Bool):=X_ZB nf kf c40_ZB ⟨[],[]⟩ (qB 0 (qS (X_ZB nf kf w50_ZB) (KF [.t 8 (.v .bool)])))
noncomputable def j48_ZB(nf kf:Nat)(x8_48:Bool):Option (Bool):=X_ZB nf kf c48_ZB ⟨[(8,.v .bool x8_48)],[]⟩ (qB 0 (qS (X_ZB nf kf w50_ZB) (KF [.t 8 (.v .bool)])))
noncomputable def j50_ZB(nf kf:Nat)(h:Head)(t:Ty)(ctx:List Typing)(s:Schema):Option (Bool):=X_ZB nf kf c50_ZB ⟨[(1,.v (.ptr (kR 9)) (some h)),(2,.v (.ptr (kR 0)) (some t)),(3,.v (kL (kR 8)) ctx),(4,.pt [4] 0)],[([4],.box [.v (kL (kR 4)) s.tables])]⟩ (KF [.t 8 (.v .bool)])
theorem j12_ZB_eq(nf kf:Nat)(h:Head)(t:Ty)(ctx:List Typing)(s:Schema)(x62_12:Bool):j12_ZB nf (kf+1) h t ctx s x62_12=(br x62_12 (some false) (mark (l21_ZB nf (kf+1) nf h t ctx s (0:Int)))):=by
 unfold j12_ZB l21_ZB c12_ZB w50_ZB c17_ZB w40_ZB
 generalize c50_ZB=x0
 generalize c40_ZB=x1
 revert x0 x1
 refine id ?_
 intro x0 x1
 kernel_rfl
theorem l21_ZB_eq(nf kf:Nat)(m21:Nat)(h:Head)(t:Ty)(ctx:List Typing)(s:Schema)(x68_21:Int):l21_ZB nf (kf+1) (m21+1) h t ctx s x68_21=(br (decide (x68_21<(List.length h.parts:Int))) (gg (0<=x68_21∧x68_21<(List.length h.parts:Int))<|gg (0<=x68_21∧x68_21<(List.length t.args:Int))<|cb (m_ZB nf kf s (gt h.parts x68_21 Head.zero) (gt t.args x68_21 Ty.zero) ctx) fun r85=>br (!r85) (some false) (mark (l21_ZB nf (kf+1) m21 h t ctx s (w64 (x68_21+(1:Int)))))) (mark (j40_ZB nf (kf+1)))):=by
 unfold l21_ZB j40_ZB c22_ZB w50_ZB w40_ZB
 generalize c50_ZB=x0
 generalize c40_ZB=x1
 revert x0 x1
 refine id ?_
 intro x0 x1
 kernel_rfl
theorem j40_ZB_eq(nf kf:Nat):j40_ZB nf (kf+1)=(some true):=by
 unfold j40_ZB c40_ZB w50_ZB
 generalize c50_ZB=x0
 revert x0
 refine id ?_
 intro x0
 kernel_rfl
theorem j48_ZB_eq(nf kf:Nat)(x8_48:Bool):j48_ZB nf (kf+1) x8_48=(some x8_48):=by
 unfold j48_ZB c48_ZB w50_ZB
 generalize c50_ZB=x0
 revert x0
 refine id ?_
 intro x0
 kernel_rfl
theorem j50_ZB_eq(nf kf:Nat)(h:Head)(t:Ty)(ctx:List Typing)(s:Schema):j50_ZB nf (kf+1) h t ctx s=(br ((h.kind==(1:Int))==true) (br (((List.length h.labels:Int)==(0:Int))==true) (br (((List.length h.parts:Int)==(0:Int))==true) (br (((List.length h.query.comps:Int)==(0:Int))==true) (cb (m_ZA nf s ctx h.term t.kind) fun r167=>some r167) (some false)) (some false)) (some false)) (some false)):=by kernel_rfl
theorem m_ZB_eq(nf kf:Nat)(s:Schema)(h:Head)(t:Ty)(ctx:List Typing):m_ZB nf (kf+1) s h t ctx=(br (t.kind==(3:Int)) (br ((!(h.kind==(2:Int)))==false) (cb (m_ZaW nf h.labels t.labels) fun r30=>br ((!r30)==false) (br ((!((List.length h.parts:Int)==(List.length t.args:Int)))==false) (cb (m_ZI nf h.term) fun r51=>br ((!r51)==false) (mark (j12_ZB nf (kf+1) h t ctx s (decide ((0:Int)<(List.length h.query.comps:Int))))) (mark (j12_ZB nf (kf+1) h t ctx s true))) (mark (j12_ZB nf (kf+1) h t ctx s true))) (mark (j12_ZB nf (kf+1) h t ctx s true))) (mark (j12_ZB nf (kf+1) h t ctx s true))) (br (t.kind==(4:Int)) (br ((h.kind==(3:Int))==true) (br (((List.length h.labels:Int)==(0:Int))==true) (br (((List.length h.parts:Int)==(0:Int))==true) (cb (m_ZI nf h.term) fun r116=>br (r116==true) (cb (m_ZN nf kf s h.query t ctx) fun r125=>mark (j48_ZB nf (kf+1) r125)) (mark (j48_ZB nf (kf+1) false))) (mark (j48_ZB nf (kf+1) false))) (mark (j48_ZB nf (kf+1) false))) (mark (j48_ZB nf (kf+1) false))) (mark (j50_ZB nf (kf+1) h t ctx s)))):=by
 unfold m_ZB j12_ZB j48_ZB j50_ZB ir_ZB w12_ZB c17_ZB w48_ZB w50_ZB w40_ZB
 generalize c12_ZB=x0
 generalize c48_ZB=x1
 generalize c50_ZB=x2
 generalize c40_ZB=x3
 revert x0 x1 x2 x3
 refine id ?_
 intro x0 x1 x2 x3
 kernel_rfl
theorem gok_ZN(nf:Nat):∀kf:Nat,XT.ok Tryz.prog (G_ZN nf kf++B_ZN nf)
 |0=>by exact⟨o_Zz nf,o_ZF nf,o_ZA nf,o_ZaW nf,o_ZI nf,trivial⟩
 |kf+1=>by
  have ih:=gok_ZN nf kf
  refine⟨?_,?_,(by exact⟨o_Zz nf,o_ZF nf,o_ZA nf,o_ZaW nf,o_ZI nf,trivial⟩)⟩
  ·refine eF_ok fun t x h=> ?_
   obtain⟨s,q,t,ctx,_⟩:=t
   exact runF_ok (N:=84) ih Tryz.func67 (by kernel_rfl) rfl h
  ·refine eF_ok fun t x h=> ?_
   obtain⟨s,h,t,ctx,_⟩:=t
   exact runF_ok (N:=169) ih Tryz.func111 (by kernel_rfl) rfl h
theorem o_ZN(nf:Nat):conOK Tryz.prog 67 (e_ZN nf).con:=by
 have ih:=gok_ZN nf nf
 refine eF_ok fun t x h=> ?_
 obtain⟨s,q,t,ctx,_⟩:=t
 exact runF_ok (N:=84) ih Tryz.func67 (by kernel_rfl) rfl h
def ir_Zm:C:=.sq (.rg [.bx 3 T0 (kR 5),.bx 4 T1 (kR 11),.bx 5 T2 (kR 0),.mv 6 (.b false)]) (.sq (.rg [.ld 7 T3 (kR 5),.cv (some 8) 39 [(T7,.v (kR 5))],.mv 9 T8,.g 9 true (.ld 10 T5 (kR 0)),.g 9 true (.cv (some 11) 56 [(T10,.v (kR 0))]),.pk 12 T9 T11 (.b false),.mv 13 T12,.g 13 true (.fa 14 T5 0 0 0),.g 13 true (.ld 15 T14 kI),.g 13 true (.bi 16 .eql T15 (.i 4)),.pk 17 T13 T16 (.b false),.mv 18 T17,.g 18 true (.ld 19 T3 (kR 5)),.g 18 true (.cv (some 20) 67 [(T19,.v (kR 5)),(T4,.v (.ptr (kR 11))),(T5,.v (.ptr (kR 0))),((.nl (kR 8)),.v (kL (kR 8)))]),.pk 21 T18 T20 (.b false),.mv 6 T21]) .rt)
noncomputable abbrev T_Zm(nf:Nat):XT:=[e_Zp nf,e_Zk nf,e_ZN nf]
noncomputable def m_Zm(nf:Nat)(s:Schema)(q:Query)(t:Ty):Option (Bool):=runF (T_Zm nf) nf [.v (kR 5),.v (kR 11),.v (kR 0)] [.t 6 (.v .bool)] ir_Zm (s,q,t,())
theorem m_Zm_eq(nf:Nat)(s:Schema)(q:Query)(t:Ty):m_Zm nf s q t=(cb (m_Zp nf s) fun r8=>br (r8==true) (cb (m_Zk nf (Ty.h t)) fun r11=>br (r11==true) (br ((t.kind==(4:Int))==true) (cb (m_ZN nf nf s (Query.h q) (Ty.h t) ([]:List Typing)) fun r20=>some r20) (some false)) (some false)) (some false)):=by kernel_rfl
noncomputable def e_Zm(nf:Nat):XE:=eF 25 [.v (kR 5),.v (kR 11),.v (kR 0)] [.v .bool] (fun t=>m_Zm nf t.1 t.2.1 t.2.2.1)
theorem o_Zm(nf:Nat):conOK Tryz.prog 25 (e_Zm nf).con:=by
 have ih:XT.ok Tryz.prog (T_Zm nf):=by exact⟨o_Zp nf,o_Zk nf,o_ZN nf,trivial⟩
 refine eF_ok fun t x h=> ?_
 obtain⟨s,q,t,_⟩:=t
 exact runF_ok (N:=22) ih Tryz.func25 (by kernel_rfl) rfl h
end Go.Q
