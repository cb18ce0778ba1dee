/- The law of paths. -/
import Derived.Test.YteidofmblfglkaaC3
import Derived.Test.YteidofmblfglkaaProg
import Derived.KernelRfl
set_option linter.unusedVariables false
set_option linter.unusedSimpArgs false
namespace Go.Q
open Go.Proofs
set_option maxRecDepth 20000
set_option maxHeartbeats 4000000
def ir_Zx:C:=.sq (.rg [.mv 2 (.b false)]) (.sq (.rg [.mv 3 T0,.ln 4 false T3,.bi 5 .gtr T4 (.i 1048576),.mv 2 T5]) .rt)
noncomputable abbrev T_Zx(nf:Nat):XT:=[]
noncomputable def m_Zx(nf:Nat)(code:List Int):Option (Bool):=runF (T_Zx nf) nf [.v (kL (.int .u8))] [.t 2 (.v .bool)] ir_Zx (code,())
theorem m_Zx_eq(nf:Nat)(code:List Int):m_Zx nf code=(some (decide ((1048576:Int)<(List.length code:Int)))):=by kernel_rfl
noncomputable def e_Zx(nf:Nat):XE:=eF 6 [.v (kL (.int .u8))] [.v .bool] (fun t=>m_Zx nf t.1)
theorem o_Zx(nf:Nat):conOK Try.prog 6 (e_Zx nf).con:=by
 have ih:XT.ok Try.prog (T_Zx nf):=by exact trivial
 refine eF_ok fun t x h=> ?_
 obtain⟨code,_⟩:=t
 exact runF_ok (N:=6) ih Try.func6 (by kernel_rfl) rfl h
def c31_Zz:C:=.sq (.rg [.mv 4 (.b true)]) .rt
def c15_Zz:C:=.sq (.sq (.rg [.mv 11 T5,.mv 12 T0,.ln 13 false T12,.bi 14 .lss T11 T13]) (.cd T14 .skip (.ex 0))) (.sq (.bk 1 (.sq (.dr [] [.mv 17 T0,.mv 18 T5,.ia 19 T17 T18 kS,.ld 20 T19 kS,.mv 21 T1,.mv 22 T5,.ia 23 T21 T22 kS,.ld 24 T23 kS] [.bi 25 .neq T20 T24]) (.cd T25 (.sq (.rg [.mv 4 (.b false)]) .rt) .skip))) (.rg [.mv 15 T5,.bi 16 .add T15 (.i 1),.mv 5 T16]))
def ir_Zz:C:=.sq (.rg [.mv 4 (.b false)]) (.sq (.sq (.rg [.mv 6 T0,.ln 7 false T6,.mv 8 T1,.ln 9 false T8,.bi 10 .neq T7 T9]) (.cd T10 (.sq (.rg [.mv 4 (.b false)]) .rt) .skip)) (.sq (.sq (.rg [.mv 5 (.i 0)]) (.bk 0 (.lk [0,1,5] [] c15_Zz))) c31_Zz))
noncomputable abbrev T_Zz(nf:Nat):XT:=[]
noncomputable def m_Zz(nf:Nat)(a:List Str)(b:List Str):Option (Bool):=runF (T_Zz nf) nf [.v (kL kS),.v (kL kS)] [.t 4 (.v .bool)] ir_Zz (a,b,())
noncomputable def X_Zz{R:Type}(nf:Nat):C->Env->(Xt->Env->Option R)->Option R:=xc (R:=R) (T_Zz nf).S nf
noncomputable def l14_Zz(nf:Nat)(m14:Nat)(a:List Str)(b:List Str)(x5_14:Int):Option (Bool):=xit [0,1,5] [] (X_Zz nf c15_Zz) (qB 0 (qS (X_Zz nf c31_Zz) (KF [.t 4 (.v .bool)]))) m14 ⟨[(0,.v (kL kS) a),(1,.v (kL kS) b),(5,.v kI x5_14)],[]⟩
theorem l14_Zz_eq(nf:Nat)(m14:Nat)(a:List Str)(b:List Str)(x5_14:Int):l14_Zz nf (m14+1) a b x5_14=(br (decide (x5_14<(List.length a:Int))) (gg (0<=x5_14∧x5_14<(List.length a:Int))<|gg (0<=x5_14∧x5_14<(List.length b:Int))<|br (!((gt a x5_14 ([]:Str))==(gt b x5_14 ([]:Str)))) (some false) (mark (l14_Zz nf m14 a b (w64 (x5_14+(1:Int)))))) (some true)):=by kernel_rfl
theorem m_Zz_eq(nf:Nat)(a:List Str)(b:List Str):m_Zz nf a b=(br (!((List.length a:Int)==(List.length b:Int))) (some false) (mark (l14_Zz nf nf a b (0:Int)))):=by kernel_rfl
noncomputable def e_Zz(nf:Nat):XE:=eF 39 [.v (kL kS),.v (kL kS)] [.v .bool] (fun t=>m_Zz nf t.1 t.2.1)
theorem o_Zz(nf:Nat):conOK Try.prog 39 (e_Zz nf).con:=by
 have ih:XT.ok Try.prog (T_Zz nf):=by exact trivial
 refine eF_ok fun t x h=> ?_
 obtain⟨a,b,_⟩:=t
 exact runF_ok (N:=26) ih Try.func39 (by kernel_rfl) rfl h
def c31_Zy:C:=.sq (.rg [.mv 4 (.b true)]) .rt
def c15_Zy:C:=.sq (.sq (.rg [.mv 11 T5,.mv 12 T0,.ln 13 false T12,.bi 14 .lss T11 T13]) (.cd T14 .skip (.ex 0))) (.sq (.bk 1 (.sq (.dr [] [.mv 17 T0,.mv 18 T5,.ia 19 T17 T18 (kL kS),.ld 20 T19 (kL kS),.mv 21 T1,.mv 22 T5,.ia 23 T21 T22 (kL kS),.ld 24 T23 (kL kS)] [.cv (some 25) 39 [(T20,.v (kL kS)),(T24,.v (kL kS))],.un 26 .not T25]) (.cd T26 (.sq (.rg [.mv 4 (.b false)]) .rt) .skip))) (.rg [.mv 15 T5,.bi 16 .add T15 (.i 1),.mv 5 T16]))
def ir_Zy:C:=.sq (.rg [.mv 4 (.b false)]) (.sq (.sq (.rg [.mv 6 T0,.ln 7 false T6,.mv 8 T1,.ln 9 false T8,.bi 10 .neq T7 T9]) (.cd T10 (.sq (.rg [.mv 4 (.b false)]) .rt) .skip)) (.sq (.sq (.rg [.mv 5 (.i 0)]) (.bk 0 (.lk [0,1,5] [] c15_Zy))) c31_Zy))
noncomputable abbrev T_Zy(nf:Nat):XT:=[e_Zz nf]
noncomputable def m_Zy(nf:Nat)(a:List (List Str))(b:List (List Str)):Option (Bool):=runF (T_Zy nf) nf [.v (kL (kL kS)),.v (kL (kL kS))] [.t 4 (.v .bool)] ir_Zy (a,b,())
noncomputable def X_Zy{R:Type}(nf:Nat):C->Env->(Xt->Env->Option R)->Option R:=xc (R:=R) (T_Zy nf).S nf
noncomputable def l14_Zy(nf:Nat)(m14:Nat)(a:List (List Str))(b:List (List Str))(x5_14:Int):Option (Bool):=xit [0,1,5] [] (X_Zy nf c15_Zy) (qB 0 (qS (X_Zy nf c31_Zy) (KF [.t 4 (.v .bool)]))) m14 ⟨[(0,.v (kL (kL kS)) a),(1,.v (kL (kL kS)) b),(5,.v kI x5_14)],[]⟩
theorem l14_Zy_eq(nf:Nat)(m14:Nat)(a:List (List Str))(b:List (List Str))(x5_14:Int):l14_Zy nf (m14+1) a b x5_14=(br (decide (x5_14<(List.length a:Int))) (gg (0<=x5_14∧x5_14<(List.length a:Int))<|gg (0<=x5_14∧x5_14<(List.length b:Int))<|cb (m_Zz nf (gt a x5_14 ([]:List Str)) (gt b x5_14 ([]:List Str))) fun r25=>br (!r25) (some false) (mark (l14_Zy nf m14 a b (w64 (x5_14+(1:Int)))))) (some true)):=by kernel_rfl
theorem m_Zy_eq(nf:Nat)(a:List (List Str))(b:List (List Str)):m_Zy nf a b=(br (!((List.length a:Int)==(List.length b:Int))) (some false) (mark (l14_Zy nf nf a b (0:Int)))):=by kernel_rfl
noncomputable def e_Zy(nf:Nat):XE:=eF 10 [.v (kL (kL kS)),.v (kL (kL kS))] [.v .bool] (fun t=>m_Zy nf t.1 t.2.1)
theorem o_Zy(nf:Nat):conOK Try.prog 10 (e_Zy nf).con:=by
 have ih:XT.ok Try.prog (T_Zy nf):=by exact⟨o_Zz nf,trivial⟩
 refine eF_ok fun t x h=> ?_
 obtain⟨a,b,_⟩:=t
 exact runF_ok (N:=27) ih Try.func10 (by kernel_rfl) rfl h
def c70_Zw:C:=.sq (.rg [.mv 96 T0,.ca (some 97) 16 [(T96,.v (kL (.int .u8)))],.mv 95 T97,.xt 98 T95 0,.xt 99 T95 1,.al 12 (kR 0),.st T12 T98 (kR 0),.mv 13 T99]) (.sq (.rg [.ld 101 T12 (kR 0),.mv 102 T13,.ca (some 103) 15 [(T101,.v (kR 0)),(T102,.v (kL kS))],.mv 100 T103,.xt 104 T100 0,.xt 105 T100 1,.al 14 (kR 0),.st T14 T104 (kR 0),.mv 15 T105]) (.sq (.rg [.ld 107 T12 (kR 0),.mv 108 T13,.ca (some 109) 17 [(T107,.v (kR 0)),(T108,.v (kL kS))],.mv 106 T109,.xt 110 T106 0,.xt 111 T106 1,.al 16 (kR 0),.st T16 T110 (kR 0),.mv 17 T111]) (.sq (.rg [.mv 113 T0,.ca (some 114) 18 [(T113,.v (kL (.int .u8)))],.mv 112 T114,.xt 115 T112 0,.xt 116 T112 1,.mv 18 T115,.mv 19 T116]) (.sq (.rg [.mv 117 T15,.mv 118 T17,.be 119 false T117 T118,.mv 120 T119,.g 120 true (.ld 121 T14 (kR 0)),.g 120 true (.ld 122 T16 (kR 0)),.g 120 true (.cv (some 123) 19 [(T121,.v (kR 0)),(T122,.v (kR 0))]),.pk 124 T120 T123 (.b false),.mv 125 T124,.g 125 true (.mv 126 T13),.g 125 true (.cv (some 127) 20 [(T126,.v (kL kS))]),.g 125 true (.mv 128 T13),.g 125 true (.cv (some 129) 21 [(T128,.v (kL kS))]),.g 125 true (.bi 130 .eql T127 T129),.pk 131 T125 T130 (.b false),.mv 132 T131,.g 132 true (.mv 133 T18),.g 132 true (.mv 134 T19),.g 132 true (.cv (some 135) 22 [(T133,.v (kL kS)),(T134,.v (kL kS))]),.g 132 true (.mv 136 T18),.g 132 true (.mv 137 T19),.g 132 true (.cv (some 138) 23 [(T136,.v (kL kS)),(T137,.v (kL kS))]),.g 132 true (.be 139 false T135 T138),.pk 140 T132 T139 (.b false),.mv 2 T140]) .rt))))
def w70_Zw:C:=.kp [0] [] c70_Zw
def c69_Zw:C:=.rg [.mv 77 T9,.bi 78 .add T77 (.i 1),.mv 9 T78]
def c64_Zw:C:=.cd T94 (.sq (.rg [.mv 2 (.b false)]) .rt) .skip
def w64_Zw:C:=.kp [0,3,5,9,94] [[3]] c64_Zw
def c52_Zw:C:=.sq (.sq (.rg [.mv 73 T9,.mv 74 T5,.ln 75 false T74,.bi 76 .lss T73 T75]) (.cd T76 .skip (.ex 2))) (.sq (.bk 3 (.sq (.dw [85,10] [79] [.ld 80 T3 (kR 0),.mv 81 T5,.mv 82 T9,.ia 83 T81 T82 (kL kS),.ld 84 T83 (kL kS),.ca (some 85) 15 [(T80,.v (kR 0)),(T84,.v (kL kS))],.mv 79 T85,.xt 86 T79 0,.xt 87 T79 1,.al 10 (kR 0)] 10 T86 (kR 0) [.mv 11 T87]) (.sq (.rg [.mv 88 T11,.un 89 .not T88,.mv 90 T89,.g 90 false (.fa 91 T10 0 0 0),.g 90 false (.ld 92 T91 kI),.g 90 false (.bi 93 .eql T92 (.i 3)),.pk 94 T90 (.b true) T93]) w64_Zw))) c69_Zw)
def c47_Zw:C:=.sq (.sq (.rg [.mv 9 (.i 0)]) (.bk 2 (.lk [0,3,5,9] [[3]] c52_Zw))) w70_Zw
def w47_Zw:C:=.kp [0,3,5] [[3]] c47_Zw
def c46_Zw:C:=.rg [.mv 55 T6,.bi 56 .add T55 (.i 1),.mv 6 T56]
def c41_Zw:C:=.cd T72 (.sq (.rg [.mv 2 (.b false)]) .rt) .skip
def w41_Zw:C:=.kp [0,3,4,5,6,72] [[3]] c41_Zw
def c29_Zw:C:=.sq (.sq (.rg [.mv 51 T6,.mv 52 T4,.ln 53 false T52,.bi 54 .lss T51 T53]) (.cd T54 .skip (.ex 0))) (.sq (.bk 1 (.sq (.dw [63,7] [57] [.ld 58 T3 (kR 0),.mv 59 T4,.mv 60 T6,.ia 61 T59 T60 (kL kS),.ld 62 T61 (kL kS),.ca (some 63) 15 [(T58,.v (kR 0)),(T62,.v (kL kS))],.mv 57 T63,.xt 64 T57 0,.xt 65 T57 1,.al 7 (kR 0)] 7 T64 (kR 0) [.mv 8 T65]) (.sq (.rg [.mv 66 T8,.un 67 .not T66,.mv 68 T67,.g 68 false (.fa 69 T7 0 0 0),.g 68 false (.ld 70 T69 kI),.g 68 false (.bi 71 .neq T70 (.i 4)),.pk 72 T68 (.b true) T71]) w41_Zw))) c46_Zw)
def c24_Zw:C:=.sq (.sq (.rg [.mv 6 (.i 0)]) (.bk 0 (.lk [0,3,4,5,6] [[3]] c29_Zw))) w47_Zw
def c19_Zw:C:=.cd T50 (.sq (.rg [.mv 2 (.b false)]) .rt) .skip
def w19_Zw:C:=.kp [0,3,4,5,50] [[3]] c19_Zw
def ir_Zw:C:=.sq (.rg [.mv 2 (.b false)]) (.sq (.sq (.rg [.mv 20 T0,.cv (some 21) 6 [(T20,.v (kL (.int .u8)))]]) (.cd T21 (.sq (.rg [.mv 2 (.b true)]) .rt) .skip)) (.sq (.rg [.mv 22 T0,.cv (some 23) 7 [(T22,.v (kL (.int .u8)))],.al 3 (kR 0),.st T3 T23 (kR 0)]) (.sq (.rg [.ld 24 T3 (kR 0),.cv (some 25) 8 [(T24,.v (kR 0))],.mv 4 T25]) (.sq (.rg [.ld 26 T3 (kR 0),.cv (some 27) 9 [(T26,.v (kR 0))],.mv 5 T27]) (.sq (.sq (.rg [.mv 28 T4,.ld 29 T3 (kR 0),.cv (some 30) 11 [(T29,.v (kR 0))],.cv (some 31) 10 [(T28,.v (kL (kL kS))),(T30,.v (kL (kL kS)))],.un 32 .not T31,.mv 33 T32,.g 33 false (.mv 34 T5),.g 33 false (.ld 35 T3 (kR 0)),.g 33 false (.cv (some 36) 12 [(T35,.v (kR 0))]),.g 33 false (.cv (some 37) 10 [(T34,.v (kL (kL kS))),(T36,.v (kL (kL kS)))]),.g 33 false (.un 38 .not T37),.pk 39 T33 (.b true) T38,.mv 40 T39,.g 40 false (.ld 41 T3 (kR 0)),.g 40 false (.cv (some 42) 13 [(T41,.v (kR 0))]),.g 40 false (.mv 43 T42),.g 43 true (.mv 44 T4),.g 43 true (.ln 45 false T44),.g 43 true (.ld 46 T3 (kR 0)),.g 43 true (.cv (some 47) 14 [(T46,.v (kR 0))]),.g 43 true (.bi 48 .neq T45 T47),.g 40 false (.pk 49 T43 T48 (.b false)),.pk 50 T40 (.b true) T49]) w19_Zw) c24_Zw)))))
noncomputable abbrev T_Zw(nf:Nat):XT:=[e_Zx nf,e_ZK nf,e_Zd nf,e_Zj nf,e_ZH nf,e_Zy nf,e_ZT nf,e_ZP nf,e_ZI nf,e_Zm nf,e_ZM nf,e_ZV nf,e_ZL nf,e_Zf nf,e_Zk nf,e_ZU nf,e_Ze nf,e_ZN nf]
noncomputable def m_Zw(nf:Nat)(code:List Int):Option (Bool):=runF (T_Zw nf) nf [.v (kL (.int .u8))] [.t 2 (.v .bool)] ir_Zw (code,())
noncomputable def X_Zw{R:Type}(nf:Nat):C->Env->(Xt->Env->Option R)->Option R:=xc (R:=R) (T_Zw nf).S nf
noncomputable def j19_Zw(nf:Nat)(code:List Int)(r25:(List (List Str)))(r27:(List (List Str)))(r23:Ty)(x50_19:Bool):Option (Bool):=X_Zw nf c19_Zw ⟨[(0,.v (kL (.int .u8)) code),(3,.pt [3] 0),(4,.v (kL (kL kS)) r25),(5,.v (kL (kL kS)) r27),(50,.v .bool x50_19)],[([3],.box [.v kI r23.kind,.v (kL kS) r23.labels,.v (kL (kR 0)) r23.args])]⟩ (qS (X_Zw nf c24_Zw) (KF [.t 2 (.v .bool)]))
noncomputable def j41_Zw(nf:Nat)(m28:Nat)(code:List Int)(r25:(List (List Str)))(r27:(List (List Str)))(x6_28:Int)(r23:Ty)(x72_41:Bool):Option (Bool):=X_Zw nf c41_Zw ⟨[(0,.v (kL (.int .u8)) code),(3,.pt [3] 0),(4,.v (kL (kL kS)) r25),(5,.v (kL (kL kS)) r27),(6,.v kI x6_28),(72,.v .bool x72_41)],[([3],.box [.v kI r23.kind,.v (kL kS) r23.labels,.v (kL (kR 0)) r23.args])]⟩ (qB 1 (qS (X_Zw nf c46_Zw) (qM [0,3,4,5,6] [[3]] (X_Zw nf c29_Zw) m28 (qB 0 (qS (X_Zw nf w47_Zw) (KF [.t 2 (.v .bool)]))))))
noncomputable def l28_Zw(nf:Nat)(m28:Nat)(code:List Int)(r25:(List (List Str)))(r27:(List (List Str)))(r23:Ty)(x6_28:Int):Option (Bool):=xit [0,3,4,5,6] [[3]] (X_Zw nf c29_Zw) (qB 0 (qS (X_Zw nf w47_Zw) (KF [.t 2 (.v .bool)]))) m28 ⟨[(0,.v (kL (.int .u8)) code),(3,.pt [3] 0),(4,.v (kL (kL kS)) r25),(5,.v (kL (kL kS)) r27),(6,.v kI x6_28)],[([3],.box [.v kI r23.kind,.v (kL kS) r23.labels,.v (kL (kR 0)) r23.args])]⟩
noncomputable def j64_Zw(nf:Nat)(m51:Nat)(code:List Int)(r27:(List (List Str)))(x9_51:Int)(r23:Ty)(x94_64:Bool):Option (Bool):=X_Zw nf c64_Zw ⟨[(0,.v (kL (.int .u8)) code),(3,.pt [3] 0),(5,.v (kL (kL kS)) r27),(9,.v kI x9_51),(94,.v .bool x94_64)],[([3],.box [.v kI r23.kind,.v (kL kS) r23.labels,.v (kL (kR 0)) r23.args])]⟩ (qB 3 (qS (X_Zw nf c69_Zw) (qM [0,3,5,9] [[3]] (X_Zw nf c52_Zw) m51 (qB 2 (qS (X_Zw nf w70_Zw) (KF [.t 2 (.v .bool)]))))))
noncomputable def l51_Zw(nf:Nat)(m51:Nat)(code:List Int)(r27:(List (List Str)))(r23:Ty)(x9_51:Int):Option (Bool):=xit [0,3,5,9] [[3]] (X_Zw nf c52_Zw) (qB 2 (qS (X_Zw nf w70_Zw) (KF [.t 2 (.v .bool)]))) m51 ⟨[(0,.v (kL (.int .u8)) code),(3,.pt [3] 0),(5,.v (kL (kL kS)) r27),(9,.v kI x9_51)],[([3],.box [.v kI r23.kind,.v (kL kS) r23.labels,.v (kL (kR 0)) r23.args])]⟩
noncomputable def j70_Zw(nf:Nat)(code:List Int):Option (Bool):=X_Zw nf c70_Zw ⟨[(0,.v (kL (.int .u8)) code)],[]⟩ (KF [.t 2 (.v .bool)])
noncomputable def j47_Zw(nf:Nat)(code:List Int)(r27:(List (List Str)))(r23:Ty):Option (Bool):=X_Zw nf c47_Zw ⟨[(0,.v (kL (.int .u8)) code),(3,.pt [3] 0),(5,.v (kL (kL kS)) r27)],[([3],.box [.v kI r23.kind,.v (kL kS) r23.labels,.v (kL (kR 0)) r23.args])]⟩ (KF [.t 2 (.v .bool)])
theorem j19_Zw_eq(nf:Nat)(code:List Int)(r25:(List (List Str)))(r27:(List (List Str)))(r23:Ty)(x50_19:Bool):j19_Zw nf code r25 r27 r23 x50_19=(br x50_19 (some false) (mark (l28_Zw nf nf code r25 r27 r23 (0:Int)))):=by
 unfold j19_Zw l28_Zw c19_Zw c24_Zw w47_Zw
 generalize c47_Zw=x0
 revert x0
 refine id ?_
 intro x0
 kernel_rfl
theorem j41_Zw_eq(nf:Nat)(m28:Nat)(code:List Int)(r25:(List (List Str)))(r27:(List (List Str)))(x6_28:Int)(r23:Ty)(x72_41:Bool):j41_Zw nf m28 code r25 r27 x6_28 r23 x72_41=(br x72_41 (some false) (mark (l28_Zw nf m28 code r25 r27 r23 (w64 (x6_28+(1:Int)))))):=by
 unfold j41_Zw l28_Zw c41_Zw w47_Zw c46_Zw
 generalize c47_Zw=x0
 revert x0
 refine id ?_
 intro x0
 kernel_rfl
theorem l28_Zw_eq(nf:Nat)(m28:Nat)(code:List Int)(r25:(List (List Str)))(r27:(List (List Str)))(r23:Ty)(x6_28:Int):l28_Zw nf (m28+1) code r25 r27 r23 x6_28=(br (decide (x6_28<(List.length r25:Int))) (gg (0<=x6_28∧x6_28<(List.length r25:Int))<|cb (m_Zm nf (Ty.h r23) (gt r25 x6_28 ([]:List Str))) fun r63=>br ((!r63.2)==false) (mark (j41_Zw nf m28 code r25 r27 x6_28 r23 (!(r63.1.kind==(4:Int))))) (mark (j41_Zw nf m28 code r25 r27 x6_28 r23 true))) (mark (j47_Zw nf code r27 r23))):=by
 unfold l28_Zw j41_Zw j47_Zw c29_Zw w47_Zw w41_Zw c46_Zw
 generalize c47_Zw=x0
 generalize c41_Zw=x1
 revert x0 x1
 refine id ?_
 intro x0 x1
 kernel_rfl
theorem j64_Zw_eq(nf:Nat)(m51:Nat)(code:List Int)(r27:(List (List Str)))(x9_51:Int)(r23:Ty)(x94_64:Bool):j64_Zw nf m51 code r27 x9_51 r23 x94_64=(br x94_64 (some false) (mark (l51_Zw nf m51 code r27 r23 (w64 (x9_51+(1:Int)))))):=by
 unfold j64_Zw l51_Zw c64_Zw w70_Zw c69_Zw
 generalize c70_Zw=x0
 revert x0
 refine id ?_
 intro x0
 kernel_rfl
theorem l51_Zw_eq(nf:Nat)(m51:Nat)(code:List Int)(r27:(List (List Str)))(r23:Ty)(x9_51:Int):l51_Zw nf (m51+1) code r27 r23 x9_51=(br (decide (x9_51<(List.length r27:Int))) (gg (0<=x9_51∧x9_51<(List.length r27:Int))<|cb (m_Zm nf (Ty.h r23) (gt r27 x9_51 ([]:List Str))) fun r85=>br ((!r85.2)==false) (mark (j64_Zw nf m51 code r27 x9_51 r23 (r85.1.kind==(3:Int)))) (mark (j64_Zw nf m51 code r27 x9_51 r23 true))) (mark (j70_Zw nf code))):=by
 unfold l51_Zw j64_Zw j70_Zw c52_Zw w70_Zw w64_Zw c69_Zw
 generalize c70_Zw=x0
 generalize c64_Zw=x1
 revert x0 x1
 refine id ?_
 intro x0 x1
 kernel_rfl
theorem j70_Zw_eq(nf:Nat)(code:List Int):j70_Zw nf code=(cb (m_ZM nf code) fun r97=>cb (m_Zm nf (Ty.h r97.1) r97.2) fun r103=>cb (m_ZV nf (Ty.h r97.1) r97.2) fun r109=>cb (m_ZL nf code) fun r114=>br ((r103.2==r109.2)==true) (cb (m_Zf nf nf (Ty.h r103.1) (Ty.h r109.1)) fun r123=>br (r123==true) (cb (m_Zk nf r97.2) fun r127=>cb (m_ZU nf r97.2) fun r129=>br ((r127==r129)==true) (cb (m_Ze nf r114.1 r114.2) fun r135=>cb (m_ZN nf r114.1 r114.2) fun r138=>some (r135==r138)) (some false)) (some false)) (some false)):=by kernel_rfl
theorem j47_Zw_eq(nf:Nat)(code:List Int)(r27:(List (List Str)))(r23:Ty):j47_Zw nf code r27 r23=(mark (l51_Zw nf nf code r27 r23 (0:Int))):=by
 unfold j47_Zw l51_Zw c47_Zw w70_Zw
 generalize c70_Zw=x0
 revert x0
 refine id ?_
 intro x0
 kernel_rfl
theorem m_Zw_eq(nf:Nat)(code:List Int):m_Zw nf code=(cb (m_Zx nf code) fun r21=>br r21 (some true) (cb (m_ZK nf code) fun r23=>cb (m_Zd nf (Ty.h r23)) fun r25=>cb (m_Zj nf (Ty.h r23)) fun r27=>cb (m_ZH nf (Ty.h r23)) fun r30=>cb (m_Zy nf r25 r30) fun r31=>br ((!r31)==false) (cb (m_ZT nf (Ty.h r23)) fun r36=>cb (m_Zy nf r27 r36) fun r37=>br ((!r37)==false) (cb (m_ZP nf (Ty.h r23)) fun r42=>br (r42==true) (cb (m_ZI nf nf (Ty.h r23)) fun r47=>mark (j19_Zw nf code r25 r27 r23 (!((List.length r25:Int)==r47)))) (mark (j19_Zw nf code r25 r27 r23 false))) (mark (j19_Zw nf code r25 r27 r23 true))) (mark (j19_Zw nf code r25 r27 r23 true)))):=by
 unfold m_Zw j19_Zw ir_Zw w19_Zw c24_Zw w47_Zw
 generalize c19_Zw=x0
 generalize c47_Zw=x1
 revert x0 x1
 refine id ?_
 intro x0 x1
 kernel_rfl
noncomputable def e_Zw(nf:Nat):XE:=eF 3 [.v (kL (.int .u8))] [.v .bool] (fun t=>m_Zw nf t.1)
theorem o_Zw(nf:Nat):conOK Try.prog 3 (e_Zw nf).con:=by
 have ih:XT.ok Try.prog (T_Zw nf):=by exact⟨o_Zx nf,o_ZK nf,o_Zd nf,o_Zj nf,o_ZH nf,o_Zy nf,o_ZT nf,o_ZP nf,o_ZI nf,o_Zm nf,o_ZM nf,o_ZV nf,o_ZL nf,o_Zf nf,o_Zk nf,o_ZU nf,o_Ze nf,o_ZN nf,trivial⟩
 refine eF_ok fun t x h=> ?_
 obtain⟨code,_⟩:=t
 exact runF_ok (N:=141) ih Try.func3 (by kernel_rfl) rfl h
end Go.Q
