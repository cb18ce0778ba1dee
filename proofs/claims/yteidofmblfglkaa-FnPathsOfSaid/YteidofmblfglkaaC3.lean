/- Types and their paths: the program's side. -/
import Derived.Test.YteidofmblfglkaaC2
import Derived.Test.YteidofmblfglkaaJn
import Derived.Test.YteidofmblfglkaaProg
import Derived.KernelRfl
set_option linter.unusedVariables false
set_option linter.unusedSimpArgs false
namespace Go.Q
open Go.Proofs
set_option maxRecDepth 20000
set_option maxHeartbeats 4000000
def c10_ZB:C:=.sq (.rg [.bs 5 true kS [],.mv 6 T0,.an 7 true kS T5 T6,.mv 2 T7]) .rt
def c5_ZB:C:=.cd T4 (.sq (.rg [.mv 2 (.nl kS)]) .rt) .skip
def w5_ZB:C:=.kp [0,4] [] c5_ZB
def ir_ZB:C:=.sq (.rg [.mv 2 (.nl kS)]) (.sq (.sq (.rg [.mv 3 T0,.nq 4 false false T3]) w5_ZB) c10_ZB)
noncomputable abbrev T_ZB(nf:Nat):XT:=[]
noncomputable def m_ZB(nf:Nat)(a:List Str):Option (List Str):=runF (T_ZB nf) nf [.v (kL kS)] [.t 2 (.o (kL kS))] ir_ZB (a,())
noncomputable def X_ZB{R:Type}(nf:Nat):C->Env->(Xt->Env->Option R)->Option R:=xc (R:=R) (T_ZB nf).S nf
noncomputable def j5_ZB(nf:Nat)(a:List Str)(x4_5:Bool):Option (List Str):=X_ZB nf c5_ZB ⟨[(0,.v (kL kS) a),(4,.v .bool x4_5)],[]⟩ (qS (X_ZB nf c10_ZB) (KF [.t 2 (.o (kL kS))]))
theorem j5_ZB_eq(nf:Nat)(a:List Str)(x4_5:Bool):j5_ZB nf a x4_5=(br x4_5 (some ([]:List Str)) (gg (List.length a<=33554432)<|some a)):=by kernel_rfl
theorem m_ZB_eq(nf:Nat)(a:List Str):m_ZB nf a=(br (List.isEmpty a) (both (mark (j5_ZB nf a false)) (mark (j5_ZB nf a true))) (mark (j5_ZB nf a false))):=by
 unfold m_ZB j5_ZB ir_ZB w5_ZB c10_ZB
 generalize c5_ZB=x0
 revert x0
 refine id ?_
 intro x0
 kernel_rfl
noncomputable def e_ZB(nf:Nat):XE:=eF 79 [.v (kL kS)] [.o (kL kS)] (fun t=>m_ZB nf t.1)
theorem o_ZB(nf:Nat):conOK Try.prog 79 (e_ZB nf).con:=by
 have ih:XT.ok Try.prog (T_ZB nf):=by exact trivial
 refine eF_ok fun t x h=> ?_
 obtain⟨a,_⟩:=t
 exact runF_ok (N:=8) ih Try.func79 (by kernel_rfl) rfl h
def c21_Zo:C:=.sq (.rg [.ld 27 T3 (kR 0),.st T2 T27 (kR 0)]) .rt
def c9_Zo:C:=.sq (.rg [.bi 16 .lss T15 T14]) (.sq (.cd T16 .skip (.ex 0)) (.sq (.bk 1 (.sq (.rg [.ia 17 T13 T15 (kR 0),.ld 18 T17 (kR 0),.al 5 (kR 0),.st T5 T18 (kR 0)]) (.gb 3 2 true (kR 0) (.dr [22,23] [.fa 19 T3 0 2 2,.ld 20 T19 (kL (kR 0)),.ld 21 T5 (kR 0),.ca (some 22) 46 [(T21,.v (kR 0))],.bl 23 (kR 0) [T22]] [.apl 24 [3,2] (kR 0) T20 23,.fa 25 T3 0 2 2,.st T25 T24 (kL (kR 0))])))) (.rg [.bi 26 .add T15 (.i 1),.mv 15 T26])))
def ir_Zo:C:=.sq (.rg [.bx 1 T0 (kR 0),.al 2 (kR 0)]) (.sq (.dr [10,3] [.fa 6 T1 0 0 0,.ld 7 T6 kI,.fa 8 T1 0 1 1,.ld 9 T8 (kL kS),.ca (some 10) 79 [(T9,.v (kL kS))],.bd 11 0 [(0,1,T7),(1,1,T10)],.al 3 (kR 0)] [.st T3 T11 (kR 0)]) (.sq (.sq (.rg [.fa 12 T1 0 2 2,.ld 13 T12 (kL (kR 0)),.ln 14 false T13,.mv 15 (.i 0)]) (.bk 0 (.gb 3 2 true (kR 0) (.lk [2,3,13,14,15] [[2],[3],[3,2],[10]] c9_Zo)))) c21_Zo))
noncomputable def B_Zo(nf:Nat):XT:=[e_ZB nf]
noncomputable def G_Zo(nf:Nat):Nat->XT
 |0=>[]
 |kf+1=>[eF 46 [.v (kR 0)] [.o (kR 0)] (fun t=>(fun(t:Ty)=>runF (G_Zo nf kf++B_Zo nf) nf [.v (kR 0)] [.c 2 (.o (kR 0))] ir_Zo (t,())) t.1)]
noncomputable abbrev T_Zo(nf kf:Nat):XT:=G_Zo nf kf++B_Zo nf
noncomputable def m_Zo(nf kf:Nat)(t:Ty):Option (Ty):=runF (T_Zo nf kf) nf [.v (kR 0)] [.c 2 (.o (kR 0))] ir_Zo (t,())
noncomputable def X_Zo{R:Type}(nf kf:Nat):C->Env->(Xt->Env->Option R)->Option R:=xc (R:=R) (T_Zo nf kf).S nf
noncomputable def l8_Zo(nf kf:Nat)(m8:Nat)(t:Ty)(r10:(List Str))(x15_8:Int)(y3_2_8:List Ty):Option (Ty):=xit [2,3,13,14,15] [[2],[3],[3,2],[10]] (X_Zo nf kf c9_Zo) (qB 0 (qS (X_Zo nf kf c21_Zo) (KF [.c 2 (.o (kR 0))]))) m8 ⟨[(2,.pt [2] 0),(3,.pt [3] 0),(13,.v (kL (kR 0)) t.args),(14,.v kI (List.length t.args:Int)),(15,.v kI x15_8)],[([2],.box [.v kI (0:Int),.nl kS,.nl (kR 0)]),([3],.box [.v kI t.kind,.sl [10],.sl [3,2]]),([3,2],.row true false (kR 0) y3_2_8),([10],.row true false kS r10)]⟩
theorem l8_Zo_eq(nf kf:Nat)(m8:Nat)(t:Ty)(r10:(List Str))(x15_8:Int)(y3_2_8:List Ty):l8_Zo nf (kf+1) (m8+1) t r10 x15_8 y3_2_8=(br (decide (x15_8<(List.length t.args:Int))) (gg (0<=x15_8∧x15_8<(List.length t.args:Int))<|cb (m_Zo nf kf (Ty.h (gt t.args x15_8 Ty.zero))) fun r22=>gg (List.length y3_2_8+List.length ([(Ty.h r22)]:List Ty)<=33554432)<|mark (l8_Zo nf (kf+1) m8 t r10 (w64 (x15_8+(1:Int))) (y3_2_8++([(Ty.h r22)]:List Ty)))) (some (Ty.mk t.kind r10 y3_2_8))):=by kernel_rfl
theorem m_Zo_eq(nf kf:Nat)(t:Ty):m_Zo nf (kf+1) t=(cb (m_ZB nf t.labels) fun r10=>mark (l8_Zo nf (kf+1) nf t r10 (0:Int) ([]:List Ty))):=by kernel_rfl
noncomputable def e_Zo(nf:Nat):XE:=eF 46 [.v (kR 0)] [.o (kR 0)] (fun t=>m_Zo nf nf t.1)
theorem gok_Zo(nf:Nat):∀kf:Nat,XT.ok Try.prog (G_Zo nf kf++B_Zo nf)
 |0=>by exact⟨o_ZB nf,trivial⟩
 |kf+1=>by
  have ih:=gok_Zo nf kf
  refine⟨?_,(by exact⟨o_ZB nf,trivial⟩)⟩
  ·refine eF_ok fun t x h=> ?_
   obtain⟨t,_⟩:=t
   exact runF_ok (N:=28) ih Try.func46 (by kernel_rfl) rfl h
theorem o_Zo(nf:Nat):conOK Try.prog 46 (e_Zo nf).con:=by
 have ih:=gok_Zo nf nf
 refine eF_ok fun t x h=> ?_
 obtain⟨t,_⟩:=t
 exact runF_ok (N:=28) ih Try.func46 (by kernel_rfl) rfl h
def ir_Zq:C:=.sq (.rg [.mv 2 (.b false)]) (.sq (.rg [.mv 3 T0,.bi 4 .geq T3 (.k .u8 97),.mv 5 T4,.g 5 true (.mv 6 T0),.g 5 true (.bi 7 .leq T6 (.k .u8 122)),.pk 8 T5 T7 (.b false),.mv 2 T8]) .rt)
noncomputable abbrev T_Zq(nf:Nat):XT:=[]
noncomputable def m_Zq(nf:Nat)(c:Int):Option (Bool):=runF (T_Zq nf) nf [.v (.int .u8)] [.t 2 (.v .bool)] ir_Zq (c,())
theorem m_Zq_eq(nf:Nat)(c:Int):m_Zq nf c=(br ((decide ((97:Int)<=c))==true) (some (decide (c<=(122:Int)))) (some false)):=by kernel_rfl
noncomputable def e_Zq(nf:Nat):XE:=eF 109 [.v (.int .u8)] [.v .bool] (fun t=>m_Zq nf t.1)
theorem o_Zq(nf:Nat):conOK Try.prog 109 (e_Zq nf).con:=by
 have ih:XT.ok Try.prog (T_Zq nf):=by exact trivial
 refine eF_ok fun t x h=> ?_
 obtain⟨c,_⟩:=t
 exact runF_ok (N:=9) ih Try.func109 (by kernel_rfl) rfl h
def ir_Zp:C:=.sq (.rg [.mv 2 (.b false)]) (.sq (.rg [.mv 3 T0,.bi 4 .geq T3 (.k .u8 48),.mv 5 T4,.g 5 true (.mv 6 T0),.g 5 true (.bi 7 .leq T6 (.k .u8 57)),.pk 8 T5 T7 (.b false),.mv 2 T8]) .rt)
noncomputable abbrev T_Zp(nf:Nat):XT:=[]
noncomputable def m_Zp(nf:Nat)(c:Int):Option (Bool):=runF (T_Zp nf) nf [.v (.int .u8)] [.t 2 (.v .bool)] ir_Zp (c,())
theorem m_Zp_eq(nf:Nat)(c:Int):m_Zp nf c=(br ((decide ((48:Int)<=c))==true) (some (decide (c<=(57:Int)))) (some false)):=by kernel_rfl
noncomputable def e_Zp(nf:Nat):XE:=eF 110 [.v (.int .u8)] [.v .bool] (fun t=>m_Zp nf t.1)
theorem o_Zp(nf:Nat):conOK Try.prog 110 (e_Zp nf).con:=by
 have ih:XT.ok Try.prog (T_Zp nf):=by exact trivial
 refine eF_ok fun t x h=> ?_
 obtain⟨c,_⟩:=t
 exact runF_ok (N:=9) ih Try.func110 (by kernel_rfl) rfl h
def c33_Zh:C:=.sq (.rg [.mv 2 (.b true)]) .rt
def c32_Zh:C:=.rg [.bi 43 .add T28 (.i 1),.mv 28 T43]
def c27_Zh:C:=.cd T42 (.sq (.rg [.mv 2 (.b false)]) .rt) .skip
def w27_Zh:C:=.kp [0,27,28,42] [] c27_Zh
def c15_Zh:C:=.sq (.rg [.bi 29 .lss T28 T27]) (.sq (.cd T29 .skip (.ex 0)) (.sq (.bk 1 (.sq (.rg [.mv 30 T28,.mv 3 T30]) (.sq (.rg [.mv 31 T0,.mv 32 T3,.ix 33 T31 T32,.cv (some 34) 109 [(T33,.v (.int .u8))],.un 35 .not T34,.mv 36 T35,.g 36 true (.mv 37 T0),.g 36 true (.mv 38 T3),.g 36 true (.ix 39 T37 T38),.g 36 true (.cv (some 40) 110 [(T39,.v (.int .u8))]),.g 36 true (.un 41 .not T40),.pk 42 T36 T41 (.b false)]) w27_Zh))) c32_Zh))
def c10_Zh:C:=.sq (.sq (.rg [.mv 26 T0,.ln 27 true T26,.mv 28 (.i 0)]) (.bk 0 (.lk [0,27,28] [] c15_Zh))) c33_Zh
def c5_Zh:C:=.cd T25 (.sq (.rg [.mv 2 (.b false)]) .rt) .skip
def w5_Zh:C:=.kp [0,25] [] c5_Zh
def ir_Zh:C:=.sq (.rg [.mv 2 (.b false)]) (.sq (.sq (.rg [.mv 4 T0,.ln 5 true T4,.bi 6 .lss T5 (.i 1),.mv 7 T6,.g 7 false (.mv 8 T0),.g 7 false (.ln 9 true T8),.g 7 false (.bi 10 .gtr T9 (.i 4)),.pk 11 T7 (.b true) T10,.mv 12 T11,.g 12 false (.mv 13 T0),.g 12 false (.ix 14 T13 (.i 0)),.g 12 false (.cv (some 15) 109 [(T14,.v (.int .u8))]),.g 12 false (.un 16 .not T15),.pk 17 T12 (.b true) T16,.mv 18 T17,.g 18 false (.mv 19 T0),.g 18 false (.bi 20 .eql T19 (.s [105,102])),.pk 21 T18 (.b true) T20,.mv 22 T21,.g 22 false (.mv 23 T0),.g 22 false (.bi 24 .eql T23 (.s [102,111,114])),.pk 25 T22 (.b true) T24]) w5_Zh) c10_Zh)
noncomputable abbrev T_Zh(nf:Nat):XT:=[e_Zq nf,e_Zp nf]
noncomputable def m_Zh(nf:Nat)(s:Str):Option (Bool):=runF (T_Zh nf) nf [.v kS] [.t 2 (.v .bool)] ir_Zh (s,())
noncomputable def X_Zh{R:Type}(nf:Nat):C->Env->(Xt->Env->Option R)->Option R:=xc (R:=R) (T_Zh nf).S nf
noncomputable def j5_Zh(nf:Nat)(s:Str)(x25_5:Bool):Option (Bool):=X_Zh nf c5_Zh ⟨[(0,.v kS s),(25,.v .bool x25_5)],[]⟩ (qS (X_Zh nf c10_Zh) (KF [.t 2 (.v .bool)]))
noncomputable def j27_Zh(nf:Nat)(m14:Nat)(s:Str)(x28_14:Int)(x42_27:Bool):Option (Bool):=X_Zh nf c27_Zh ⟨[(0,.v kS s),(27,.v kI (List.length s:Int)),(28,.v kI x28_14),(42,.v .bool x42_27)],[]⟩ (qB 1 (qS (X_Zh nf c32_Zh) (qM [0,27,28] [] (X_Zh nf c15_Zh) m14 (qB 0 (qS (X_Zh nf c33_Zh) (KF [.t 2 (.v .bool)]))))))
noncomputable def l14_Zh(nf:Nat)(m14:Nat)(s:Str)(x28_14:Int):Option (Bool):=xit [0,27,28] [] (X_Zh nf c15_Zh) (qB 0 (qS (X_Zh nf c33_Zh) (KF [.t 2 (.v .bool)]))) m14 ⟨[(0,.v kS s),(27,.v kI (List.length s:Int)),(28,.v kI x28_14)],[]⟩
theorem j5_Zh_eq(nf:Nat)(s:Str)(x25_5:Bool):j5_Zh nf s x25_5=(br x25_5 (some false) (mark (l14_Zh nf nf s (0:Int)))):=by kernel_rfl
theorem j27_Zh_eq(nf:Nat)(m14:Nat)(s:Str)(x28_14:Int)(x42_27:Bool):j27_Zh nf m14 s x28_14 x42_27=(br x42_27 (some false) (mark (l14_Zh nf m14 s (w64 (x28_14+(1:Int)))))):=by kernel_rfl
theorem l14_Zh_eq(nf:Nat)(m14:Nat)(s:Str)(x28_14:Int):l14_Zh nf (m14+1) s x28_14=(br (decide (x28_14<(List.length s:Int))) (gg (0<=x28_14∧x28_14<(List.length s:Int))<|cb (m_Zq nf ((List.getD s (Int.toNat x28_14) 0).toNat:Int)) fun r34=>br ((!r34)==true) (gg (0<=x28_14∧x28_14<(List.length s:Int))<|cb (m_Zp nf ((List.getD s (Int.toNat x28_14) 0).toNat:Int)) fun r40=>mark (j27_Zh nf m14 s x28_14 (!r40))) (mark (j27_Zh nf m14 s x28_14 false))) (some true)):=by
 unfold l14_Zh j27_Zh c15_Zh c33_Zh w27_Zh c32_Zh
 generalize c27_Zh=x0
 revert x0
 refine id ?_
 intro x0
 kernel_rfl
theorem m_Zh_eq(nf:Nat)(s:Str):m_Zh nf s=(br ((decide ((List.length s:Int)<(1:Int)))==false) (br ((decide ((4:Int)<(List.length s:Int)))==false) (gg (0<=(0:Int)∧(0:Int)<(List.length s:Int))<|cb (m_Zq nf ((List.getD s (Int.toNat (0:Int)) 0).toNat:Int)) fun r15=>br ((!r15)==false) (br ((s==([105,102]:Str))==false) (mark (j5_Zh nf s (s==([102,111,114]:Str)))) (mark (j5_Zh nf s true))) (mark (j5_Zh nf s true))) (mark (j5_Zh nf s true))) (mark (j5_Zh nf s true))):=by
 unfold m_Zh j5_Zh ir_Zh w5_Zh c10_Zh c33_Zh
 generalize c5_Zh=x0
 revert x0
 refine id ?_
 intro x0
 kernel_rfl
noncomputable def e_Zh(nf:Nat):XE:=eF 111 [.v kS] [.v .bool] (fun t=>m_Zh nf t.1)
theorem o_Zh(nf:Nat):conOK Try.prog 111 (e_Zh nf).con:=by
 have ih:XT.ok Try.prog (T_Zh nf):=by exact⟨o_Zq nf,o_Zp nf,trivial⟩
 refine eF_ok fun t x h=> ?_
 obtain⟨s,_⟩:=t
 exact runF_ok (N:=44) ih Try.func111 (by kernel_rfl) rfl h
def c23_Zc:C:=.sq (.rg [.mv 2 (.b true)]) .rt
def c7_Zc:C:=.sq (.sq (.rg [.mv 4 T3,.mv 5 T0,.ln 6 false T5,.bi 7 .lss T4 T6]) (.cd T7 .skip (.ex 0))) (.sq (.bk 1 (.sq (.dr [] [.mv 10 T0,.mv 11 T3,.bi 12 .sub T11 (.i 1),.ia 13 T10 T12 kS,.ld 14 T13 kS,.mv 15 T0,.mv 16 T3,.ia 17 T15 T16 kS,.ld 18 T17 kS] [.bi 19 .geq T14 T18]) (.cd T19 (.sq (.rg [.mv 2 (.b false)]) .rt) .skip))) (.rg [.mv 8 T3,.bi 9 .add T8 (.i 1),.mv 3 T9]))
def ir_Zc:C:=.sq (.rg [.mv 2 (.b false)]) (.sq (.sq (.rg [.mv 3 (.i 1)]) (.bk 0 (.lk [0,3] [] c7_Zc))) c23_Zc)
noncomputable abbrev T_Zc(nf:Nat):XT:=[]
noncomputable def m_Zc(nf:Nat)(list:List Str):Option (Bool):=runF (T_Zc nf) nf [.v (kL kS)] [.t 2 (.v .bool)] ir_Zc (list,())
noncomputable def X_Zc{R:Type}(nf:Nat):C->Env->(Xt->Env->Option R)->Option R:=xc (R:=R) (T_Zc nf).S nf
noncomputable def l6_Zc(nf:Nat)(m6:Nat)(list:List Str)(x3_6:Int):Option (Bool):=xit [0,3] [] (X_Zc nf c7_Zc) (qB 0 (qS (X_Zc nf c23_Zc) (KF [.t 2 (.v .bool)]))) m6 ⟨[(0,.v (kL kS) list),(3,.v kI x3_6)],[]⟩
theorem l6_Zc_eq(nf:Nat)(m6:Nat)(list:List Str)(x3_6:Int):l6_Zc nf (m6+1) list x3_6=(br (decide (x3_6<(List.length list:Int))) (gg (0<=(w64 (x3_6-(1:Int)))∧(w64 (x3_6-(1:Int)))<(List.length list:Int))<|gg (0<=x3_6∧x3_6<(List.length list:Int))<|br (!(Op.bytesLess (gt list (w64 (x3_6-(1:Int))) ([]:Str)) (gt list x3_6 ([]:Str)))) (some false) (mark (l6_Zc nf m6 list (w64 (x3_6+(1:Int)))))) (some true)):=by kernel_rfl
theorem m_Zc_eq(nf:Nat)(list:List Str):m_Zc nf list=(mark (l6_Zc nf nf list (1:Int))):=by kernel_rfl
noncomputable def e_Zc(nf:Nat):XE:=eF 116 [.v (kL kS)] [.v .bool] (fun t=>m_Zc nf t.1)
theorem o_Zc(nf:Nat):conOK Try.prog 116 (e_Zc nf).con:=by
 have ih:XT.ok Try.prog (T_Zc nf):=by exact trivial
 refine eF_ok fun t x h=> ?_
 obtain⟨list,_⟩:=t
 exact runF_ok (N:=20) ih Try.func116 (by kernel_rfl) rfl h
def ir_Zs:C:=.sq (.rg [.mv 2 (.b false)]) (.sq (.rg [.mv 3 T0,.cv (some 4) 111 [(T3,.v kS)],.un 5 .not T4,.mv 2 T5]) .rt)
noncomputable abbrev T_Zs(nf:Nat):XT:=[e_Zh nf]
noncomputable def m_Zs(nf:Nat)(s:Str):Option (Bool):=runF (T_Zs nf) nf [.v kS] [.t 2 (.v .bool)] ir_Zs (s,())
theorem m_Zs_eq(nf:Nat)(s:Str):m_Zs nf s=(cb (m_Zh nf s) fun r4=>some (!r4)):=by kernel_rfl
noncomputable def e_Zs(nf:Nat):XE:=eF 118 [.v kS] [.v .bool] (fun t=>m_Zs nf t.1)
theorem o_Zs(nf:Nat):conOK Try.prog 118 (e_Zs nf).con:=by
 have ih:XT.ok Try.prog (T_Zs nf):=by exact⟨o_Zh nf,trivial⟩
 refine eF_ok fun t x h=> ?_
 obtain⟨s,_⟩:=t
 exact runF_ok (N:=6) ih Try.func118 (by kernel_rfl) rfl h
def c25_Zb:C:=.sq (.rg [.mv 4 (.i (-1))]) .rt
def c7_Zb:C:=.sq (.rg [.bi 9 .lss T8 T7]) (.sq (.cd T9 .skip (.ex 0)) (.sq (.bk 1 (.sq (.rg [.mv 10 T8,.mv 5 T10]) (.sq (.rg [.mv 11 T1,.mv 12 T0,.mv 13 T5,.ia 14 T12 T13 kS,.ld 15 T14 kS,.cf (some 16) T11 [(T15,.v kS)]]) (.cd T16 (.sq (.rg [.mv 17 T5,.mv 4 T17]) .rt) .skip)))) (.rg [.bi 18 .add T8 (.i 1),.mv 8 T18])))
def ir_Zb:C:=.sq (.rg [.mv 4 (.i 0)]) (.sq (.sq (.rg [.mv 6 T0,.ln 7 false T6,.mv 8 (.i 0)]) (.bk 0 (.lk [0,1,7,8] [] c7_Zb))) c25_Zb)
noncomputable abbrev T_Zb(nf:Nat):XT:=[e_Zs nf]
noncomputable def m_Zb(nf:Nat)(s:List Str):Option (Int):=runF (T_Zb nf) nf [.v (kL kS),.fn 118 []] [.t 4 (.v kI)] ir_Zb (s,(()),())
noncomputable def X_Zb{R:Type}(nf:Nat):C->Env->(Xt->Env->Option R)->Option R:=xc (R:=R) (T_Zb nf).S nf
noncomputable def l6_Zb(nf:Nat)(m6:Nat)(s:List Str)(x8_6:Int):Option (Int):=xit [0,1,7,8] [] (X_Zb nf c7_Zb) (qB 0 (qS (X_Zb nf c25_Zb) (KF [.t 4 (.v kI)]))) m6 ⟨[(0,.v (kL kS) s),(1,.fn 118 []),(7,.v kI (List.length s:Int)),(8,.v kI x8_6)],[]⟩
theorem l6_Zb_eq(nf:Nat)(m6:Nat)(s:List Str)(x8_6:Int):l6_Zb nf (m6+1) s x8_6=(br (decide (x8_6<(List.length s:Int))) (gg (0<=x8_6∧x8_6<(List.length s:Int))<|cb (m_Zs nf (gt s x8_6 ([]:Str))) fun r16=>br r16 (some x8_6) (mark (l6_Zb nf m6 s (w64 (x8_6+(1:Int)))))) (some (-1:Int))):=by kernel_rfl
theorem m_Zb_eq(nf:Nat)(s:List Str):m_Zb nf s=(mark (l6_Zb nf nf s (0:Int))):=by kernel_rfl
noncomputable def e_Zb(nf:Nat):XE:=eF 122 [.v (kL kS),.fn 118 []] [.v kI] (fun t=>m_Zb nf t.1)
theorem o_Zb(nf:Nat):conOK Try.prog 122 (e_Zb nf).con:=by
 have ih:XT.ok Try.prog (T_Zb nf):=by exact⟨o_Zs nf,trivial⟩
 refine eF_ok fun t x h=> ?_
 obtain⟨s,_,_⟩:=t
 exact runF_ok (N:=19) ih Try.func122 (by kernel_rfl) rfl h
def ir_Za:C:=.sq (.rg [.mv 4 (.b false)]) (.sq (.rg [.mv 5 T0,.mv 6 T1,.cv (some 7) 122 [(T5,.v (kL kS)),(T6,.fn)],.bi 8 .geq T7 (.i 0),.mv 4 T8]) .rt)
noncomputable abbrev T_Za(nf:Nat):XT:=[e_Zb nf]
noncomputable def m_Za(nf:Nat)(s:List Str):Option (Bool):=runF (T_Za nf) nf [.v (kL kS),.fn 118 []] [.t 4 (.v .bool)] ir_Za (s,(()),())
theorem m_Za_eq(nf:Nat)(s:List Str):m_Za nf s=(cb (m_Zb nf s) fun r7=>some (decide ((0:Int)<=r7))):=by kernel_rfl
noncomputable def e_Za(nf:Nat):XE:=eF 117 [.v (kL kS),.fn 118 []] [.v .bool] (fun t=>m_Za nf t.1)
theorem o_Za(nf:Nat):conOK Try.prog 117 (e_Za nf).con:=by
 have ih:XT.ok Try.prog (T_Za nf):=by exact⟨o_Zb nf,trivial⟩
 refine eF_ok fun t x h=> ?_
 obtain⟨s,_,_⟩:=t
 exact runF_ok (N:=9) ih Try.func117 (by kernel_rfl) rfl h
def c10_Zr:C:=.sq (.rg [.mv 16 T0,.cv (some 17) 117 [(T16,.v (kL kS)),((.f 118),.fn)],.un 18 .not T17,.mv 2 T18]) .rt
def c5_Zr:C:=.cd T15 (.sq (.rg [.mv 2 (.b false)]) .rt) .skip
def w5_Zr:C:=.kp [0,15] [] c5_Zr
def ir_Zr:C:=.sq (.rg [.mv 2 (.b false)]) (.sq (.sq (.rg [.mv 3 T0,.ln 4 false T3,.bi 5 .lss T4 (.i 1),.mv 6 T5,.g 6 false (.mv 7 T0),.g 6 false (.ln 8 false T7),.g 6 false (.bi 9 .gtr T8 (.i 4)),.pk 10 T6 (.b true) T9,.mv 11 T10,.g 11 false (.mv 12 T0),.g 11 false (.cv (some 13) 116 [(T12,.v (kL kS))]),.g 11 false (.un 14 .not T13),.pk 15 T11 (.b true) T14]) w5_Zr) c10_Zr)
noncomputable abbrev T_Zr(nf:Nat):XT:=[e_Zc nf,e_Za nf]
noncomputable def m_Zr(nf:Nat)(labels:List Str):Option (Bool):=runF (T_Zr nf) nf [.v (kL kS)] [.t 2 (.v .bool)] ir_Zr (labels,())
noncomputable def X_Zr{R:Type}(nf:Nat):C->Env->(Xt->Env->Option R)->Option R:=xc (R:=R) (T_Zr nf).S nf
noncomputable def j5_Zr(nf:Nat)(labels:List Str)(x15_5:Bool):Option (Bool):=X_Zr nf c5_Zr ⟨[(0,.v (kL kS) labels),(15,.v .bool x15_5)],[]⟩ (qS (X_Zr nf c10_Zr) (KF [.t 2 (.v .bool)]))
theorem j5_Zr_eq(nf:Nat)(labels:List Str)(x15_5:Bool):j5_Zr nf labels x15_5=(br x15_5 (some false) (cb (m_Za nf labels) fun r17=>some (!r17))):=by kernel_rfl
theorem m_Zr_eq(nf:Nat)(labels:List Str):m_Zr nf labels=(br ((decide ((List.length labels:Int)<(1:Int)))==false) (br ((decide ((4:Int)<(List.length labels:Int)))==false) (cb (m_Zc nf labels) fun r13=>mark (j5_Zr nf labels (!r13))) (mark (j5_Zr nf labels true))) (mark (j5_Zr nf labels true))):=by
 unfold m_Zr j5_Zr ir_Zr w5_Zr c10_Zr
 generalize c5_Zr=x0
 revert x0
 refine id ?_
 intro x0
 kernel_rfl
noncomputable def e_Zr(nf:Nat):XE:=eF 103 [.v (kL kS)] [.v .bool] (fun t=>m_Zr nf t.1)
theorem o_Zr(nf:Nat):conOK Try.prog 103 (e_Zr nf).con:=by
 have ih:XT.ok Try.prog (T_Zr nf):=by exact⟨o_Zc nf,o_Za nf,trivial⟩
 refine eF_ok fun t x h=> ?_
 obtain⟨labels,_⟩:=t
 exact runF_ok (N:=19) ih Try.func103 (by kernel_rfl) rfl h
def c21_Zl:C:=.sq (.rg [.mv 18 T3,.mv 2 T18]) .rt
def c9_Zl:C:=.sq (.rg [.bi 10 .lss T9 T8]) (.sq (.cd T10 .skip (.ex 0)) (.sq (.bk 1 (.sq (.rg [.ia 11 T7 T9 (kR 0),.ld 12 T11 (kR 0),.al 5 (kR 0),.st T5 T12 (kR 0)]) (.rg [.mv 13 T3,.ld 14 T5 (kR 0),.cv (some 15) 78 [(T14,.v (kR 0))],.bi 16 .add T13 T15,.mv 3 T16]))) (.rg [.bi 17 .add T9 (.i 1),.mv 9 T17])))
def ir_Zl:C:=.sq (.rg [.bx 1 T0 (kR 0),.mv 2 (.i 0)]) (.sq (.rg [.mv 3 (.i 1)]) (.sq (.sq (.rg [.fa 6 T1 0 2 2,.ld 7 T6 (kL (kR 0)),.ln 8 false T7,.mv 9 (.i 0)]) (.bk 0 (.lk [3,7,8,9] [] c9_Zl))) c21_Zl))
noncomputable def B_Zl(nf:Nat):XT:=[]
noncomputable def G_Zl(nf:Nat):Nat->XT
 |0=>[]
 |kf+1=>[eF 78 [.v (kR 0)] [.v kI] (fun t=>(fun(t:Ty)=>runF (G_Zl nf kf++B_Zl nf) nf [.v (kR 0)] [.t 2 (.v kI)] ir_Zl (t,())) t.1)]
noncomputable abbrev T_Zl(nf kf:Nat):XT:=G_Zl nf kf++B_Zl nf
noncomputable def m_Zl(nf kf:Nat)(t:Ty):Option (Int):=runF (T_Zl nf kf) nf [.v (kR 0)] [.t 2 (.v kI)] ir_Zl (t,())
noncomputable def X_Zl{R:Type}(nf kf:Nat):C->Env->(Xt->Env->Option R)->Option R:=xc (R:=R) (T_Zl nf kf).S nf
noncomputable def l8_Zl(nf kf:Nat)(m8:Nat)(t:Ty)(x3_8:Int)(x9_8:Int):Option (Int):=xit [3,7,8,9] [] (X_Zl nf kf c9_Zl) (qB 0 (qS (X_Zl nf kf c21_Zl) (KF [.t 2 (.v kI)]))) m8 ⟨[(3,.v kI x3_8),(7,.v (kL (kR 0)) t.args),(8,.v kI (List.length t.args:Int)),(9,.v kI x9_8)],[]⟩
theorem l8_Zl_eq(nf kf:Nat)(m8:Nat)(t:Ty)(x3_8:Int)(x9_8:Int):l8_Zl nf (kf+1) (m8+1) t x3_8 x9_8=(br (decide (x9_8<(List.length t.args:Int))) (gg (0<=x9_8∧x9_8<(List.length t.args:Int))<|cb (m_Zl nf kf (Ty.h (gt t.args x9_8 Ty.zero))) fun r15=>mark (l8_Zl nf (kf+1) m8 t (w64 (x3_8+r15)) (w64 (x9_8+(1:Int))))) (some x3_8)):=by kernel_rfl
theorem m_Zl_eq(nf kf:Nat)(t:Ty):m_Zl nf (kf+1) t=(mark (l8_Zl nf (kf+1) nf t (1:Int) (0:Int))):=by kernel_rfl
noncomputable def e_Zl(nf:Nat):XE:=eF 78 [.v (kR 0)] [.v kI] (fun t=>m_Zl nf nf t.1)
theorem gok_Zl(nf:Nat):∀kf:Nat,XT.ok Try.prog (G_Zl nf kf++B_Zl nf)
 |0=>by exact trivial
 |kf+1=>by
  have ih:=gok_Zl nf kf
  refine⟨?_,(by exact trivial)⟩
  ·refine eF_ok fun t x h=> ?_
   obtain⟨t,_⟩:=t
   exact runF_ok (N:=19) ih Try.func78 (by kernel_rfl) rfl h
theorem o_Zl(nf:Nat):conOK Try.prog 78 (e_Zl nf).con:=by
 have ih:=gok_Zl nf nf
 refine eF_ok fun t x h=> ?_
 obtain⟨t,_⟩:=t
 exact runF_ok (N:=19) ih Try.func78 (by kernel_rfl) rfl h
def ir_ZA:C:=.sq (.rg [.mv 2 (.nl kS)]) (.sq (.rg [.mv 3 T0,.mv 4 T0,.ln 5 false T4,.mv 6 T0,.ln 7 false T6,.sm 8 T3 none T5 T7 kS,.mv 2 T8]) .rt)
noncomputable abbrev T_ZA(nf:Nat):XT:=[]
noncomputable def m_ZA(nf:Nat)(s:List Str):Option (List Str):=runF (T_ZA nf) nf [.v (kL kS)] [.t 2 (.cl kS)] ir_ZA (s,())
theorem m_ZA_eq(nf:Nat)(s:List Str):m_ZA nf s=(gg (0<=(0:Int)∧(0:Int)<=(List.length s:Int)∧(List.length s:Int)<=(List.length s:Int)∧(List.length s:Int)=(List.length s:Int))<|some (List.drop (Int.toNat (0:Int)) (List.take (Int.toNat (List.length s:Int)) s))):=by kernel_rfl
noncomputable def e_ZA(nf:Nat):XE:=eF 80 [.v (kL kS)] [.cl kS] (fun t=>m_ZA nf t.1)
theorem o_ZA(nf:Nat):conOK Try.prog 80 (e_ZA nf).con:=by
 have ih:XT.ok Try.prog (T_ZA nf):=by exact trivial
 refine eF_ok fun t x h=> ?_
 obtain⟨s,_⟩:=t
 exact runF_ok (N:=9) ih Try.func80 (by kernel_rfl) rfl h
def c25_ZF:C:=.sq (.rg [.mv 4 (.i (-1))]) .rt
def c7_ZF:C:=.sq (.rg [.bi 9 .lss T8 T7]) (.sq (.cd T9 .skip (.ex 0)) (.sq (.bk 1 (.sq (.rg [.mv 10 T8,.mv 5 T10]) (.sq (.rg [.mv 11 T1,.mv 12 T0,.mv 13 T5,.ia 14 T12 T13 kS,.ld 15 T14 kS,.bi 16 .eql T11 T15]) (.cd T16 (.sq (.rg [.mv 17 T5,.mv 4 T17]) .rt) .skip)))) (.rg [.bi 18 .add T8 (.i 1),.mv 8 T18])))
def ir_ZF:C:=.sq (.rg [.mv 4 (.i 0)]) (.sq (.sq (.rg [.mv 6 T0,.ln 7 false T6,.mv 8 (.i 0)]) (.bk 0 (.lk [0,1,7,8] [] c7_ZF))) c25_ZF)
noncomputable abbrev T_ZF(nf:Nat):XT:=[]
noncomputable def m_ZF(nf:Nat)(s:List Str)(v:Str):Option (Int):=runF (T_ZF nf) nf [.v (kL kS),.v kS] [.t 4 (.v kI)] ir_ZF (s,v,())
noncomputable def X_ZF{R:Type}(nf:Nat):C->Env->(Xt->Env->Option R)->Option R:=xc (R:=R) (T_ZF nf).S nf
noncomputable def l6_ZF(nf:Nat)(m6:Nat)(s:List Str)(v:Str)(x8_6:Int):Option (Int):=xit [0,1,7,8] [] (X_ZF nf c7_ZF) (qB 0 (qS (X_ZF nf c25_ZF) (KF [.t 4 (.v kI)]))) m6 ⟨[(0,.v (kL kS) s),(1,.v kS v),(7,.v kI (List.length s:Int)),(8,.v kI x8_6)],[]⟩
theorem l6_ZF_eq(nf:Nat)(m6:Nat)(s:List Str)(v:Str)(x8_6:Int):l6_ZF nf (m6+1) s v x8_6=(br (decide (x8_6<(List.length s:Int))) (gg (0<=x8_6∧x8_6<(List.length s:Int))<|br (v==(gt s x8_6 ([]:Str))) (some x8_6) (mark (l6_ZF nf m6 s v (w64 (x8_6+(1:Int)))))) (some (-1:Int))):=by kernel_rfl
theorem m_ZF_eq(nf:Nat)(s:List Str)(v:Str):m_ZF nf s v=(mark (l6_ZF nf nf s v (0:Int))):=by kernel_rfl
noncomputable def e_ZF(nf:Nat):XE:=eF 83 [.v (kL kS),.v kS] [.v kI] (fun t=>m_ZF nf t.1 t.2.1)
theorem o_ZF(nf:Nat):conOK Try.prog 83 (e_ZF nf).con:=by
 have ih:XT.ok Try.prog (T_ZF nf):=by exact trivial
 refine eF_ok fun t x h=> ?_
 obtain⟨s,v,_⟩:=t
 exact runF_ok (N:=19) ih Try.func83 (by kernel_rfl) rfl h
def ir_ZC:C:=.sq (.rg [.mv 4 (.b false)]) (.sq (.rg [.mv 5 T0,.mv 6 T1,.cv (some 7) 83 [(T5,.v (kL kS)),(T6,.v kS)],.bi 8 .geq T7 (.i 0),.mv 4 T8]) .rt)
noncomputable abbrev T_ZC(nf:Nat):XT:=[e_ZF nf]
noncomputable def m_ZC(nf:Nat)(s:List Str)(v:Str):Option (Bool):=runF (T_ZC nf) nf [.v (kL kS),.v kS] [.t 4 (.v .bool)] ir_ZC (s,v,())
theorem m_ZC_eq(nf:Nat)(s:List Str)(v:Str):m_ZC nf s v=(cb (m_ZF nf s v) fun r7=>some (decide ((0:Int)<=r7))):=by kernel_rfl
noncomputable def e_ZC(nf:Nat):XE:=eF 82 [.v (kL kS),.v kS] [.v .bool] (fun t=>m_ZC nf t.1 t.2.1)
theorem o_ZC(nf:Nat):conOK Try.prog 82 (e_ZC nf).con:=by
 have ih:XT.ok Try.prog (T_ZC nf):=by exact⟨o_ZF nf,trivial⟩
 refine eF_ok fun t x h=> ?_
 obtain⟨s,v,_⟩:=t
 exact runF_ok (N:=9) ih Try.func82 (by kernel_rfl) rfl h
def c52_Zv:C:=.sq (.rg [.mv 6 (.b true)]) .rt
def c34_Zv:C:=.sq (.rg [.bi 104 .lss T103 T102]) (.sq (.cd T104 .skip (.ex 1)) (.sq (.bk 2 (.sq (.rg [.mv 105 T103,.mv 9 T105]) (.sq (.rg [.mv 106 T0,.nck 107 T106,.fa 108 T107 0 2 2,.ld 109 T108 (kL (kR 0)),.mv 110 T9,.ia 111 T109 T110 (kR 0),.mv 112 T8,.mv 113 T2,.bi 114 .add T113 (.i 1),.cv (some 115) 77 [(T111,.v (.ptr (kR 0))),(T112,.v .bool),(T114,.v kI)],.un 116 .not T115]) (.cd T116 (.sq (.rg [.mv 6 (.b false)]) .rt) .skip)))) (.rg [.bi 117 .add T103 (.i 1),.mv 103 T117])))
def c29_Zv:C:=.sq (.sq (.rg [.mv 98 T0,.nck 99 T98,.fa 100 T99 0 2 2,.ld 101 T100 (kL (kR 0)),.ln 102 false T101,.mv 103 (.i 0)]) (.bk 1 (.lk [0,2,8,102,103] [] c34_Zv))) c52_Zv
def w29_Zv:C:=.kp [0,2,8] [] c29_Zv
def c27_Zv:C:=.sq (.rg [.mv 83 T1,.mv 84 T83,.g 84 false (.mv 85 T0),.g 84 false (.nck 86 T85),.g 84 false (.fa 87 T86 0 0 0),.g 84 false (.ld 88 T87 kI),.g 84 false (.bi 89 .eql T88 (.i 3)),.pk 90 T84 (.b true) T89,.mv 91 T90,.g 91 false (.mv 92 T0),.g 91 false (.nck 93 T92),.g 91 false (.fa 94 T93 0 0 0),.g 91 false (.ld 95 T94 kI),.g 91 false (.bi 96 .eql T95 (.i 4)),.pk 97 T91 (.b true) T96,.mv 8 T97]) w29_Zv
def c22_Zv:C:=.cd T48 (.sq (.rg [.mv 6 (.b false)]) .rt) .skip
def w22_Zv:C:=.kp [0,1,2,48] [] c22_Zv
def c19_Zv:C:=.cd T48 .skip (.rg [.mv 70 T0,.nck 71 T70,.fa 72 T71 0 0 0,.ld 73 T72 kI,.bi 74 .neq T73 (.i 3),.mv 75 T74,.g 75 true (.mv 76 T0),.g 75 true (.nck 77 T76),.g 75 true (.fa 78 T77 0 1 1),.g 75 true (.ld 79 T78 (kL kS)),.g 75 true (.ln 80 false T79),.g 75 true (.bi 81 .gtr T80 (.i 0)),.pk 82 T75 T81 (.b false),.mv 48 T82])
def w19_Zv:C:=.kp [0,1,2,48] [] c19_Zv
def c15_Zv:C:=.cd T48 .skip (.sq (.rg [.mv 57 T0,.nck 58 T57,.fa 59 T58 0 0 0,.ld 60 T59 kI,.bi 61 .eql T60 (.i 3),.mv 62 T61,.g 62 true (.mv 63 T0),.g 62 true (.nck 64 T63),.g 62 true (.fa 65 T64 0 1 1),.g 62 true (.ld 66 T65 (kL kS)),.g 62 true (.cv (some 67) 103 [(T66,.v (kL kS))]),.g 62 true (.un 68 .not T67),.pk 69 T62 T68 (.b false),.mv 48 T69]) w19_Zv)
def w15_Zv:C:=.kp [0,1,2,48] [] c15_Zv
def c8_Zv:C:=.cd T22 (.sq (.rg [.mv 6 (.b false)]) .rt) (.sq (.sq (.rg [.mv 49 T0,.nck 50 T49,.fa 51 T50 0 0 0,.ld 52 T51 kI,.bi 53 .eql T52 (.i 5),.mv 54 T53,.g 54 true (.mv 55 T1),.pk 56 T54 T55 (.b false),.mv 48 T56]) w15_Zv) w22_Zv)
def w8_Zv:C:=.kp [0,1,2,22] [] c8_Zv
def c4_Zv:C:=.sq (.bk 0 (.sq (.rg [.mv 23 T0,.nck 24 T23,.fa 25 T24 0 0 0,.ld 26 T25 kI,.bi 27 .lss T26 (.i 1),.mv 28 T27,.g 28 false (.mv 29 T0),.g 28 false (.nck 30 T29),.g 28 false (.fa 31 T30 0 0 0),.g 28 false (.ld 32 T31 kI),.g 28 false (.bi 33 .gtr T32 (.i 5)),.pk 34 T28 (.b true) T33,.mv 35 T34,.g 35 false (.mv 36 T2),.g 35 false (.bi 37 .gtr T36 (.i 7)),.pk 38 T35 (.b true) T37,.mv 39 T38,.g 39 false (.mv 40 T0),.g 39 false (.nck 41 T40),.g 39 false (.fa 42 T41 0 2 2),.g 39 false (.ld 43 T42 (kL (kR 0))),.g 39 false (.ln 44 false T43),.g 39 false (.mv 45 T7),.g 39 false (.bi 46 .neq T44 T45),.pk 47 T39 (.b true) T46,.mv 22 T47]) w8_Zv)) c27_Zv
def w4_Zv:C:=.kp [0,1,2,7] [] c4_Zv
def ir_Zv:C:=.sq (.rg [.mv 6 (.b false)]) (.sq (.dr [10] [.mm 10 kI kI,.mu T10 (.i 4) (.i 1) kI kI,.mu T10 (.i 5) (.i 2) kI kI,.mv 11 T0,.nck 12 T11,.fa 13 T12 0 1 1,.ld 14 T13 (kL kS),.ln 15 false T14,.mu T10 (.i 3) T15 kI kI,.mv 16 T10,.mv 17 T0,.nck 18 T17,.fa 19 T18 0 0 0,.ld 20 T19 kI] [.ml 21 T16 T20 kI kI false,.mv 7 T21]) w4_Zv)
noncomputable def B_Zv(nf:Nat):XT:=[e_Zr nf]
noncomputable def G_Zv(nf:Nat):Nat->XT
 |0=>[]
 |kf+1=>[eF 77 [.p (kR 0),.v .bool,.v kI] [.v .bool] (fun t=>(fun(t:Ty) (plain:Bool) (deep:Int)=>runF (G_Zv nf kf++B_Zv nf) nf [.p (kR 0),.v .bool,.v kI] [.t 6 (.v .bool)] ir_Zv (t,plain,deep,())) t.1 t.2.1 t.2.2.1)]
noncomputable abbrev T_Zv(nf kf:Nat):XT:=G_Zv nf kf++B_Zv nf
noncomputable def m_Zv(nf kf:Nat)(t:Ty)(plain:Bool)(deep:Int):Option (Bool):=runF (T_Zv nf kf) nf [.p (kR 0),.v .bool,.v kI] [.t 6 (.v .bool)] ir_Zv (t,plain,deep,())
noncomputable def X_Zv{R:Type}(nf kf:Nat):C->Env->(Xt->Env->Option R)->Option R:=xc (R:=R) (T_Zv nf kf).S nf
noncomputable def j19_Zv(nf kf:Nat)(t:Ty)(plain:Bool)(deep:Int)(x48_19:Bool):Option (Bool):=X_Zv nf kf c19_Zv ⟨[(0,.v (.ptr (kR 0)) (some t)),(1,.v .bool plain),(2,.v kI deep),(48,.v .bool x48_19)],[]⟩ (qS (X_Zv nf kf w22_Zv) (qB 0 (qS (X_Zv nf kf c27_Zv) (KF [.t 6 (.v .bool)]))))
noncomputable def j15_Zv(nf kf:Nat)(t:Ty)(plain:Bool)(deep:Int)(x48_15:Bool):Option (Bool):=X_Zv nf kf c15_Zv ⟨[(0,.v (.ptr (kR 0)) (some t)),(1,.v .bool plain),(2,.v kI deep),(48,.v .bool x48_15)],[]⟩ (qS (X_Zv nf kf w22_Zv) (qB 0 (qS (X_Zv nf kf c27_Zv) (KF [.t 6 (.v .bool)]))))
noncomputable def j22_Zv(nf kf:Nat)(t:Ty)(plain:Bool)(deep:Int)(x48_22:Bool):Option (Bool):=X_Zv nf kf c22_Zv ⟨[(0,.v (.ptr (kR 0)) (some t)),(1,.v .bool plain),(2,.v kI deep),(48,.v .bool x48_22)],[]⟩ (qB 0 (qS (X_Zv nf kf c27_Zv) (KF [.t 6 (.v .bool)])))
noncomputable def j8_Zv(nf kf:Nat)(t:Ty)(plain:Bool)(deep:Int)(x22_8:Bool):Option (Bool):=X_Zv nf kf c8_Zv ⟨[(0,.v (.ptr (kR 0)) (some t)),(1,.v .bool plain),(2,.v kI deep),(22,.v .bool x22_8)],[]⟩ (qB 0 (qS (X_Zv nf kf c27_Zv) (KF [.t 6 (.v .bool)])))
noncomputable def l33_Zv(nf kf:Nat)(m33:Nat)(t:Ty)(deep:Int)(x8_29:Bool)(x103_33:Int):Option (Bool):=xit [0,2,8,102,103] [] (X_Zv nf kf c34_Zv) (qB 1 (qS (X_Zv nf kf c52_Zv) (KF [.t 6 (.v .bool)]))) m33 ⟨[(0,.v (.ptr (kR 0)) (some t)),(2,.v kI deep),(8,.v .bool x8_29),(102,.v kI (List.length t.args:Int)),(103,.v kI x103_33)],[]⟩
noncomputable def j29_Zv(nf kf:Nat)(t:Ty)(deep:Int)(x8_29:Bool):Option (Bool):=X_Zv nf kf c29_Zv ⟨[(0,.v (.ptr (kR 0)) (some t)),(2,.v kI deep),(8,.v .bool x8_29)],[]⟩ (KF [.t 6 (.v .bool)])
noncomputable def j4_Zv(nf kf:Nat)(t:Ty)(plain:Bool)(deep:Int)(x7_4:Int):Option (Bool):=X_Zv nf kf c4_Zv ⟨[(0,.v (.ptr (kR 0)) (some t)),(1,.v .bool plain),(2,.v kI deep),(7,.v kI x7_4)],[]⟩ (KF [.t 6 (.v .bool)])
theorem j19_Zv_eq(nf kf:Nat)(t:Ty)(plain:Bool)(deep:Int)(x48_19:Bool):j19_Zv nf (kf+1) t plain deep x48_19=(br x48_19 (mark (j22_Zv nf (kf+1) t plain deep x48_19)) (br ((!(t.kind==(3:Int)))==true) (mark (j22_Zv nf (kf+1) t plain deep (decide ((0:Int)<(List.length t.labels:Int))))) (mark (j22_Zv nf (kf+1) t plain deep false)))):=by
 unfold j19_Zv j22_Zv c19_Zv c27_Zv w22_Zv w29_Zv
 generalize c22_Zv=x0
 generalize c29_Zv=x1
 revert x0 x1
 refine id ?_
 intro x0 x1
 kernel_rfl
theorem j15_Zv_eq(nf kf:Nat)(t:Ty)(plain:Bool)(deep:Int)(x48_15:Bool):j15_Zv nf (kf+1) t plain deep x48_15=(br x48_15 (mark (j22_Zv nf (kf+1) t plain deep x48_15)) (br ((t.kind==(3:Int))==true) (cb (m_Zr nf t.labels) fun r67=>mark (j19_Zv nf (kf+1) t plain deep (!r67))) (mark (j19_Zv nf (kf+1) t plain deep false)))):=by
 unfold j15_Zv j22_Zv j19_Zv c15_Zv c27_Zv w22_Zv w19_Zv w29_Zv
 generalize c22_Zv=x0
 generalize c19_Zv=x1
 generalize c29_Zv=x2
 revert x0 x1 x2
 refine id ?_
 intro x0 x1 x2
 kernel_rfl
theorem j22_Zv_eq(nf kf:Nat)(t:Ty)(plain:Bool)(deep:Int)(x48_22:Bool):j22_Zv nf (kf+1) t plain deep x48_22=(br x48_22 (some false) (br (plain==false) (br ((t.kind==(3:Int))==false) (mark (j29_Zv nf (kf+1) t deep (t.kind==(4:Int)))) (mark (j29_Zv nf (kf+1) t deep true))) (mark (j29_Zv nf (kf+1) t deep true)))):=by
 unfold j22_Zv j29_Zv c22_Zv c27_Zv w29_Zv
 generalize c29_Zv=x0
 revert x0
 refine id ?_
 intro x0
 kernel_rfl
theorem j8_Zv_eq(nf kf:Nat)(t:Ty)(plain:Bool)(deep:Int)(x22_8:Bool):j8_Zv nf (kf+1) t plain deep x22_8=(br x22_8 (some false) (br ((t.kind==(5:Int))==true) (mark (j15_Zv nf (kf+1) t plain deep plain)) (mark (j15_Zv nf (kf+1) t plain deep false)))):=by
 unfold j8_Zv j15_Zv c8_Zv c27_Zv w15_Zv w22_Zv w29_Zv
 generalize c15_Zv=x0
 generalize c22_Zv=x1
 generalize c29_Zv=x2
 revert x0 x1 x2
 refine id ?_
 intro x0 x1 x2
 kernel_rfl
theorem l33_Zv_eq(nf kf:Nat)(m33:Nat)(t:Ty)(deep:Int)(x8_29:Bool)(x103_33:Int):l33_Zv nf (kf+1) (m33+1) t deep x8_29 x103_33=(br (decide (x103_33<(List.length t.args:Int))) (gg (0<=x103_33∧x103_33<(List.length t.args:Int))<|cb (m_Zv nf kf (gt t.args x103_33 Ty.zero) x8_29 (w64 (deep+(1:Int)))) fun r115=>br (!r115) (some false) (mark (l33_Zv nf (kf+1) m33 t deep x8_29 (w64 (x103_33+(1:Int)))))) (some true)):=by kernel_rfl
theorem j29_Zv_eq(nf kf:Nat)(t:Ty)(deep:Int)(x8_29:Bool):j29_Zv nf (kf+1) t deep x8_29=(mark (l33_Zv nf (kf+1) nf t deep x8_29 (0:Int))):=by kernel_rfl
theorem j4_Zv_eq(nf kf:Nat)(t:Ty)(plain:Bool)(deep:Int)(x7_4:Int):j4_Zv nf (kf+1) t plain deep x7_4=(br ((decide (t.kind<(1:Int)))==false) (br ((decide ((5:Int)<t.kind))==false) (br ((decide ((7:Int)<deep))==false) (mark (j8_Zv nf (kf+1) t plain deep (!((List.length t.args:Int)==x7_4)))) (mark (j8_Zv nf (kf+1) t plain deep true))) (mark (j8_Zv nf (kf+1) t plain deep true))) (mark (j8_Zv nf (kf+1) t plain deep true))):=by
 unfold j4_Zv j8_Zv c4_Zv w8_Zv c27_Zv w29_Zv
 generalize c8_Zv=x0
 generalize c29_Zv=x1
 revert x0 x1
 refine id ?_
 intro x0 x1
 kernel_rfl
theorem m_Zv_eq(nf kf:Nat)(t:Ty)(plain:Bool)(deep:Int):m_Zv nf (kf+1) t plain deep=(mark (j4_Zv nf (kf+1) t plain deep (mgt (kk:=kI) (vk:=kI) (mset (kk:=kI) (vk:=kI) (mset (kk:=kI) (vk:=kI) (mset (kk:=kI) (vk:=kI) [] (4:Int) (1:Int)) (5:Int) (2:Int)) (3:Int) (List.length t.labels:Int)) t.kind))):=by
 unfold m_Zv j4_Zv ir_Zv w4_Zv
 generalize c4_Zv=x0
 revert x0
 refine id ?_
 intro x0
 kernel_rfl
noncomputable def e_Zv(nf:Nat):XE:=eF 77 [.p (kR 0),.v .bool,.v kI] [.v .bool] (fun t=>m_Zv nf nf t.1 t.2.1 t.2.2.1)
theorem gok_Zv(nf:Nat):∀kf:Nat,XT.ok Try.prog (G_Zv nf kf++B_Zv nf)
 |0=>by exact⟨o_Zr nf,trivial⟩
 |kf+1=>by
  have ih:=gok_Zv nf kf
  refine⟨?_,(by exact⟨o_Zr nf,trivial⟩)⟩
  ·refine eF_ok fun t x h=> ?_
   obtain⟨t,plain,deep,_⟩:=t
   exact runF_ok (N:=118) ih Try.func77 (by kernel_rfl) rfl h
theorem o_Zv(nf:Nat):conOK Try.prog 77 (e_Zv nf).con:=by
 have ih:=gok_Zv nf nf
 refine eF_ok fun t x h=> ?_
 obtain⟨t,plain,deep,_⟩:=t
 exact runF_ok (N:=118) ih Try.func77 (by kernel_rfl) rfl h
def ir_Zi:C:=.sq (.rg [.bx 1 T0 (kR 0),.mv 2 (.b false)]) (.sq (.rg [.cv (some 3) 77 [(T1,.v (.ptr (kR 0))),((.b false),.v .bool),((.i 1),.v kI)],.mv 4 T3,.g 4 true (.ld 5 T1 (kR 0)),.g 4 true (.cv (some 6) 78 [(T5,.v (kR 0))]),.g 4 true (.bi 7 .leq T6 (.i 24)),.pk 8 T4 T7 (.b false),.mv 2 T8]) .rt)
noncomputable abbrev T_Zi(nf:Nat):XT:=[e_Zv nf,e_Zl nf]
noncomputable def m_Zi(nf:Nat)(t:Ty):Option (Bool):=runF (T_Zi nf) nf [.v (kR 0)] [.t 2 (.v .bool)] ir_Zi (t,())
theorem m_Zi_eq(nf:Nat)(t:Ty):m_Zi nf t=(cb (m_Zv nf nf (Ty.h t) false (1:Int)) fun r3=>br (r3==true) (cb (m_Zl nf nf (Ty.h t)) fun r6=>some (decide (r6<=(24:Int)))) (some false)):=by kernel_rfl
noncomputable def e_Zi(nf:Nat):XE:=eF 44 [.v (kR 0)] [.v .bool] (fun t=>m_Zi nf t.1)
theorem o_Zi(nf:Nat):conOK Try.prog 44 (e_Zi nf).con:=by
 have ih:XT.ok Try.prog (T_Zi nf):=by exact⟨o_Zv nf,o_Zl nf,trivial⟩
 refine eF_ok fun t x h=> ?_
 obtain⟨t,_⟩:=t
 exact runF_ok (N:=9) ih Try.func44 (by kernel_rfl) rfl h
def ir_Zg:C:=.sq (.rg [.bx 1 T0 (kR 0),.mv 2 (.b false)]) (.sq (.rg [.cv (some 3) 77 [(T1,.v (.ptr (kR 0))),((.b true),.v .bool),((.i 1),.v kI)],.mv 4 T3,.g 4 true (.ld 5 T1 (kR 0)),.g 4 true (.cv (some 6) 78 [(T5,.v (kR 0))]),.g 4 true (.bi 7 .leq T6 (.i 24)),.pk 8 T4 T7 (.b false),.mv 2 T8]) .rt)
noncomputable abbrev T_Zg(nf:Nat):XT:=[e_Zv nf,e_Zl nf]
noncomputable def m_Zg(nf:Nat)(t:Ty):Option (Bool):=runF (T_Zg nf) nf [.v (kR 0)] [.t 2 (.v .bool)] ir_Zg (t,())
theorem m_Zg_eq(nf:Nat)(t:Ty):m_Zg nf t=(cb (m_Zv nf nf (Ty.h t) true (1:Int)) fun r3=>br (r3==true) (cb (m_Zl nf nf (Ty.h t)) fun r6=>some (decide (r6<=(24:Int)))) (some false)):=by kernel_rfl
noncomputable def e_Zg(nf:Nat):XE:=eF 36 [.v (kR 0)] [.v .bool] (fun t=>m_Zg nf t.1)
theorem o_Zg(nf:Nat):conOK Try.prog 36 (e_Zg nf).con:=by
 have ih:XT.ok Try.prog (T_Zg nf):=by exact⟨o_Zv nf,o_Zl nf,trivial⟩
 refine eF_ok fun t x h=> ?_
 obtain⟨t,_⟩:=t
 exact runF_ok (N:=9) ih Try.func36 (by kernel_rfl) rfl h
def c33_Zn:C:=.sq (.rg [.mv 53 T2,.mv 6 T53]) .rt
def c32_Zn:C:=.rg [.bi 52 .add T24 (.i 1),.mv 24 T52]
def c31_Zn:C:=.dr [46,48] [.mv 39 T0,.nck 40 T39,.fa 41 T40 0 2 2,.ld 42 T41 (kL (kR 0)),.mv 43 T7,.ia 44 T42 T43 (kR 0),.mv 45 T1,.ca (some 46) 80 [(T45,.v (kL kS))],.mv 47 T8,.bs 48 true kS [T47],.af 49 kS T46 T48,.mv 50 T2] [.cq (some 51) 37 [(T44,.v (.ptr (kR 0))),(T49,.v (kL kS)),(T50,.rw true (kL kS))],.rn 2 [1000] T51]
def w31_Zn:C:=.kp [0,1,2,7,8,23,24] [[1000]] c31_Zn
def c13_Zn:C:=.sq (.rg [.bi 25 .lss T24 T23]) (.sq (.cd T25 .skip (.ex 0)) (.sq (.bk 1 (.sq (.rg [.mv 26 T24,.mv 7 T26]) (.sq (.rg [.mv 8 (.s [33])]) (.sq (.sq (.rg [.mv 27 T0,.nck 28 T27,.fa 29 T28 0 0 0,.ld 30 T29 kI,.bi 31 .eql T30 (.i 3)]) (.cd T31 (.rg [.mv 32 T0,.nck 33 T32,.fa 34 T33 0 1 1,.ld 35 T34 (kL kS),.mv 36 T7,.ia 37 T35 T36 kS,.ld 38 T37 kS,.mv 8 T38]) .skip)) w31_Zn)))) c32_Zn))
def c8_Zn:C:=.sq (.sq (.rg [.mv 19 T0,.nck 20 T19,.fa 21 T20 0 2 2,.ld 22 T21 (kL (kR 0)),.ln 23 false T22,.mv 24 (.i 0)]) (.bk 0 (.lk [0,1,2,23,24] [[1000]] c13_Zn))) c33_Zn
def w8_Zn:C:=.kp [0,1,2] [[1000]] c8_Zn
def ir_Zn:C:=.sq (.rg [.mv 6 (.nl (kL kS))]) (.sq (.sq (.rg [.mv 9 T0,.nck 10 T9,.fa 11 T10 0 0 0,.ld 12 T11 kI,.bi 13 .eql T12 (.i 4)]) (.cd T13 (.rg [.mv 14 T2,.mv 15 T1,.ca (some 16) 79 [(T15,.v (kL kS))],.bl 17 (kL kS) [T16],.apl 18 [1000] (kL kS) T14 17,.mv 2 T18]) .skip)) w8_Zn)
noncomputable def B_Zn(nf:Nat):XT:=[e_ZB nf,e_ZA nf]
noncomputable def G_Zn(nf:Nat):Nat->XT
 |0=>[]
 |kf+1=>[eQ 37 [.p (kR 0),.v (kL kS),.sl 0] [.o (kL (kL kS))] [.row true (kL kS)] [.gone] (fun t u=>(fun(t:Ty) (path:List Str) (out:List (List Str))=>runQ (G_Zn nf kf++B_Zn nf) nf [.p (kR 0),.v (kL kS),.sl 0] [.row true (kL kS)] [.gone] [.t 6 (.o (kL (kL kS)))] ir_Zn (t,path,(),()) out) t.1 t.2.1 u)]
noncomputable abbrev T_Zn(nf kf:Nat):XT:=G_Zn nf kf++B_Zn nf
noncomputable def m_Zn(nf kf:Nat)(t:Ty)(path:List Str)(out:List (List Str)):Option ((List (List Str))×Unit):=runQ (T_Zn nf kf) nf [.p (kR 0),.v (kL kS),.sl 0] [.row true (kL kS)] [.gone] [.t 6 (.o (kL (kL kS)))] ir_Zn (t,path,(),()) out
noncomputable def X_Zn{R:Type}(nf kf:Nat):C->Env->(Xt->Env->Option R)->Option R:=xc (R:=R) (T_Zn nf kf).S nf
noncomputable def j31_Zn(nf kf:Nat)(m12:Nat)(t:Ty)(path:List Str)(x24_12:Int)(y1000_12:List (List Str))(x8_31:Str):Option ((List (List Str))×Unit):=X_Zn nf kf c31_Zn ⟨[(0,.v (.ptr (kR 0)) (some t)),(1,.v (kL kS) path),(2,.sl [1000]),(7,.v kI x24_12),(8,.v kS x8_31),(23,.v kI (List.length t.args:Int)),(24,.v kI x24_12)],[([1000],.row true false (kL kS) y1000_12)]⟩ (qB 1 (qS (X_Zn nf kf c32_Zn) (qM [0,1,2,23,24] [[1000]] (X_Zn nf kf c13_Zn) m12 (qB 0 (qS (X_Zn nf kf c33_Zn) (KQ [.t 6 (.o (kL (kL kS)))] [.gone]))))))
noncomputable def l12_Zn(nf kf:Nat)(m12:Nat)(t:Ty)(path:List Str)(x24_12:Int)(y1000_12:List (List Str)):Option ((List (List Str))×Unit):=xit [0,1,2,23,24] [[1000]] (X_Zn nf kf c13_Zn) (qB 0 (qS (X_Zn nf kf c33_Zn) (KQ [.t 6 (.o (kL (kL kS)))] [.gone]))) m12 ⟨[(0,.v (.ptr (kR 0)) (some t)),(1,.v (kL kS) path),(2,.sl [1000]),(23,.v kI (List.length t.args:Int)),(24,.v kI x24_12)],[([1000],.row true false (kL kS) y1000_12)]⟩
noncomputable def j8_Zn(nf kf:Nat)(t:Ty)(path:List Str)(y1000_8:List (List Str)):Option ((List (List Str))×Unit):=X_Zn nf kf c8_Zn ⟨[(0,.v (.ptr (kR 0)) (some t)),(1,.v (kL kS) path),(2,.sl [1000])],[([1000],.row true false (kL kS) y1000_8)]⟩ (KQ [.t 6 (.o (kL (kL kS)))] [.gone])
theorem j31_Zn_eq(nf kf:Nat)(m12:Nat)(t:Ty)(path:List Str)(x24_12:Int)(y1000_12:List (List Str))(x8_31:Str):j31_Zn nf (kf+1) m12 t path x24_12 y1000_12 x8_31=(gg (0<=x24_12∧x24_12<(List.length t.args:Int))<|cb (m_ZA nf path) fun r46=>gg (List.length r46+List.length ([x8_31]:List Str)<=33554432)<|cb (m_Zn nf kf (gt t.args x24_12 Ty.zero) (r46++([x8_31]:List Str)) y1000_12) fun r51=>mark (l12_Zn nf (kf+1) m12 t path (w64 (x24_12+(1:Int))) r51.1)):=by kernel_rfl
theorem l12_Zn_eq(nf kf:Nat)(m12:Nat)(t:Ty)(path:List Str)(x24_12:Int)(y1000_12:List (List Str)):l12_Zn nf (kf+1) (m12+1) t path x24_12 y1000_12=(br (decide (x24_12<(List.length t.args:Int))) (br (t.kind==(3:Int)) (gg (0<=x24_12∧x24_12<(List.length t.labels:Int))<|mark (j31_Zn nf (kf+1) m12 t path x24_12 y1000_12 (gt t.labels x24_12 ([]:Str)))) (mark (j31_Zn nf (kf+1) m12 t path x24_12 y1000_12 ([33]:Str)))) (some (y1000_12,()))):=by
 unfold l12_Zn j31_Zn c13_Zn c33_Zn w31_Zn c32_Zn
 generalize c31_Zn=x0
 revert x0
 refine id ?_
 intro x0
 kernel_rfl
theorem j8_Zn_eq(nf kf:Nat)(t:Ty)(path:List Str)(y1000_8:List (List Str)):j8_Zn nf (kf+1) t path y1000_8=(mark (l12_Zn nf (kf+1) nf t path (0:Int) y1000_8)):=by kernel_rfl
theorem m_Zn_eq(nf kf:Nat)(t:Ty)(path:List Str)(out:List (List Str)):m_Zn nf (kf+1) t path out=(br (t.kind==(4:Int)) (cb (m_ZB nf path) fun r16=>gg (List.length out+List.length ([r16]:List (List Str))<=33554432)<|mark (j8_Zn nf (kf+1) t path (out++([r16]:List (List Str))))) (mark (j8_Zn nf (kf+1) t path out))):=by
 unfold m_Zn j8_Zn ir_Zn w8_Zn
 generalize c8_Zn=x0
 revert x0
 refine id ?_
 intro x0
 kernel_rfl
noncomputable def e_Zn(nf:Nat):XE:=eQ 37 [.p (kR 0),.v (kL kS),.sl 0] [.o (kL (kL kS))] [.row true (kL kS)] [.gone] (fun t u=>m_Zn nf nf t.1 t.2.1 u)
theorem gok_Zn(nf:Nat):∀kf:Nat,XT.ok Try.prog (G_Zn nf kf++B_Zn nf)
 |0=>by exact⟨o_ZB nf,o_ZA nf,trivial⟩
 |kf+1=>by
  have ih:=gok_Zn nf kf
  refine⟨?_,(by exact⟨o_ZB nf,o_ZA nf,trivial⟩)⟩
  ·refine eQ_ok fun t u x h=> ?_
   obtain⟨t,path,_,_⟩:=t
   exact runQ_ok (N:=54) ih Try.func37 (by kernel_rfl) rfl rfl rfl rfl rfl h
theorem o_Zn(nf:Nat):conOK Try.prog 37 (e_Zn nf).con:=by
 have ih:=gok_Zn nf nf
 refine eQ_ok fun t u x h=> ?_
 obtain⟨t,path,_,_⟩:=t
 exact runQ_ok (N:=54) ih Try.func37 (by kernel_rfl) rfl rfl rfl rfl rfl h
def ir_Zd:C:=.sq (.rg [.bz 1 T0 (kR 0),.mv 2 (.nl (kL kS))]) (.sq (.sq (.rg [.ld 3 T1 (kR 0),.cv (some 4) 36 [(T3,.v (kR 0))],.un 5 .not T4]) (.cd T5 (.sq (.rg [.mv 2 (.nl (kL kS))]) .rt) .skip)) (.sq (.rg [.cq (some 6) 37 [(T1,.v (.ptr (kR 0))),((.nl kS),.v (kL kS)),((.nl (kL kS)),.rw true (kL kS))],.mv 2 T6]) .rt))
noncomputable abbrev T_Zd(nf:Nat):XT:=[e_Zg nf,e_Zn nf]
noncomputable def m_Zd(nf:Nat)(t:Ty):Option (List (List Str)):=runF (T_Zd nf) nf [.v (kR 0)] [.t 2 (.o (kL (kL kS)))] ir_Zd (t,())
theorem m_Zd_eq(nf:Nat)(t:Ty):m_Zd nf t=(cb (m_Zg nf t) fun r4=>br (!r4) (some ([]:List (List Str))) (cb (m_Zn nf nf t ([]:List Str) ([]:List (List Str))) fun r6=>some r6.1)):=by kernel_rfl
noncomputable def e_Zd(nf:Nat):XE:=eF 8 [.v (kR 0)] [.o (kL (kL kS))] (fun t=>m_Zd nf t.1)
theorem o_Zd(nf:Nat):conOK Try.prog 8 (e_Zd nf).con:=by
 have ih:XT.ok Try.prog (T_Zd nf):=by exact⟨o_Zg nf,o_Zn nf,trivial⟩
 refine eF_ok fun t x h=> ?_
 obtain⟨t,_⟩:=t
 exact runF_ok (N:=7) ih Try.func8 (by kernel_rfl) rfl h
def c27_Zt:C:=.sq (.rg [.mv 48 T2,.mv 6 T48]) .rt
def c15_Zt:C:=.sq (.rg [.bi 26 .lss T25 T24]) (.sq (.cd T26 .skip (.ex 0)) (.sq (.bk 1 (.sq (.rg [.mv 27 T25,.mv 7 T27]) (.dr [35,43] [.mv 28 T0,.nck 29 T28,.fa 30 T29 0 2 2,.ld 31 T30 (kL (kR 0)),.mv 32 T7,.ia 33 T31 T32 (kR 0),.mv 34 T1,.ca (some 35) 80 [(T34,.v (kL kS))],.mv 36 T0,.nck 37 T36,.fa 38 T37 0 1 1,.ld 39 T38 (kL kS),.mv 40 T7,.ia 41 T39 T40 kS,.ld 42 T41 kS,.bs 43 true kS [T42],.af 44 kS T35 T43,.mv 45 T2] [.cq (some 46) 38 [(T33,.v (.ptr (kR 0))),(T44,.v (kL kS)),(T45,.rw false (kR 18))],.rn 2 [1000] T46]))) (.rg [.bi 47 .add T25 (.i 1),.mv 25 T47])))
def ir_Zt:C:=.sq (.rg [.mv 6 (.nl (kR 18))]) (.sq (.sq (.rg [.mv 8 T0,.nck 9 T8,.fa 10 T9 0 0 0,.ld 11 T10 kI,.bi 12 .neq T11 (.i 3)]) (.cd T12 (.sq (.rg [.mv 13 T2,.mv 14 T1,.cv (some 15) 79 [(T14,.v (kL kS))],.mv 16 T0,.bd 17 18 [(0,1,T15),(1,1,T16)],.bs 18 false (kR 18) [T17],.ap 19 [6] false (kR 18) T13 T18,.mv 6 T19]) .rt) .skip)) (.sq (.sq (.rg [.mv 20 T0,.nck 21 T20,.fa 22 T21 0 2 2,.ld 23 T22 (kL (kR 0)),.ln 24 false T23,.mv 25 (.i 0)]) (.bk 0 (.lk [0,1,2,24,25] [[1000]] c15_Zt))) c27_Zt))
noncomputable def B_Zt(nf:Nat):XT:=[e_ZB nf,e_ZA nf]
noncomputable def G_Zt(nf:Nat):Nat->XT
 |0=>[]
 |kf+1=>[eQ 38 [.p (kR 0),.v (kL kS),.sl 0] [.s (kR 18)] [.row false (kR 18)] [.gone] (fun t u=>(fun(t:Ty) (path:List Str) (out:List Leaf)=>runQ (G_Zt nf kf++B_Zt nf) nf [.p (kR 0),.v (kL kS),.sl 0] [.row false (kR 18)] [.gone] [.t 6 (.s (kR 18))] ir_Zt (t,path,(),()) out) t.1 t.2.1 u)]
noncomputable abbrev T_Zt(nf kf:Nat):XT:=G_Zt nf kf++B_Zt nf
noncomputable def m_Zt(nf kf:Nat)(t:Ty)(path:List Str)(out:List Leaf):Option ((List Leaf)×Unit):=runQ (T_Zt nf kf) nf [.p (kR 0),.v (kL kS),.sl 0] [.row false (kR 18)] [.gone] [.t 6 (.s (kR 18))] ir_Zt (t,path,(),()) out
noncomputable def X_Zt{R:Type}(nf kf:Nat):C->Env->(Xt->Env->Option R)->Option R:=xc (R:=R) (T_Zt nf kf).S nf
noncomputable def l14_Zt(nf kf:Nat)(m14:Nat)(t:Ty)(path:List Str)(x25_14:Int)(y1000_14:List Leaf):Option ((List Leaf)×Unit):=xit [0,1,2,24,25] [[1000]] (X_Zt nf kf c15_Zt) (qB 0 (qS (X_Zt nf kf c27_Zt) (KQ [.t 6 (.s (kR 18))] [.gone]))) m14 ⟨[(0,.v (.ptr (kR 0)) (some t)),(1,.v (kL kS) path),(2,.sl [1000]),(24,.v kI (List.length t.args:Int)),(25,.v kI x25_14)],[([1000],.row false false (kR 18) y1000_14)]⟩
theorem l14_Zt_eq(nf kf:Nat)(m14:Nat)(t:Ty)(path:List Str)(x25_14:Int)(y1000_14:List Leaf):l14_Zt nf (kf+1) (m14+1) t path x25_14 y1000_14=(br (decide (x25_14<(List.length t.args:Int))) (gg (0<=x25_14∧x25_14<(List.length t.args:Int))<|cb (m_ZA nf path) fun r35=>gg (0<=x25_14∧x25_14<(List.length t.labels:Int))<|gg (List.length r35+List.length ([(gt t.labels x25_14 ([]:Str))]:List Str)<=33554432)<|cb (m_Zt nf kf (gt t.args x25_14 Ty.zero) (r35++([(gt t.labels x25_14 ([]:Str))]:List Str)) y1000_14) fun r46=>mark (l14_Zt nf (kf+1) m14 t path (w64 (x25_14+(1:Int))) r46.1)) (some (y1000_14,()))):=by kernel_rfl
theorem m_Zt_eq(nf kf:Nat)(t:Ty)(path:List Str)(out:List Leaf):m_Zt nf (kf+1) t path out=(br (!(t.kind==(3:Int))) (cb (m_ZB nf path) fun r15=>gg (List.length out+List.length ([(Leaf.mk r15 (some t))]:List Leaf)<=33554432)<|some ((out++([(Leaf.mk r15 (some t))]:List Leaf)),())) (mark (l14_Zt nf (kf+1) nf t path (0:Int) out))):=by kernel_rfl
noncomputable def e_Zt(nf:Nat):XE:=eQ 38 [.p (kR 0),.v (kL kS),.sl 0] [.s (kR 18)] [.row false (kR 18)] [.gone] (fun t u=>m_Zt nf nf t.1 t.2.1 u)
theorem gok_Zt(nf:Nat):∀kf:Nat,XT.ok Try.prog (G_Zt nf kf++B_Zt nf)
 |0=>by exact⟨o_ZB nf,o_ZA nf,trivial⟩
 |kf+1=>by
  have ih:=gok_Zt nf kf
  refine⟨?_,(by exact⟨o_ZB nf,o_ZA nf,trivial⟩)⟩
  ·refine eQ_ok fun t u x h=> ?_
   obtain⟨t,path,_,_⟩:=t
   exact runQ_ok (N:=49) ih Try.func38 (by kernel_rfl) rfl rfl rfl rfl rfl h
theorem o_Zt(nf:Nat):conOK Try.prog 38 (e_Zt nf).con:=by
 have ih:=gok_Zt nf nf
 refine eQ_ok fun t u x h=> ?_
 obtain⟨t,path,_,_⟩:=t
 exact runQ_ok (N:=49) ih Try.func38 (by kernel_rfl) rfl rfl rfl rfl rfl h
def c29_Zj:C:=.sq (.rg [.mv 22 T3,.mv 2 T22]) .rt
def c17_Zj:C:=.sq (.rg [.bi 13 .lss T12 T11]) (.sq (.cd T13 .skip (.ex 0)) (.sq (.bk 1 (.sq (.rg [.ia 14 T10 T12 (kR 18),.ld 15 T14 (kR 18),.al 5 (kR 18),.st T5 T15 (kR 18)]) (.gt 3 false (kL kS) (.rg [.mv 16 T3,.fa 17 T5 18 0 0,.ld 18 T17 (kL kS),.bs 19 false (kL kS) [T18],.ap 20 [3] false (kL kS) T16 T19,.mv 3 T20])))) (.rg [.bi 21 .add T12 (.i 1),.mv 12 T21])))
def ir_Zj:C:=.sq (.rg [.bz 1 T0 (kR 0),.mv 2 (.nl (kL kS))]) (.sq (.sq (.rg [.ld 6 T1 (kR 0),.cv (some 7) 36 [(T6,.v (kR 0))],.un 8 .not T7]) (.cd T8 (.sq (.rg [.mv 2 (.nl (kL kS))]) .rt) .skip)) (.sq (.rg [.bs 9 false (kL kS) [],.mv 3 T9]) (.sq (.sq (.rg [.cq (some 10) 38 [(T1,.v (.ptr (kR 0))),((.nl kS),.v (kL kS)),((.nl (kR 18)),.rw false (kR 18))],.ln 11 false T10,.mv 12 (.i 0)]) (.bk 0 (.gz 10 (kL (kR 18)) (.gt 3 false (kL kS) (.lk [3,10,11,12] [[3]] c17_Zj))))) c29_Zj)))
noncomputable abbrev T_Zj(nf:Nat):XT:=[e_Zg nf,e_Zt nf]
noncomputable def m_Zj(nf:Nat)(t:Ty):Option (List (List Str)):=runF (T_Zj nf) nf [.v (kR 0)] [.t 2 (.v (kL (kL kS)))] ir_Zj (t,())
noncomputable def X_Zj{R:Type}(nf:Nat):C->Env->(Xt->Env->Option R)->Option R:=xc (R:=R) (T_Zj nf).S nf
noncomputable def l16_Zj(nf:Nat)(m16:Nat)(r10:((List Leaf))×(Unit))(x12_16:Int)(y3_16:List (List Str)):Option (List (List Str)):=xit [3,10,11,12] [[3]] (X_Zj nf c17_Zj) (qB 0 (qS (X_Zj nf c29_Zj) (KF [.t 2 (.v (kL (kL kS)))]))) m16 ⟨[(3,.sl [3]),(10,.v (kL (kR 18)) r10.1),(11,.v kI (List.length r10.1:Int)),(12,.v kI x12_16)],[([3],.row false false (kL kS) y3_16)]⟩
theorem l16_Zj_eq(nf:Nat)(m16:Nat)(r10:((List Leaf))×(Unit))(x12_16:Int)(y3_16:List (List Str)):l16_Zj nf (m16+1) r10 x12_16 y3_16=(br (decide (x12_16<(List.length r10.1:Int))) (gg (0<=x12_16∧x12_16<(List.length r10.1:Int))<|gg (List.length y3_16+List.length ([(gt r10.1 x12_16 Leaf.zero).path]:List (List Str))<=33554432)<|mark (l16_Zj nf m16 r10 (w64 (x12_16+(1:Int))) (y3_16++([(gt r10.1 x12_16 Leaf.zero).path]:List (List Str))))) (some y3_16)):=by kernel_rfl
theorem m_Zj_eq(nf:Nat)(t:Ty):m_Zj nf t=(cb (m_Zg nf t) fun r7=>br (!r7) (some ([]:List (List Str))) (cb (m_Zt nf nf t ([]:List Str) ([]:List Leaf)) fun r10=>mark (l16_Zj nf nf r10 (0:Int) ([]:List (List Str))))):=by kernel_rfl
noncomputable def e_Zj(nf:Nat):XE:=eF 9 [.v (kR 0)] [.v (kL (kL kS))] (fun t=>m_Zj nf t.1)
theorem o_Zj(nf:Nat):conOK Try.prog 9 (e_Zj nf).con:=by
 have ih:XT.ok Try.prog (T_Zj nf):=by exact⟨o_Zg nf,o_Zt nf,trivial⟩
 refine eF_ok fun t x h=> ?_
 obtain⟨t,_⟩:=t
 exact runF_ok (N:=23) ih Try.func9 (by kernel_rfl) rfl h
def c30_Zu:C:=.sq (.rg [.mv 54 T0,.mv 4 T54]) .rt
def c29_Zu:C:=.rg [.bi 53 .add T9 (.i 1),.mv 9 T53]
def c24_Zu:C:=.cd T28 (.dr [] [.mv 42 T0,.nck 43 T42,.fa 44 T43 0 2 2,.ld 45 T44 (kL (kR 0)),.mv 46 T0,.nck 47 T46,.fa 48 T47 0 1 1,.ld 49 T48 (kL kS),.mv 50 T6,.cv (some 51) 83 [(T49,.v (kL kS)),(T50,.v kS)]] [.ia 52 T45 T51 (kR 0),.mv 0 T52]) (.sq (.rg [.mv 4 (.np (kR 0))]) .rt)
def w24_Zu:C:=.kp [0,6,7,8,9,28] [] c24_Zu
def c20_Zu:C:=.cd T13 (.rg [.mv 23 T0,.nck 24 T23,.fa 25 T24 0 2 2,.ld 26 T25 (kL (kR 0)),.ia 27 T26 (.i 0) (kR 0),.mv 0 T27]) (.sq (.rg [.mv 29 T0,.nck 30 T29,.fa 31 T30 0 0 0,.ld 32 T31 kI,.bi 33 .eql T32 (.i 3),.mv 34 T33,.g 34 true (.mv 35 T0),.g 34 true (.nck 36 T35),.g 34 true (.fa 37 T36 0 1 1),.g 34 true (.ld 38 T37 (kL kS)),.g 34 true (.mv 39 T6),.g 34 true (.cv (some 40) 82 [(T38,.v (kL kS)),(T39,.v kS)]),.pk 41 T34 T40 (.b false),.mv 28 T41]) w24_Zu)
def w20_Zu:C:=.kp [0,6,7,8,9,13] [] c20_Zu
def c7_Zu:C:=.sq (.rg [.bi 10 .lss T9 T8]) (.sq (.cd T10 .skip (.ex 0)) (.sq (.bk 1 (.sq (.rg [.ia 11 T7 T9 kS,.ld 12 T11 kS,.mv 6 T12]) (.bk 2 (.sq (.rg [.mv 14 T0,.nck 15 T14,.fa 16 T15 0 0 0,.ld 17 T16 kI,.bi 18 .eql T17 (.i 4),.mv 19 T18,.g 19 true (.mv 20 T6),.g 19 true (.bi 21 .eql T20 (.s [33])),.pk 22 T19 T21 (.b false),.mv 13 T22]) w20_Zu)))) c29_Zu))
def ir_Zu:C:=.sq (.rg [.mv 4 (.np (kR 0))]) (.sq (.sq (.rg [.mv 7 T1,.ln 8 false T7,.mv 9 (.i 0)]) (.bk 0 (.lk [0,7,8,9] [] c7_Zu))) c30_Zu)
noncomputable abbrev T_Zu(nf:Nat):XT:=[e_ZC nf,e_ZF nf]
noncomputable def m_Zu(nf:Nat)(t:Ty)(path:List Str):Option (Option Ty):=runF (T_Zu nf) nf [.p (kR 0),.v (kL kS)] [.t 4 (.v (.ptr (kR 0)))] ir_Zu (t,path,())
noncomputable def X_Zu{R:Type}(nf:Nat):C->Env->(Xt->Env->Option R)->Option R:=xc (R:=R) (T_Zu nf).S nf
noncomputable def j24_Zu(nf:Nat)(m6:Nat)(x0_6:Ty)(path:List Str)(x9_6:Int)(x28_24:Bool):Option (Option Ty):=X_Zu nf c24_Zu ⟨[(0,.v (.ptr (kR 0)) (some x0_6)),(6,.v kS (gt path x9_6 ([]:Str))),(7,.v (kL kS) path),(8,.v kI (List.length path:Int)),(9,.v kI x9_6),(28,.v .bool x28_24)],[]⟩ (qB 2 (qB 1 (qS (X_Zu nf c29_Zu) (qM [0,7,8,9] [] (X_Zu nf c7_Zu) m6 (qB 0 (qS (X_Zu nf c30_Zu) (KF [.t 4 (.v (.ptr (kR 0)))])))))))
noncomputable def j20_Zu(nf:Nat)(m6:Nat)(x0_6:Ty)(path:List Str)(x9_6:Int)(x13_20:Bool):Option (Option Ty):=X_Zu nf c20_Zu ⟨[(0,.v (.ptr (kR 0)) (some x0_6)),(6,.v kS (gt path x9_6 ([]:Str))),(7,.v (kL kS) path),(8,.v kI (List.length path:Int)),(9,.v kI x9_6),(13,.v .bool x13_20)],[]⟩ (qB 2 (qB 1 (qS (X_Zu nf c29_Zu) (qM [0,7,8,9] [] (X_Zu nf c7_Zu) m6 (qB 0 (qS (X_Zu nf c30_Zu) (KF [.t 4 (.v (.ptr (kR 0)))])))))))
noncomputable def l6_Zu(nf:Nat)(m6:Nat)(path:List Str)(x0_6:Ty)(x9_6:Int):Option (Option Ty):=xit [0,7,8,9] [] (X_Zu nf c7_Zu) (qB 0 (qS (X_Zu nf c30_Zu) (KF [.t 4 (.v (.ptr (kR 0)))]))) m6 ⟨[(0,.v (.ptr (kR 0)) (some x0_6)),(7,.v (kL kS) path),(8,.v kI (List.length path:Int)),(9,.v kI x9_6)],[]⟩
theorem j24_Zu_eq(nf:Nat)(m6:Nat)(x0_6:Ty)(path:List Str)(x9_6:Int)(x28_24:Bool):j24_Zu nf m6 x0_6 path x9_6 x28_24=(br x28_24 (cb (m_ZF nf x0_6.labels (gt path x9_6 ([]:Str))) fun r51=>gg (0<=r51∧r51<(List.length x0_6.args:Int))<|mark (l6_Zu nf m6 path (gt x0_6.args r51 Ty.zero) (w64 (x9_6+(1:Int))))) (some (none:Option Ty))):=by kernel_rfl
theorem j20_Zu_eq(nf:Nat)(m6:Nat)(x0_6:Ty)(path:List Str)(x9_6:Int)(x13_20:Bool):j20_Zu nf m6 x0_6 path x9_6 x13_20=(br x13_20 (gg (0<=(0:Int)∧(0:Int)<(List.length x0_6.args:Int))<|mark (l6_Zu nf m6 path (gt x0_6.args (0:Int) Ty.zero) (w64 (x9_6+(1:Int))))) (br ((x0_6.kind==(3:Int))==true) (cb (m_ZC nf x0_6.labels (gt path x9_6 ([]:Str))) fun r40=>mark (j24_Zu nf m6 x0_6 path x9_6 r40)) (mark (j24_Zu nf m6 x0_6 path x9_6 false)))):=by
 unfold j20_Zu l6_Zu j24_Zu c20_Zu c30_Zu c29_Zu w24_Zu
 generalize c24_Zu=x0
 revert x0
 refine id ?_
 intro x0
 kernel_rfl
theorem l6_Zu_eq(nf:Nat)(m6:Nat)(path:List Str)(x0_6:Ty)(x9_6:Int):l6_Zu nf (m6+1) path x0_6 x9_6=(br (decide (x9_6<(List.length path:Int))) (gg (0<=x9_6∧x9_6<(List.length path:Int))<|br ((x0_6.kind==(4:Int))==true) (mark (j20_Zu nf m6 x0_6 path x9_6 ((gt path x9_6 ([]:Str))==([33]:Str)))) (mark (j20_Zu nf m6 x0_6 path x9_6 false))) (some (some x0_6))):=by
 unfold l6_Zu j20_Zu c7_Zu c30_Zu w20_Zu c29_Zu
 generalize c20_Zu=x0
 revert x0
 refine id ?_
 intro x0
 kernel_rfl
theorem m_Zu_eq(nf:Nat)(t:Ty)(path:List Str):m_Zu nf t path=(mark (l6_Zu nf nf path t (0:Int))):=by kernel_rfl
noncomputable def e_Zu(nf:Nat):XE:=eF 45 [.p (kR 0),.v (kL kS)] [.v (.ptr (kR 0))] (fun t=>m_Zu nf t.1 t.2.1)
theorem o_Zu(nf:Nat):conOK Try.prog 45 (e_Zu nf).con:=by
 have ih:XT.ok Try.prog (T_Zu nf):=by exact⟨o_ZC nf,o_ZF nf,trivial⟩
 refine eF_ok fun t x h=> ?_
 obtain⟨t,path,_⟩:=t
 exact runF_ok (N:=55) ih Try.func45 (by kernel_rfl) rfl h
def ir_Zm:C:=.sq (.rg [.bz 2 T0 (kR 0),.al 4 (kR 0),.mv 5 (.b false)]) (.sq (.sq (.rg [.ld 7 T2 (kR 0),.cv (some 8) 44 [(T7,.v (kR 0))],.un 9 .not T8]) (.cd T9 (.sq (.rg [.bd 10 0 [],.st T4 T10 (kR 0),.mv 5 (.b false)]) .rt) .skip)) (.sq (.rg [.mv 11 T1,.cv (some 12) 45 [(T2,.v (.ptr (kR 0))),(T11,.v (kL kS))],.mv 6 T12]) (.sq (.sq (.rg [.mv 13 T6,.nq 14 false true T13]) (.cd T14 (.sq (.rg [.bd 15 0 [],.st T4 T15 (kR 0),.mv 5 (.b false)]) .rt) .skip)) (.sq (.rg [.mv 16 T6,.nck 17 T16,.ld 18 T17 (kR 0),.cv (some 19) 46 [(T18,.v (kR 0))],.st T4 T19 (kR 0),.mv 5 (.b true)]) .rt))))
noncomputable abbrev T_Zm(nf:Nat):XT:=[e_Zi nf,e_Zu nf,e_Zo nf]
noncomputable def m_Zm(nf:Nat)(t:Ty)(path:List Str):Option (Ty×Bool):=runF (T_Zm nf) nf [.v (kR 0),.v (kL kS)] [.c 4 (.v (kR 0)),.t 5 (.v .bool)] ir_Zm (t,path,())
theorem m_Zm_eq(nf:Nat)(t:Ty)(path:List Str):m_Zm nf t path=(cb (m_Zi nf t) fun r8=>br (!r8) (some ((Ty.mk (0:Int) ([]:List Str) ([]:List Ty)),false)) (cb (m_Zu nf t path) fun r12=>br (Option.isNone r12) (some ((Ty.mk (0:Int) ([]:List Str) ([]:List Ty)),false)) (Option.bind r12 fun p17=>cb (m_Zo nf nf p17) fun r19=>some ((Ty.h r19),true)))):=by kernel_rfl
noncomputable def e_Zm(nf:Nat):XE:=eF 15 [.v (kR 0),.v (kL kS)] [.v (kR 0),.v .bool] (fun t=>m_Zm nf t.1 t.2.1)
theorem o_Zm(nf:Nat):conOK Try.prog 15 (e_Zm nf).con:=by
 have ih:XT.ok Try.prog (T_Zm nf):=by exact⟨o_Zi nf,o_Zu nf,o_Zo nf,trivial⟩
 refine eF_ok fun t x h=> ?_
 obtain⟨t,path,_⟩:=t
 exact runF_ok (N:=20) ih Try.func15 (by kernel_rfl) rfl h
def c33_ZE:C:=.sq (.rg [.mv 4 (.b true)]) .rt
def c15_ZE:C:=.sq (.rg [.bi 14 .lss T13 T12]) (.sq (.cd T14 .skip (.ex 0)) (.sq (.bk 1 (.sq (.rg [.mv 15 T13,.mv 5 T15]) (.sq (.dr [] [.mv 16 T0,.mv 17 T5,.ia 18 T16 T17 kS,.ld 19 T18 kS,.mv 20 T1,.mv 21 T5,.ia 22 T20 T21 kS,.ld 23 T22 kS] [.bi 24 .neq T19 T23]) (.cd T24 (.sq (.rg [.mv 4 (.b false)]) .rt) .skip)))) (.rg [.bi 25 .add T13 (.i 1),.mv 13 T25])))
def ir_ZE:C:=.sq (.rg [.mv 4 (.b false)]) (.sq (.sq (.rg [.mv 6 T0,.ln 7 false T6,.mv 8 T1,.ln 9 false T8,.bi 10 .neq T7 T9]) (.cd T10 (.sq (.rg [.mv 4 (.b false)]) .rt) .skip)) (.sq (.sq (.rg [.mv 11 T0,.ln 12 false T11,.mv 13 (.i 0)]) (.bk 0 (.lk [0,1,12,13] [] c15_ZE))) c33_ZE))
noncomputable abbrev T_ZE(nf:Nat):XT:=[]
noncomputable def m_ZE(nf:Nat)(s1:List Str)(s2:List Str):Option (Bool):=runF (T_ZE nf) nf [.v (kL kS),.v (kL kS)] [.t 4 (.v .bool)] ir_ZE (s1,s2,())
noncomputable def X_ZE{R:Type}(nf:Nat):C->Env->(Xt->Env->Option R)->Option R:=xc (R:=R) (T_ZE nf).S nf
noncomputable def l14_ZE(nf:Nat)(m14:Nat)(s1:List Str)(s2:List Str)(x13_14:Int):Option (Bool):=xit [0,1,12,13] [] (X_ZE nf c15_ZE) (qB 0 (qS (X_ZE nf c33_ZE) (KF [.t 4 (.v .bool)]))) m14 ⟨[(0,.v (kL kS) s1),(1,.v (kL kS) s2),(12,.v kI (List.length s1:Int)),(13,.v kI x13_14)],[]⟩
theorem l14_ZE_eq(nf:Nat)(m14:Nat)(s1:List Str)(s2:List Str)(x13_14:Int):l14_ZE nf (m14+1) s1 s2 x13_14=(br (decide (x13_14<(List.length s1:Int))) (gg (0<=x13_14∧x13_14<(List.length s1:Int))<|gg (0<=x13_14∧x13_14<(List.length s2:Int))<|br (!((gt s1 x13_14 ([]:Str))==(gt s2 x13_14 ([]:Str)))) (some false) (mark (l14_ZE nf m14 s1 s2 (w64 (x13_14+(1:Int)))))) (some true)):=by kernel_rfl
theorem m_ZE_eq(nf:Nat)(s1:List Str)(s2:List Str):m_ZE nf s1 s2=(br (!((List.length s1:Int)==(List.length s2:Int))) (some false) (mark (l14_ZE nf nf s1 s2 (0:Int)))):=by kernel_rfl
noncomputable def e_ZE(nf:Nat):XE:=eF 53 [.v (kL kS),.v (kL kS)] [.v .bool] (fun t=>m_ZE nf t.1 t.2.1)
theorem o_ZE(nf:Nat):conOK Try.prog 53 (e_ZE nf).con:=by
 have ih:XT.ok Try.prog (T_ZE nf):=by exact trivial
 refine eF_ok fun t x h=> ?_
 obtain⟨s1,s2,_⟩:=t
 exact runF_ok (N:=26) ih Try.func53 (by kernel_rfl) rfl h
def ir_Zf:C:=.sq (.rg [.bx 2 T0 (kR 0),.bx 3 T1 (kR 0),.mv 4 (.b false)]) (.sq (.rg [.fa 5 T2 0 0 0,.ld 6 T5 kI,.fa 7 T3 0 0 0,.ld 8 T7 kI,.bi 9 .eql T6 T8,.mv 10 T9,.g 10 true (.fa 11 T2 0 1 1),.g 10 true (.ld 12 T11 (kL kS)),.g 10 true (.fa 13 T3 0 1 1),.g 10 true (.ld 14 T13 (kL kS)),.g 10 true (.cv (some 15) 53 [(T12,.v (kL kS)),(T14,.v (kL kS))]),.pk 16 T10 T15 (.b false),.mv 17 T16,.g 17 true (.fa 18 T2 0 2 2),.g 17 true (.ld 19 T18 (kL (kR 0))),.g 17 true (.fa 20 T3 0 2 2),.g 17 true (.ld 21 T20 (kL (kR 0))),.g 17 true (.cv (some 22) 54 [(T19,.v (kL (kR 0))),(T21,.v (kL (kR 0))),((.f 19),.fn)]),.pk 23 T17 T22 (.b false),.mv 4 T23]) .rt)
def c35_ZD:C:=.sq (.rg [.mv 6 (.b true)]) .rt
def c15_ZD:C:=.sq (.rg [.bi 18 .lss T17 T16]) (.sq (.cd T18 .skip (.ex 0)) (.sq (.bk 1 (.sq (.rg [.mv 19 T17,.ia 20 T15 T17 (kR 0),.ld 21 T20 (kR 0),.al 8 (kR 0),.mv 7 T19,.st T8 T21 (kR 0)]) (.sq (.rg [.mv 22 T1,.mv 23 T7,.ia 24 T22 T23 (kR 0),.ld 25 T24 (kR 0),.al 9 (kR 0),.st T9 T25 (kR 0)]) (.sq (.rg [.mv 26 T2,.ld 27 T8 (kR 0),.ld 28 T9 (kR 0),.cf (some 29) T26 [(T27,.v (kR 0)),(T28,.v (kR 0))],.un 30 .not T29]) (.cd T30 (.sq (.rg [.mv 6 (.b false)]) .rt) .skip))))) (.rg [.bi 31 .add T17 (.i 1),.mv 17 T31])))
def ir_ZD:C:=.sq (.rg [.mv 6 (.b false)]) (.sq (.sq (.rg [.mv 10 T0,.ln 11 false T10,.mv 12 T1,.ln 13 false T12,.bi 14 .neq T11 T13]) (.cd T14 (.sq (.rg [.mv 6 (.b false)]) .rt) .skip)) (.sq (.sq (.rg [.mv 15 T0,.ln 16 false T15,.mv 17 (.i 0)]) (.bk 0 (.lk [1,2,15,16,17] [] c15_ZD))) c35_ZD))
noncomputable def B_Zf(nf:Nat):XT:=[e_ZE nf]
noncomputable def G_Zf(nf:Nat):Nat->XT
 |0=>[]
 |kf+1=>[eF 19 [.v (kR 0),.v (kR 0)] [.v .bool] (fun t=>(fun(a:Ty) (b:Ty)=>runF (G_Zf nf kf++B_Zf nf) nf [.v (kR 0),.v (kR 0)] [.t 4 (.v .bool)] ir_Zf (a,b,())) t.1 t.2.1),
  eF 54 [.v (kL (kR 0)),.v (kL (kR 0)),.fn 19 []] [.v .bool] (fun t=>(fun(s1:List Ty) (s2:List Ty)=>runF (G_Zf nf kf++B_Zf nf) nf [.v (kL (kR 0)),.v (kL (kR 0)),.fn 19 []] [.t 6 (.v .bool)] ir_ZD (s1,s2,(()),())) t.1 t.2.1)]
noncomputable abbrev T_Zf(nf kf:Nat):XT:=G_Zf nf kf++B_Zf nf
noncomputable abbrev T_ZD(nf kf:Nat):XT:=G_Zf nf kf++B_Zf nf
noncomputable def m_Zf(nf kf:Nat)(a:Ty)(b:Ty):Option (Bool):=runF (T_Zf nf kf) nf [.v (kR 0),.v (kR 0)] [.t 4 (.v .bool)] ir_Zf (a,b,())
noncomputable def m_ZD(nf kf:Nat)(s1:List Ty)(s2:List Ty):Option (Bool):=runF (T_ZD nf kf) nf [.v (kL (kR 0)),.v (kL (kR 0)),.fn 19 []] [.t 6 (.v .bool)] ir_ZD (s1,s2,(()),())
noncomputable def X_ZD{R:Type}(nf kf:Nat):C->Env->(Xt->Env->Option R)->Option R:=xc (R:=R) (T_ZD nf kf).S nf
theorem m_Zf_eq(nf kf:Nat)(a:Ty)(b:Ty):m_Zf nf (kf+1) a b=(br ((a.kind==b.kind)==true) (cb (m_ZE nf a.labels b.labels) fun r15=>br (r15==true) (cb (m_ZD nf kf a.args b.args) fun r22=>some r22) (some false)) (some false)):=by kernel_rfl
noncomputable def e_Zf(nf:Nat):XE:=eF 19 [.v (kR 0),.v (kR 0)] [.v .bool] (fun t=>m_Zf nf nf t.1 t.2.1)
noncomputable def l14_ZD(nf kf:Nat)(m14:Nat)(s2:List Ty)(s1:List Ty)(x17_14:Int):Option (Bool):=xit [1,2,15,16,17] [] (X_ZD nf kf c15_ZD) (qB 0 (qS (X_ZD nf kf c35_ZD) (KF [.t 6 (.v .bool)]))) m14 ⟨[(1,.v (kL (kR 0)) s2),(2,.fn 19 []),(15,.v (kL (kR 0)) s1),(16,.v kI (List.length s1:Int)),(17,.v kI x17_14)],[]⟩
theorem l14_ZD_eq(nf kf:Nat)(m14:Nat)(s2:List Ty)(s1:List Ty)(x17_14:Int):l14_ZD nf (kf+1) (m14+1) s2 s1 x17_14=(br (decide (x17_14<(List.length s1:Int))) (gg (0<=x17_14∧x17_14<(List.length s1:Int))<|gg (0<=x17_14∧x17_14<(List.length s2:Int))<|cb (m_Zf nf kf (Ty.h (gt s1 x17_14 Ty.zero)) (Ty.h (gt s2 x17_14 Ty.zero))) fun r29=>br (!r29) (some false) (mark (l14_ZD nf (kf+1) m14 s2 s1 (w64 (x17_14+(1:Int)))))) (some true)):=by kernel_rfl
theorem m_ZD_eq(nf kf:Nat)(s1:List Ty)(s2:List Ty):m_ZD nf (kf+1) s1 s2=(br (!((List.length s1:Int)==(List.length s2:Int))) (some false) (mark (l14_ZD nf (kf+1) nf s2 s1 (0:Int)))):=by kernel_rfl
theorem gok_Zf(nf:Nat):∀kf:Nat,XT.ok Try.prog (G_Zf nf kf++B_Zf nf)
 |0=>by exact⟨o_ZE nf,trivial⟩
 |kf+1=>by
  have ih:=gok_Zf nf kf
  refine⟨?_,?_,(by exact⟨o_ZE nf,trivial⟩)⟩
  ·refine eF_ok fun t x h=> ?_
   obtain⟨a,b,_⟩:=t
   exact runF_ok (N:=24) ih Try.func19 (by kernel_rfl) rfl h
  ·refine eF_ok fun t x h=> ?_
   obtain⟨s1,s2,_,_⟩:=t
   exact runF_ok (N:=32) ih Try.func54 (by kernel_rfl) rfl h
theorem o_Zf(nf:Nat):conOK Try.prog 19 (e_Zf nf).con:=by
 have ih:=gok_Zf nf nf
 refine eF_ok fun t x h=> ?_
 obtain⟨a,b,_⟩:=t
 exact runF_ok (N:=24) ih Try.func19 (by kernel_rfl) rfl h
def ir_Ze:C:=.sq (.rg [.mv 4 (.b false)]) (.sq (.rg [.mv 5 T0,.mv 6 T1,.cv (some 7) 53 [(T5,.v (kL kS)),(T6,.v (kL kS))],.mv 4 T7]) .rt)
noncomputable abbrev T_Ze(nf:Nat):XT:=[e_ZE nf]
noncomputable def m_Ze(nf:Nat)(a:List Str)(b:List Str):Option (Bool):=runF (T_Ze nf) nf [.v (kL kS),.v (kL kS)] [.t 4 (.v .bool)] ir_Ze (a,b,())
theorem m_Ze_eq(nf:Nat)(a:List Str)(b:List Str):m_Ze nf a b=(cb (m_ZE nf a b) fun r7=>some r7):=by kernel_rfl
noncomputable def e_Ze(nf:Nat):XE:=eF 22 [.v (kL kS),.v (kL kS)] [.v .bool] (fun t=>m_Ze nf t.1 t.2.1)
theorem o_Ze(nf:Nat):conOK Try.prog 22 (e_Ze nf).con:=by
 have ih:XT.ok Try.prog (T_Ze nf):=by exact⟨o_ZE nf,trivial⟩
 refine eF_ok fun t x h=> ?_
 obtain⟨a,b,_⟩:=t
 exact runF_ok (N:=8) ih Try.func22 (by kernel_rfl) rfl h
def ir_Zk:C:=.sq (.rg [.mv 2 (.s [])]) (.sq (.sq (.rg [.mv 3 T0,.ln 4 false T3,.bi 5 .eql T4 (.i 0)]) (.cd T5 (.sq (.rg [.mv 2 (.s [45])]) .rt) .skip)) (.sq (.rg [.mv 6 T0,.cv (some 7) 55 [(T6,.v (kL kS)),((.s [46]),.v kS)],.mv 2 T7]) .rt))
noncomputable abbrev T_Zk(nf:Nat):XT:=[e_Zav nf]
noncomputable def m_Zk(nf:Nat)(path:List Str):Option (Str):=runF (T_Zk nf) nf [.v (kL kS)] [.t 2 (.v kS)] ir_Zk (path,())
theorem m_Zk_eq(nf:Nat)(path:List Str):m_Zk nf path=(br ((List.length path:Int)==(0:Int)) (some ([45]:Str)) (cb (m_Zav nf path ([46]:Str)) fun r7=>some r7)):=by kernel_rfl
noncomputable def e_Zk(nf:Nat):XE:=eF 20 [.v (kL kS)] [.v kS] (fun t=>m_Zk nf t.1)
theorem o_Zk(nf:Nat):conOK Try.prog 20 (e_Zk nf).con:=by
 have ih:XT.ok Try.prog (T_Zk nf):=by exact⟨o_Zav nf,trivial⟩
 refine eF_ok fun t x h=> ?_
 obtain⟨path,_⟩:=t
 exact runF_ok (N:=8) ih Try.func20 (by kernel_rfl) rfl h
end Go.Q
