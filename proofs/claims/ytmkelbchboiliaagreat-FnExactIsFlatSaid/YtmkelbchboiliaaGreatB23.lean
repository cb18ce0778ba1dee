/- Typing: the program's side. -/
import Derived.Test.YtmkelbchboiliaaGreatB22
import Derived.Test.YtmkelbchboiliaaGreatProg
import Derived.KernelRfl
set_option linter.unusedVariables false
set_option linter.unusedSimpArgs false
namespace Go.Q
open Go.Proofs
set_option maxRecDepth 20000
set_option maxHeartbeats 4000000
def c10_ZaQ:C:=.sq (.rg [.bs 5 true kS [],.mv 6 T0,.an 7 true kS T5 T6,.mv 2 T7]) .rt
def c5_ZaQ:C:=.cd T4 (.sq (.rg [.mv 2 (.nl kS)]) .rt) .skip
def w5_ZaQ:C:=.kp [0,4] [] c5_ZaQ
def ir_ZaQ:C:=.sq (.rg [.mv 2 (.nl kS)]) (.sq (.sq (.rg [.mv 3 T0,.nq 4 false false T3]) w5_ZaQ) c10_ZaQ)
noncomputable abbrev T_ZaQ(nf:Nat):XT:=[]
noncomputable def m_ZaQ(nf:Nat)(a:List Str):Option (List Str):=runF (T_ZaQ nf) nf [.v (kL kS)] [.t 2 (.o (kL kS))] ir_ZaQ (a,())
noncomputable def X_ZaQ{R:Type}(nf:Nat):C->Env->(Xt->Env->Option R)->Option R:=xc (R:=R) (T_ZaQ nf).S nf
noncomputable def j5_ZaQ(nf:Nat)(a:List Str)(x4_5:Bool):Option (List Str):=X_ZaQ nf c5_ZaQ ⟨[(0,.v (kL kS) a),(4,.v .bool x4_5)],[]⟩ (qS (X_ZaQ nf c10_ZaQ) (KF [.t 2 (.o (kL kS))]))
theorem j5_ZaQ_eq(nf:Nat)(a:List Str)(x4_5:Bool):j5_ZaQ nf a x4_5=(br x4_5 (some ([]:List Str)) (gg (List.length a<=33554432)<|some a)):=by kernel_rfl
theorem m_ZaQ_eq(nf:Nat)(a:List Str):m_ZaQ nf a=(br (List.isEmpty a) (both (mark (j5_ZaQ nf a false)) (mark (j5_ZaQ nf a true))) (mark (j5_ZaQ nf a false))):=by
 unfold m_ZaQ j5_ZaQ ir_ZaQ w5_ZaQ c10_ZaQ
 generalize c5_ZaQ=x0
 revert x0
 refine id ?_
 intro x0
 kernel_rfl
noncomputable def e_ZaQ(nf:Nat):XE:=eF 138 [.v (kL kS)] [.o (kL kS)] (fun t=>m_ZaQ nf t.1)
theorem o_ZaQ(nf:Nat):conOK Tryz.prog 138 (e_ZaQ nf).con:=by
 have ih:XT.ok Tryz.prog (T_ZaQ nf):=by exact trivial
 refine eF_ok fun t x h=> ?_
 obtain⟨a,_⟩:=t
 exact runF_ok (N:=8) ih Tryz.func138 (by kernel_rfl) rfl h
def c21_ZA:C:=.sq (.rg [.ld 27 T3 (kR 0),.st T2 T27 (kR 0)]) .rt
def c9_ZA:C:=.sq (.rg [.bi 16 .lss T15 T14]) (.sq (.cd T16 .skip (.ex 0)) (.sq (.bk 1 (.sq (.rg [.ia 17 T13 T15 (kR 0),.ld 18 T17 (kR 0),.al 5 (kR 0),.st T5 T18 (kR 0)]) (.gb 3 2 true (kR 0) (.dr [22,23] [.fa 19 T3 0 2 2,.ld 20 T19 (kL (kR 0)),.ld 21 T5 (kR 0),.ca (some 22) 122 [(T21,.v (kR 0))],.bl 23 (kR 0) [T22]] [.apl 24 [3,2] (kR 0) T20 23,.fa 25 T3 0 2 2,.st T25 T24 (kL (kR 0))])))) (.rg [.bi 26 .add T15 (.i 1),.mv 15 T26])))
def ir_ZA:C:=.sq (.rg [.bx 1 T0 (kR 0),.al 2 (kR 0)]) (.sq (.dr [10,3] [.fa 6 T1 0 0 0,.ld 7 T6 kI,.fa 8 T1 0 1 1,.ld 9 T8 (kL kS),.ca (some 10) 138 [(T9,.v (kL kS))],.bd 11 0 [(0,1,T7),(1,1,T10)],.al 3 (kR 0)] [.st T3 T11 (kR 0)]) (.sq (.sq (.rg [.fa 12 T1 0 2 2,.ld 13 T12 (kL (kR 0)),.ln 14 false T13,.mv 15 (.i 0)]) (.bk 0 (.gb 3 2 true (kR 0) (.lk [2,3,13,14,15] [[2],[3],[3,2],[10]] c9_ZA)))) c21_ZA))
noncomputable def B_ZA(nf:Nat):XT:=[e_ZaQ nf]
noncomputable def G_ZA(nf:Nat):Nat->XT
 |0=>[]
 |kf+1=>[eF 122 [.v (kR 0)] [.o (kR 0)] (fun t=>(fun(t:Ty)=>runF (G_ZA nf kf++B_ZA nf) nf [.v (kR 0)] [.c 2 (.o (kR 0))] ir_ZA (t,())) t.1)]
noncomputable abbrev T_ZA(nf kf:Nat):XT:=G_ZA nf kf++B_ZA nf
noncomputable def m_ZA(nf kf:Nat)(t:Ty):Option (Ty):=runF (T_ZA nf kf) nf [.v (kR 0)] [.c 2 (.o (kR 0))] ir_ZA (t,())
noncomputable def X_ZA{R:Type}(nf kf:Nat):C->Env->(Xt->Env->Option R)->Option R:=xc (R:=R) (T_ZA nf kf).S nf
noncomputable def l8_ZA(nf kf:Nat)(m8:Nat)(t:Ty)(r10:(List Str))(x15_8:Int)(y3_2_8:List Ty):Option (Ty):=xit [2,3,13,14,15] [[2],[3],[3,2],[10]] (X_ZA nf kf c9_ZA) (qB 0 (qS (X_ZA nf kf c21_ZA) (KF [.c 2 (.o (kR 0))]))) m8 ⟨[(2,.pt [2] 0),(3,.pt [3] 0),(13,.v (kL (kR 0)) t.args),(14,.v kI (List.length t.args:Int)),(15,.v kI x15_8)],[([2],.box [.v kI (0:Int),.nl kS,.nl (kR 0)]),([3],.box [.v kI t.kind,.sl [10],.sl [3,2]]),([3,2],.row true false (kR 0) y3_2_8),([10],.row true false kS r10)]⟩
theorem l8_ZA_eq(nf kf:Nat)(m8:Nat)(t:Ty)(r10:(List Str))(x15_8:Int)(y3_2_8:List Ty):l8_ZA nf (kf+1) (m8+1) t r10 x15_8 y3_2_8=(br (decide (x15_8<(List.length t.args:Int))) (gg (0<=x15_8∧x15_8<(List.length t.args:Int))<|cb (m_ZA nf kf (Ty.h (gt t.args x15_8 Ty.zero))) fun r22=>gg (List.length y3_2_8+List.length ([(Ty.h r22)]:List Ty)<=33554432)<|mark (l8_ZA nf (kf+1) m8 t r10 (w64 (x15_8+(1:Int))) (y3_2_8++([(Ty.h r22)]:List Ty)))) (some (Ty.mk t.kind r10 y3_2_8))):=by kernel_rfl
theorem m_ZA_eq(nf kf:Nat)(t:Ty):m_ZA nf (kf+1) t=(cb (m_ZaQ nf t.labels) fun r10=>mark (l8_ZA nf (kf+1) nf t r10 (0:Int) ([]:List Ty))):=by kernel_rfl
noncomputable def e_ZA(nf:Nat):XE:=eF 122 [.v (kR 0)] [.o (kR 0)] (fun t=>m_ZA nf nf t.1)
theorem gok_ZA(nf:Nat):∀kf:Nat,XT.ok Tryz.prog (G_ZA nf kf++B_ZA nf)
 |0=>by exact⟨o_ZaQ nf,trivial⟩
 |kf+1=>by
  have ih:=gok_ZA nf kf
  refine⟨?_,(by exact⟨o_ZaQ nf,trivial⟩)⟩
  ·refine eF_ok fun t x h=> ?_
   obtain⟨t,_⟩:=t
   exact runF_ok (N:=28) ih Tryz.func122 (by kernel_rfl) rfl h
theorem o_ZA(nf:Nat):conOK Tryz.prog 122 (e_ZA nf).con:=by
 have ih:=gok_ZA nf nf
 refine eF_ok fun t x h=> ?_
 obtain⟨t,_⟩:=t
 exact runF_ok (N:=28) ih Tryz.func122 (by kernel_rfl) rfl h
def ir_ZI:C:=.sq (.rg [.mv 2 (.b false)]) (.sq (.rg [.mv 3 T0,.bi 4 .geq T3 (.k .u8 97),.mv 5 T4,.g 5 true (.mv 6 T0),.g 5 true (.bi 7 .leq T6 (.k .u8 122)),.pk 8 T5 T7 (.b false),.mv 2 T8]) .rt)
noncomputable abbrev T_ZI(nf:Nat):XT:=[]
noncomputable def m_ZI(nf:Nat)(c:Int):Option (Bool):=runF (T_ZI nf) nf [.v (.int .u8)] [.t 2 (.v .bool)] ir_ZI (c,())
theorem m_ZI_eq(nf:Nat)(c:Int):m_ZI nf c=(br ((decide ((97:Int)<=c))==true) (some (decide (c<=(122:Int)))) (some false)):=by kernel_rfl
noncomputable def e_ZI(nf:Nat):XE:=eF 116 [.v (.int .u8)] [.v .bool] (fun t=>m_ZI nf t.1)
theorem o_ZI(nf:Nat):conOK Tryz.prog 116 (e_ZI nf).con:=by
 have ih:XT.ok Tryz.prog (T_ZI nf):=by exact trivial
 refine eF_ok fun t x h=> ?_
 obtain⟨c,_⟩:=t
 exact runF_ok (N:=9) ih Tryz.func116 (by kernel_rfl) rfl h
def ir_ZG:C:=.sq (.rg [.mv 2 (.b false)]) (.sq (.rg [.mv 3 T0,.bi 4 .geq T3 (.k .u8 48),.mv 5 T4,.g 5 true (.mv 6 T0),.g 5 true (.bi 7 .leq T6 (.k .u8 57)),.pk 8 T5 T7 (.b false),.mv 2 T8]) .rt)
noncomputable abbrev T_ZG(nf:Nat):XT:=[]
noncomputable def m_ZG(nf:Nat)(c:Int):Option (Bool):=runF (T_ZG nf) nf [.v (.int .u8)] [.t 2 (.v .bool)] ir_ZG (c,())
theorem m_ZG_eq(nf:Nat)(c:Int):m_ZG nf c=(br ((decide ((48:Int)<=c))==true) (some (decide (c<=(57:Int)))) (some false)):=by kernel_rfl
noncomputable def e_ZG(nf:Nat):XE:=eF 117 [.v (.int .u8)] [.v .bool] (fun t=>m_ZG nf t.1)
theorem o_ZG(nf:Nat):conOK Tryz.prog 117 (e_ZG nf).con:=by
 have ih:XT.ok Tryz.prog (T_ZG nf):=by exact trivial
 refine eF_ok fun t x h=> ?_
 obtain⟨c,_⟩:=t
 exact runF_ok (N:=9) ih Tryz.func117 (by kernel_rfl) rfl h
def c33_Zp:C:=.sq (.rg [.mv 2 (.b true)]) .rt
def c32_Zp:C:=.rg [.bi 43 .add T28 (.i 1),.mv 28 T43]
def c27_Zp:C:=.cd T42 (.sq (.rg [.mv 2 (.b false)]) .rt) .skip
def w27_Zp:C:=.kp [0,27,28,42] [] c27_Zp
def c15_Zp:C:=.sq (.rg [.bi 29 .lss T28 T27]) (.sq (.cd T29 .skip (.ex 0)) (.sq (.bk 1 (.sq (.rg [.mv 30 T28,.mv 3 T30]) (.sq (.rg [.mv 31 T0,.mv 32 T3,.ix 33 T31 T32,.cv (some 34) 116 [(T33,.v (.int .u8))],.un 35 .not T34,.mv 36 T35,.g 36 true (.mv 37 T0),.g 36 true (.mv 38 T3),.g 36 true (.ix 39 T37 T38),.g 36 true (.cv (some 40) 117 [(T39,.v (.int .u8))]),.g 36 true (.un 41 .not T40),.pk 42 T36 T41 (.b false)]) w27_Zp))) c32_Zp))
def c10_Zp:C:=.sq (.sq (.rg [.mv 26 T0,.ln 27 true T26,.mv 28 (.i 0)]) (.bk 0 (.lk [0,27,28] [] c15_Zp))) c33_Zp
def c5_Zp:C:=.cd T25 (.sq (.rg [.mv 2 (.b false)]) .rt) .skip
def w5_Zp:C:=.kp [0,25] [] c5_Zp
def ir_Zp:C:=.sq (.rg [.mv 2 (.b false)]) (.sq (.sq (.rg [.mv 4 T0,.ln 5 true T4,.bi 6 .lss T5 (.i 1),.mv 7 T6,.g 7 false (.mv 8 T0),.g 7 false (.ln 9 true T8),.g 7 false (.bi 10 .gtr T9 (.i 4)),.pk 11 T7 (.b true) T10,.mv 12 T11,.g 12 false (.mv 13 T0),.g 12 false (.ix 14 T13 (.i 0)),.g 12 false (.cv (some 15) 116 [(T14,.v (.int .u8))]),.g 12 false (.un 16 .not T15),.pk 17 T12 (.b true) T16,.mv 18 T17,.g 18 false (.mv 19 T0),.g 18 false (.bi 20 .eql T19 (.s [105,102])),.pk 21 T18 (.b true) T20,.mv 22 T21,.g 22 false (.mv 23 T0),.g 22 false (.bi 24 .eql T23 (.s [102,111,114])),.pk 25 T22 (.b true) T24]) w5_Zp) c10_Zp)
noncomputable abbrev T_Zp(nf:Nat):XT:=[e_ZI nf,e_ZG nf]
noncomputable def m_Zp(nf:Nat)(s:Str):Option (Bool):=runF (T_Zp nf) nf [.v kS] [.t 2 (.v .bool)] ir_Zp (s,())
noncomputable def X_Zp{R:Type}(nf:Nat):C->Env->(Xt->Env->Option R)->Option R:=xc (R:=R) (T_Zp nf).S nf
noncomputable def j5_Zp(nf:Nat)(s:Str)(x25_5:Bool):Option (Bool):=X_Zp nf c5_Zp ⟨[(0,.v kS s),(25,.v .bool x25_5)],[]⟩ (qS (X_Zp nf c10_Zp) (KF [.t 2 (.v .bool)]))
noncomputable def j27_Zp(nf:Nat)(m14:Nat)(s:Str)(x28_14:Int)(x42_27:Bool):Option (Bool):=X_Zp nf c27_Zp ⟨[(0,.v kS s),(27,.v kI (List.length s:Int)),(28,.v kI x28_14),(42,.v .bool x42_27)],[]⟩ (qB 1 (qS (X_Zp nf c32_Zp) (qM [0,27,28] [] (X_Zp nf c15_Zp) m14 (qB 0 (qS (X_Zp nf c33_Zp) (KF [.t 2 (.v .bool)]))))))
noncomputable def l14_Zp(nf:Nat)(m14:Nat)(s:Str)(x28_14:Int):Option (Bool):=xit [0,27,28] [] (X_Zp nf c15_Zp) (qB 0 (qS (X_Zp nf c33_Zp) (KF [.t 2 (.v .bool)]))) m14 ⟨[(0,.v kS s),(27,.v kI (List.length s:Int)),(28,.v kI x28_14)],[]⟩
theorem j5_Zp_eq(nf:Nat)(s:Str)(x25_5:Bool):j5_Zp nf s x25_5=(br x25_5 (some false) (mark (l14_Zp nf nf s (0:Int)))):=by kernel_rfl
theorem j27_Zp_eq(nf:Nat)(m14:Nat)(s:Str)(x28_14:Int)(x42_27:Bool):j27_Zp nf m14 s x28_14 x42_27=(br x42_27 (some false) (mark (l14_Zp nf m14 s (w64 (x28_14+(1:Int)))))):=by kernel_rfl
theorem l14_Zp_eq(nf:Nat)(m14:Nat)(s:Str)(x28_14:Int):l14_Zp nf (m14+1) s x28_14=(br (decide (x28_14<(List.length s:Int))) (gg (0<=x28_14∧x28_14<(List.length s:Int))<|cb (m_ZI nf ((List.getD s (Int.toNat x28_14) 0).toNat:Int)) fun r34=>br ((!r34)==true) (gg (0<=x28_14∧x28_14<(List.length s:Int))<|cb (m_ZG nf ((List.getD s (Int.toNat x28_14) 0).toNat:Int)) fun r40=>mark (j27_Zp nf m14 s x28_14 (!r40))) (mark (j27_Zp nf m14 s x28_14 false))) (some true)):=by
 unfold l14_Zp j27_Zp c15_Zp c33_Zp w27_Zp c32_Zp
 generalize c27_Zp=x0
 revert x0
 refine id ?_
 intro x0
 kernel_rfl
theorem m_Zp_eq(nf:Nat)(s:Str):m_Zp nf s=(br ((decide ((List.length s:Int)<(1:Int)))==false) (br ((decide ((4:Int)<(List.length s:Int)))==false) (gg (0<=(0:Int)∧(0:Int)<(List.length s:Int))<|cb (m_ZI nf ((List.getD s (Int.toNat (0:Int)) 0).toNat:Int)) fun r15=>br ((!r15)==false) (br ((s==([105,102]:Str))==false) (mark (j5_Zp nf s (s==([102,111,114]:Str)))) (mark (j5_Zp nf s true))) (mark (j5_Zp nf s true))) (mark (j5_Zp nf s true))) (mark (j5_Zp nf s true))):=by
 unfold m_Zp j5_Zp ir_Zp w5_Zp c10_Zp c33_Zp
 generalize c5_Zp=x0
 revert x0
 refine id ?_
 intro x0
 kernel_rfl
noncomputable def e_Zp(nf:Nat):XE:=eF 79 [.v kS] [.v .bool] (fun t=>m_Zp nf t.1)
theorem o_Zp(nf:Nat):conOK Tryz.prog 79 (e_Zp nf).con:=by
 have ih:XT.ok Tryz.prog (T_Zp nf):=by exact⟨o_ZI nf,o_ZG nf,trivial⟩
 refine eF_ok fun t x h=> ?_
 obtain⟨s,_⟩:=t
 exact runF_ok (N:=44) ih Tryz.func79 (by kernel_rfl) rfl h
def c23_Zi:C:=.sq (.rg [.mv 2 (.b true)]) .rt
def c7_Zi:C:=.sq (.sq (.rg [.mv 4 T3,.mv 5 T0,.ln 6 false T5,.bi 7 .lss T4 T6]) (.cd T7 .skip (.ex 0))) (.sq (.bk 1 (.sq (.dr [] [.mv 10 T0,.mv 11 T3,.bi 12 .sub T11 (.i 1),.ia 13 T10 T12 kS,.ld 14 T13 kS,.mv 15 T0,.mv 16 T3,.ia 17 T15 T16 kS,.ld 18 T17 kS] [.bi 19 .geq T14 T18]) (.cd T19 (.sq (.rg [.mv 2 (.b false)]) .rt) .skip))) (.rg [.mv 8 T3,.bi 9 .add T8 (.i 1),.mv 3 T9]))
def ir_Zi:C:=.sq (.rg [.mv 2 (.b false)]) (.sq (.sq (.rg [.mv 3 (.i 1)]) (.bk 0 (.lk [0,3] [] c7_Zi))) c23_Zi)
noncomputable abbrev T_Zi(nf:Nat):XT:=[]
noncomputable def m_Zi(nf:Nat)(list:List Str):Option (Bool):=runF (T_Zi nf) nf [.v (kL kS)] [.t 2 (.v .bool)] ir_Zi (list,())
noncomputable def X_Zi{R:Type}(nf:Nat):C->Env->(Xt->Env->Option R)->Option R:=xc (R:=R) (T_Zi nf).S nf
noncomputable def l6_Zi(nf:Nat)(m6:Nat)(list:List Str)(x3_6:Int):Option (Bool):=xit [0,3] [] (X_Zi nf c7_Zi) (qB 0 (qS (X_Zi nf c23_Zi) (KF [.t 2 (.v .bool)]))) m6 ⟨[(0,.v (kL kS) list),(3,.v kI x3_6)],[]⟩
theorem l6_Zi_eq(nf:Nat)(m6:Nat)(list:List Str)(x3_6:Int):l6_Zi nf (m6+1) list x3_6=(br (decide (x3_6<(List.length list:Int))) (gg (0<=(w64 (x3_6-(1:Int)))∧(w64 (x3_6-(1:Int)))<(List.length list:Int))<|gg (0<=x3_6∧x3_6<(List.length list:Int))<|br (!(Op.bytesLess (gt list (w64 (x3_6-(1:Int))) ([]:Str)) (gt list x3_6 ([]:Str)))) (some false) (mark (l6_Zi nf m6 list (w64 (x3_6+(1:Int)))))) (some true)):=by kernel_rfl
theorem m_Zi_eq(nf:Nat)(list:List Str):m_Zi nf list=(mark (l6_Zi nf nf list (1:Int))):=by kernel_rfl
noncomputable def e_Zi(nf:Nat):XE:=eF 162 [.v (kL kS)] [.v .bool] (fun t=>m_Zi nf t.1)
theorem o_Zi(nf:Nat):conOK Tryz.prog 162 (e_Zi nf).con:=by
 have ih:XT.ok Tryz.prog (T_Zi nf):=by exact trivial
 refine eF_ok fun t x h=> ?_
 obtain⟨list,_⟩:=t
 exact runF_ok (N:=20) ih Tryz.func162 (by kernel_rfl) rfl h
def ir_ZM:C:=.sq (.rg [.mv 2 (.b false)]) (.sq (.rg [.mv 3 T0,.cv (some 4) 79 [(T3,.v kS)],.un 5 .not T4,.mv 2 T5]) .rt)
noncomputable abbrev T_ZM(nf:Nat):XT:=[e_Zp nf]
noncomputable def m_ZM(nf:Nat)(s:Str):Option (Bool):=runF (T_ZM nf) nf [.v kS] [.t 2 (.v .bool)] ir_ZM (s,())
theorem m_ZM_eq(nf:Nat)(s:Str):m_ZM nf s=(cb (m_Zp nf s) fun r4=>some (!r4)):=by kernel_rfl
noncomputable def e_ZM(nf:Nat):XE:=eF 164 [.v kS] [.v .bool] (fun t=>m_ZM nf t.1)
theorem o_ZM(nf:Nat):conOK Tryz.prog 164 (e_ZM nf).con:=by
 have ih:XT.ok Tryz.prog (T_ZM nf):=by exact⟨o_Zp nf,trivial⟩
 refine eF_ok fun t x h=> ?_
 obtain⟨s,_⟩:=t
 exact runF_ok (N:=6) ih Tryz.func164 (by kernel_rfl) rfl h
def c25_Zg:C:=.sq (.rg [.mv 4 (.i (-1))]) .rt
def c7_Zg:C:=.sq (.rg [.bi 9 .lss T8 T7]) (.sq (.cd T9 .skip (.ex 0)) (.sq (.bk 1 (.sq (.rg [.mv 10 T8,.mv 5 T10]) (.sq (.rg [.mv 11 T1,.mv 12 T0,.mv 13 T5,.ia 14 T12 T13 kS,.ld 15 T14 kS,.cf (some 16) T11 [(T15,.v kS)]]) (.cd T16 (.sq (.rg [.mv 17 T5,.mv 4 T17]) .rt) .skip)))) (.rg [.bi 18 .add T8 (.i 1),.mv 8 T18])))
def ir_Zg:C:=.sq (.rg [.mv 4 (.i 0)]) (.sq (.sq (.rg [.mv 6 T0,.ln 7 false T6,.mv 8 (.i 0)]) (.bk 0 (.lk [0,1,7,8] [] c7_Zg))) c25_Zg)
noncomputable abbrev T_Zg(nf:Nat):XT:=[e_ZM nf]
noncomputable def m_Zg(nf:Nat)(s:List Str):Option (Int):=runF (T_Zg nf) nf [.v (kL kS),.fn 164 []] [.t 4 (.v kI)] ir_Zg (s,(()),())
noncomputable def X_Zg{R:Type}(nf:Nat):C->Env->(Xt->Env->Option R)->Option R:=xc (R:=R) (T_Zg nf).S nf
noncomputable def l6_Zg(nf:Nat)(m6:Nat)(s:List Str)(x8_6:Int):Option (Int):=xit [0,1,7,8] [] (X_Zg nf c7_Zg) (qB 0 (qS (X_Zg nf c25_Zg) (KF [.t 4 (.v kI)]))) m6 ⟨[(0,.v (kL kS) s),(1,.fn 164 []),(7,.v kI (List.length s:Int)),(8,.v kI x8_6)],[]⟩
theorem l6_Zg_eq(nf:Nat)(m6:Nat)(s:List Str)(x8_6:Int):l6_Zg nf (m6+1) s x8_6=(br (decide (x8_6<(List.length s:Int))) (gg (0<=x8_6∧x8_6<(List.length s:Int))<|cb (m_ZM nf (gt s x8_6 ([]:Str))) fun r16=>br r16 (some x8_6) (mark (l6_Zg nf m6 s (w64 (x8_6+(1:Int)))))) (some (-1:Int))):=by kernel_rfl
theorem m_Zg_eq(nf:Nat)(s:List Str):m_Zg nf s=(mark (l6_Zg nf nf s (0:Int))):=by kernel_rfl
noncomputable def e_Zg(nf:Nat):XE:=eF 178 [.v (kL kS),.fn 164 []] [.v kI] (fun t=>m_Zg nf t.1)
theorem o_Zg(nf:Nat):conOK Tryz.prog 178 (e_Zg nf).con:=by
 have ih:XT.ok Tryz.prog (T_Zg nf):=by exact⟨o_ZM nf,trivial⟩
 refine eF_ok fun t x h=> ?_
 obtain⟨s,_,_⟩:=t
 exact runF_ok (N:=19) ih Tryz.func178 (by kernel_rfl) rfl h
def ir_Zc:C:=.sq (.rg [.mv 4 (.b false)]) (.sq (.rg [.mv 5 T0,.mv 6 T1,.cv (some 7) 178 [(T5,.v (kL kS)),(T6,.fn)],.bi 8 .geq T7 (.i 0),.mv 4 T8]) .rt)
noncomputable abbrev T_Zc(nf:Nat):XT:=[e_Zg nf]
noncomputable def m_Zc(nf:Nat)(s:List Str):Option (Bool):=runF (T_Zc nf) nf [.v (kL kS),.fn 164 []] [.t 4 (.v .bool)] ir_Zc (s,(()),())
theorem m_Zc_eq(nf:Nat)(s:List Str):m_Zc nf s=(cb (m_Zg nf s) fun r7=>some (decide ((0:Int)<=r7))):=by kernel_rfl
noncomputable def e_Zc(nf:Nat):XE:=eF 163 [.v (kL kS),.fn 164 []] [.v .bool] (fun t=>m_Zc nf t.1)
theorem o_Zc(nf:Nat):conOK Tryz.prog 163 (e_Zc nf).con:=by
 have ih:XT.ok Tryz.prog (T_Zc nf):=by exact⟨o_Zg nf,trivial⟩
 refine eF_ok fun t x h=> ?_
 obtain⟨s,_,_⟩:=t
 exact runF_ok (N:=9) ih Tryz.func163 (by kernel_rfl) rfl h
def c10_ZL:C:=.sq (.rg [.mv 16 T0,.cv (some 17) 163 [(T16,.v (kL kS)),((.f 164),.fn)],.un 18 .not T17,.mv 2 T18]) .rt
def c5_ZL:C:=.cd T15 (.sq (.rg [.mv 2 (.b false)]) .rt) .skip
def w5_ZL:C:=.kp [0,15] [] c5_ZL
def ir_ZL:C:=.sq (.rg [.mv 2 (.b false)]) (.sq (.sq (.rg [.mv 3 T0,.ln 4 false T3,.bi 5 .lss T4 (.i 1),.mv 6 T5,.g 6 false (.mv 7 T0),.g 6 false (.ln 8 false T7),.g 6 false (.bi 9 .gtr T8 (.i 4)),.pk 10 T6 (.b true) T9,.mv 11 T10,.g 11 false (.mv 12 T0),.g 11 false (.cv (some 13) 162 [(T12,.v (kL kS))]),.g 11 false (.un 14 .not T13),.pk 15 T11 (.b true) T14]) w5_ZL) c10_ZL)
noncomputable abbrev T_ZL(nf:Nat):XT:=[e_Zi nf,e_Zc nf]
noncomputable def m_ZL(nf:Nat)(labels:List Str):Option (Bool):=runF (T_ZL nf) nf [.v (kL kS)] [.t 2 (.v .bool)] ir_ZL (labels,())
noncomputable def X_ZL{R:Type}(nf:Nat):C->Env->(Xt->Env->Option R)->Option R:=xc (R:=R) (T_ZL nf).S nf
noncomputable def j5_ZL(nf:Nat)(labels:List Str)(x15_5:Bool):Option (Bool):=X_ZL nf c5_ZL ⟨[(0,.v (kL kS) labels),(15,.v .bool x15_5)],[]⟩ (qS (X_ZL nf c10_ZL) (KF [.t 2 (.v .bool)]))
theorem j5_ZL_eq(nf:Nat)(labels:List Str)(x15_5:Bool):j5_ZL nf labels x15_5=(br x15_5 (some false) (cb (m_Zc nf labels) fun r17=>some (!r17))):=by kernel_rfl
theorem m_ZL_eq(nf:Nat)(labels:List Str):m_ZL nf labels=(br ((decide ((List.length labels:Int)<(1:Int)))==false) (br ((decide ((4:Int)<(List.length labels:Int)))==false) (cb (m_Zi nf labels) fun r13=>mark (j5_ZL nf labels (!r13))) (mark (j5_ZL nf labels true))) (mark (j5_ZL nf labels true))):=by
 unfold m_ZL j5_ZL ir_ZL w5_ZL c10_ZL
 generalize c5_ZL=x0
 revert x0
 refine id ?_
 intro x0
 kernel_rfl
noncomputable def e_ZL(nf:Nat):XE:=eF 137 [.v (kL kS)] [.v .bool] (fun t=>m_ZL nf t.1)
theorem o_ZL(nf:Nat):conOK Tryz.prog 137 (e_ZL nf).con:=by
 have ih:XT.ok Tryz.prog (T_ZL nf):=by exact⟨o_Zi nf,o_Zc nf,trivial⟩
 refine eF_ok fun t x h=> ?_
 obtain⟨labels,_⟩:=t
 exact runF_ok (N:=19) ih Tryz.func137 (by kernel_rfl) rfl h
def c21_Zw:C:=.sq (.rg [.mv 18 T3,.mv 2 T18]) .rt
def c9_Zw:C:=.sq (.rg [.bi 10 .lss T9 T8]) (.sq (.cd T10 .skip (.ex 0)) (.sq (.bk 1 (.sq (.rg [.ia 11 T7 T9 (kR 0),.ld 12 T11 (kR 0),.al 5 (kR 0),.st T5 T12 (kR 0)]) (.rg [.mv 13 T3,.ld 14 T5 (kR 0),.cv (some 15) 98 [(T14,.v (kR 0))],.bi 16 .add T13 T15,.mv 3 T16]))) (.rg [.bi 17 .add T9 (.i 1),.mv 9 T17])))
def ir_Zw:C:=.sq (.rg [.bx 1 T0 (kR 0),.mv 2 (.i 0)]) (.sq (.rg [.mv 3 (.i 1)]) (.sq (.sq (.rg [.fa 6 T1 0 2 2,.ld 7 T6 (kL (kR 0)),.ln 8 false T7,.mv 9 (.i 0)]) (.bk 0 (.lk [3,7,8,9] [] c9_Zw))) c21_Zw))
noncomputable def B_Zw(nf:Nat):XT:=[]
noncomputable def G_Zw(nf:Nat):Nat->XT
 |0=>[]
 |kf+1=>[eF 98 [.v (kR 0)] [.v kI] (fun t=>(fun(t:Ty)=>runF (G_Zw nf kf++B_Zw nf) nf [.v (kR 0)] [.t 2 (.v kI)] ir_Zw (t,())) t.1)]
noncomputable abbrev T_Zw(nf kf:Nat):XT:=G_Zw nf kf++B_Zw nf
noncomputable def m_Zw(nf kf:Nat)(t:Ty):Option (Int):=runF (T_Zw nf kf) nf [.v (kR 0)] [.t 2 (.v kI)] ir_Zw (t,())
noncomputable def X_Zw{R:Type}(nf kf:Nat):C->Env->(Xt->Env->Option R)->Option R:=xc (R:=R) (T_Zw nf kf).S nf
noncomputable def l8_Zw(nf kf:Nat)(m8:Nat)(t:Ty)(x3_8:Int)(x9_8:Int):Option (Int):=xit [3,7,8,9] [] (X_Zw nf kf c9_Zw) (qB 0 (qS (X_Zw nf kf c21_Zw) (KF [.t 2 (.v kI)]))) m8 ⟨[(3,.v kI x3_8),(7,.v (kL (kR 0)) t.args),(8,.v kI (List.length t.args:Int)),(9,.v kI x9_8)],[]⟩
theorem l8_Zw_eq(nf kf:Nat)(m8:Nat)(t:Ty)(x3_8:Int)(x9_8:Int):l8_Zw nf (kf+1) (m8+1) t x3_8 x9_8=(br (decide (x9_8<(List.length t.args:Int))) (gg (0<=x9_8∧x9_8<(List.length t.args:Int))<|cb (m_Zw nf kf (Ty.h (gt t.args x9_8 Ty.zero))) fun r15=>mark (l8_Zw nf (kf+1) m8 t (w64 (x3_8+r15)) (w64 (x9_8+(1:Int))))) (some x3_8)):=by kernel_rfl
theorem m_Zw_eq(nf kf:Nat)(t:Ty):m_Zw nf (kf+1) t=(mark (l8_Zw nf (kf+1) nf t (1:Int) (0:Int))):=by kernel_rfl
noncomputable def e_Zw(nf:Nat):XE:=eF 98 [.v (kR 0)] [.v kI] (fun t=>m_Zw nf nf t.1)
theorem gok_Zw(nf:Nat):∀kf:Nat,XT.ok Tryz.prog (G_Zw nf kf++B_Zw nf)
 |0=>by exact trivial
 |kf+1=>by
  have ih:=gok_Zw nf kf
  refine⟨?_,(by exact trivial)⟩
  ·refine eF_ok fun t x h=> ?_
   obtain⟨t,_⟩:=t
   exact runF_ok (N:=19) ih Tryz.func98 (by kernel_rfl) rfl h
theorem o_Zw(nf:Nat):conOK Tryz.prog 98 (e_Zw nf).con:=by
 have ih:=gok_Zw nf nf
 refine eF_ok fun t x h=> ?_
 obtain⟨t,_⟩:=t
 exact runF_ok (N:=19) ih Tryz.func98 (by kernel_rfl) rfl h
def c25_ZaV:C:=.sq (.rg [.mv 4 (.i (-1))]) .rt
def c7_ZaV:C:=.sq (.rg [.bi 9 .lss T8 T7]) (.sq (.cd T9 .skip (.ex 0)) (.sq (.bk 1 (.sq (.rg [.mv 10 T8,.mv 5 T10]) (.sq (.rg [.mv 11 T1,.mv 12 T0,.mv 13 T5,.ia 14 T12 T13 kS,.ld 15 T14 kS,.bi 16 .eql T11 T15]) (.cd T16 (.sq (.rg [.mv 17 T5,.mv 4 T17]) .rt) .skip)))) (.rg [.bi 18 .add T8 (.i 1),.mv 8 T18])))
def ir_ZaV:C:=.sq (.rg [.mv 4 (.i 0)]) (.sq (.sq (.rg [.mv 6 T0,.ln 7 false T6,.mv 8 (.i 0)]) (.bk 0 (.lk [0,1,7,8] [] c7_ZaV))) c25_ZaV)
noncomputable abbrev T_ZaV(nf:Nat):XT:=[]
noncomputable def m_ZaV(nf:Nat)(s:List Str)(v:Str):Option (Int):=runF (T_ZaV nf) nf [.v (kL kS),.v kS] [.t 4 (.v kI)] ir_ZaV (s,v,())
noncomputable def X_ZaV{R:Type}(nf:Nat):C->Env->(Xt->Env->Option R)->Option R:=xc (R:=R) (T_ZaV nf).S nf
noncomputable def l6_ZaV(nf:Nat)(m6:Nat)(s:List Str)(v:Str)(x8_6:Int):Option (Int):=xit [0,1,7,8] [] (X_ZaV nf c7_ZaV) (qB 0 (qS (X_ZaV nf c25_ZaV) (KF [.t 4 (.v kI)]))) m6 ⟨[(0,.v (kL kS) s),(1,.v kS v),(7,.v kI (List.length s:Int)),(8,.v kI x8_6)],[]⟩
theorem l6_ZaV_eq(nf:Nat)(m6:Nat)(s:List Str)(v:Str)(x8_6:Int):l6_ZaV nf (m6+1) s v x8_6=(br (decide (x8_6<(List.length s:Int))) (gg (0<=x8_6∧x8_6<(List.length s:Int))<|br (v==(gt s x8_6 ([]:Str))) (some x8_6) (mark (l6_ZaV nf m6 s v (w64 (x8_6+(1:Int)))))) (some (-1:Int))):=by kernel_rfl
theorem m_ZaV_eq(nf:Nat)(s:List Str)(v:Str):m_ZaV nf s v=(mark (l6_ZaV nf nf s v (0:Int))):=by kernel_rfl
noncomputable def e_ZaV(nf:Nat):XE:=eF 100 [.v (kL kS),.v kS] [.v kI] (fun t=>m_ZaV nf t.1 t.2.1)
theorem o_ZaV(nf:Nat):conOK Tryz.prog 100 (e_ZaV nf).con:=by
 have ih:XT.ok Tryz.prog (T_ZaV nf):=by exact trivial
 refine eF_ok fun t x h=> ?_
 obtain⟨s,v,_⟩:=t
 exact runF_ok (N:=19) ih Tryz.func100 (by kernel_rfl) rfl h
def c52_ZU:C:=.sq (.rg [.mv 6 (.b true)]) .rt
def c34_ZU:C:=.sq (.rg [.bi 104 .lss T103 T102]) (.sq (.cd T104 .skip (.ex 1)) (.sq (.bk 2 (.sq (.rg [.mv 105 T103,.mv 9 T105]) (.sq (.rg [.mv 106 T0,.nck 107 T106,.fa 108 T107 0 2 2,.ld 109 T108 (kL (kR 0)),.mv 110 T9,.ia 111 T109 T110 (kR 0),.mv 112 T8,.mv 113 T2,.bi 114 .add T113 (.i 1),.cv (some 115) 97 [(T111,.v (.ptr (kR 0))),(T112,.v .bool),(T114,.v kI)],.un 116 .not T115]) (.cd T116 (.sq (.rg [.mv 6 (.b false)]) .rt) .skip)))) (.rg [.bi 117 .add T103 (.i 1),.mv 103 T117])))
def c29_ZU:C:=.sq (.sq (.rg [.mv 98 T0,.nck 99 T98,.fa 100 T99 0 2 2,.ld 101 T100 (kL (kR 0)),.ln 102 false T101,.mv 103 (.i 0)]) (.bk 1 (.lk [0,2,8,102,103] [] c34_ZU))) c52_ZU
def w29_ZU:C:=.kp [0,2,8] [] c29_ZU
def c27_ZU:C:=.sq (.rg [.mv 83 T1,.mv 84 T83,.g 84 false (.mv 85 T0),.g 84 false (.nck 86 T85),.g 84 false (.fa 87 T86 0 0 0),.g 84 false (.ld 88 T87 kI),.g 84 false (.bi 89 .eql T88 (.i 3)),.pk 90 T84 (.b true) T89,.mv 91 T90,.g 91 false (.mv 92 T0),.g 91 false (.nck 93 T92),.g 91 false (.fa 94 T93 0 0 0),.g 91 false (.ld 95 T94 kI),.g 91 false (.bi 96 .eql T95 (.i 4)),.pk 97 T91 (.b true) T96,.mv 8 T97]) w29_ZU
def c22_ZU:C:=.cd T48 (.sq (.rg [.mv 6 (.b false)]) .rt) .skip
def w22_ZU:C:=.kp [0,1,2,48] [] c22_ZU
def c19_ZU:C:=.cd T48 .skip (.rg [.mv 70 T0,.nck 71 T70,.fa 72 T71 0 0 0,.ld 73 T72 kI,.bi 74 .neq T73 (.i 3),.mv 75 T74,.g 75 true (.mv 76 T0),.g 75 true (.nck 77 T76),.g 75 true (.fa 78 T77 0 1 1),.g 75 true (.ld 79 T78 (kL kS)),.g 75 true (.ln 80 false T79),.g 75 true (.bi 81 .gtr T80 (.i 0)),.pk 82 T75 T81 (.b false),.mv 48 T82])
def w19_ZU:C:=.kp [0,1,2,48] [] c19_ZU
def c15_ZU:C:=.cd T48 .skip (.sq (.rg [.mv 57 T0,.nck 58 T57,.fa 59 T58 0 0 0,.ld 60 T59 kI,.bi 61 .eql T60 (.i 3),.mv 62 T61,.g 62 true (.mv 63 T0),.g 62 true (.nck 64 T63),.g 62 true (.fa 65 T64 0 1 1),.g 62 true (.ld 66 T65 (kL kS)),.g 62 true (.cv (some 67) 137 [(T66,.v (kL kS))]),.g 62 true (.un 68 .not T67),.pk 69 T62 T68 (.b false),.mv 48 T69]) w19_ZU)
def w15_ZU:C:=.kp [0,1,2,48] [] c15_ZU
def c8_ZU:C:=.cd T22 (.sq (.rg [.mv 6 (.b false)]) .rt) (.sq (.sq (.rg [.mv 49 T0,.nck 50 T49,.fa 51 T50 0 0 0,.ld 52 T51 kI,.bi 53 .eql T52 (.i 5),.mv 54 T53,.g 54 true (.mv 55 T1),.pk 56 T54 T55 (.b false),.mv 48 T56]) w15_ZU) w22_ZU)
def w8_ZU:C:=.kp [0,1,2,22] [] c8_ZU
def c4_ZU:C:=.sq (.bk 0 (.sq (.rg [.mv 23 T0,.nck 24 T23,.fa 25 T24 0 0 0,.ld 26 T25 kI,.bi 27 .lss T26 (.i 1),.mv 28 T27,.g 28 false (.mv 29 T0),.g 28 false (.nck 30 T29),.g 28 false (.fa 31 T30 0 0 0),.g 28 false (.ld 32 T31 kI),.g 28 false (.bi 33 .gtr T32 (.i 5)),.pk 34 T28 (.b true) T33,.mv 35 T34,.g 35 false (.mv 36 T2),.g 35 false (.bi 37 .gtr T36 (.i 7)),.pk 38 T35 (.b true) T37,.mv 39 T38,.g 39 false (.mv 40 T0),.g 39 false (.nck 41 T40),.g 39 false (.fa 42 T41 0 2 2),.g 39 false (.ld 43 T42 (kL (kR 0))),.g 39 false (.ln 44 false T43),.g 39 false (.mv 45 T7),.g 39 false (.bi 46 .neq T44 T45),.pk 47 T39 (.b true) T46,.mv 22 T47]) w8_ZU)) c27_ZU
def w4_ZU:C:=.kp [0,1,2,7] [] c4_ZU
def ir_ZU:C:=.sq (.rg [.mv 6 (.b false)]) (.sq (.dr [10] [.mm 10 kI kI,.mu T10 (.i 4) (.i 1) kI kI,.mu T10 (.i 5) (.i 2) kI kI,.mv 11 T0,.nck 12 T11,.fa 13 T12 0 1 1,.ld 14 T13 (kL kS),.ln 15 false T14,.mu T10 (.i 3) T15 kI kI,.mv 16 T10,.mv 17 T0,.nck 18 T17,.fa 19 T18 0 0 0,.ld 20 T19 kI] [.ml 21 T16 T20 kI kI false,.mv 7 T21]) w4_ZU)
noncomputable def B_ZU(nf:Nat):XT:=[e_ZL nf]
noncomputable def G_ZU(nf:Nat):Nat->XT
 |0=>[]
 |kf+1=>[eF 97 [.p (kR 0),.v .bool,.v kI] [.v .bool] (fun t=>(fun(t:Ty) (plain:Bool) (deep:Int)=>runF (G_ZU nf kf++B_ZU nf) nf [.p (kR 0),.v .bool,.v kI] [.t 6 (.v .bool)] ir_ZU (t,plain,deep,())) t.1 t.2.1 t.2.2.1)]
noncomputable abbrev T_ZU(nf kf:Nat):XT:=G_ZU nf kf++B_ZU nf
noncomputable def m_ZU(nf kf:Nat)(t:Ty)(plain:Bool)(deep:Int):Option (Bool):=runF (T_ZU nf kf) nf [.p (kR 0),.v .bool,.v kI] [.t 6 (.v .bool)] ir_ZU (t,plain,deep,())
noncomputable def X_ZU{R:Type}(nf kf:Nat):C->Env->(Xt->Env->Option R)->Option R:=xc (R:=R) (T_ZU nf kf).S nf
noncomputable def j19_ZU(nf kf:Nat)(t:Ty)(plain:Bool)(deep:Int)(x48_19:Bool):Option (Bool):=X_ZU nf kf c19_ZU ⟨[(0,.v (.ptr (kR 0)) (some t)),(1,.v .bool plain),(2,.v kI deep),(48,.v .bool x48_19)],[]⟩ (qS (X_ZU nf kf w22_ZU) (qB 0 (qS (X_ZU nf kf c27_ZU) (KF [.t 6 (.v .bool)]))))
noncomputable def j15_ZU(nf kf:Nat)(t:Ty)(plain:Bool)(deep:Int)(x48_15:Bool):Option (Bool):=X_ZU nf kf c15_ZU ⟨[(0,.v (.ptr (kR 0)) (some t)),(1,.v .bool plain),(2,.v kI deep),(48,.v .bool x48_15)],[]⟩ (qS (X_ZU nf kf w22_ZU) (qB 0 (qS (X_ZU nf kf c27_ZU) (KF [.t 6 (.v .bool)]))))
noncomputable def j22_ZU(nf kf:Nat)(t:Ty)(plain:Bool)(deep:Int)(x48_22:Bool):Option (Bool):=X_ZU nf kf c22_ZU ⟨[(0,.v (.ptr (kR 0)) (some t)),(1,.v .bool plain),(2,.v kI deep),(48,.v .bool x48_22)],[]⟩ (qB 0 (qS (X_ZU nf kf c27_ZU) (KF [.t 6 (.v .bool)])))
noncomputable def j8_ZU(nf kf:Nat)(t:Ty)(plain:Bool)(deep:Int)(x22_8:Bool):Option (Bool):=X_ZU nf kf c8_ZU ⟨[(0,.v (.ptr (kR 0)) (some t)),(1,.v .bool plain),(2,.v kI deep),(22,.v .bool x22_8)],[]⟩ (qB 0 (qS (X_ZU nf kf c27_ZU) (KF [.t 6 (.v .bool)])))
noncomputable def l33_ZU(nf kf:Nat)(m33:Nat)(t:Ty)(deep:Int)(x8_29:Bool)(x103_33:Int):Option (Bool):=xit [0,2,8,102,103] [] (X_ZU nf kf c34_ZU) (qB 1 (qS (X_ZU nf kf c52_ZU) (KF [.t 6 (.v .bool)]))) m33 ⟨[(0,.v (.ptr (kR 0)) (some t)),(2,.v kI deep),(8,.v .bool x8_29),(102,.v kI (List.length t.args:Int)),(103,.v kI x103_33)],[]⟩
noncomputable def j29_ZU(nf kf:Nat)(t:Ty)(deep:Int)(x8_29:Bool):Option (Bool):=X_ZU nf kf c29_ZU ⟨[(0,.v (.ptr (kR 0)) (some t)),(2,.v kI deep),(8,.v .bool x8_29)],[]⟩ (KF [.t 6 (.v .bool)])
noncomputable def j4_ZU(nf kf:Nat)(t:Ty)(plain:Bool)(deep:Int)(x7_4:Int):Option (Bool):=X_ZU nf kf c4_ZU ⟨[(0,.v (.ptr (kR 0)) (some t)),(1,.v .bool plain),(2,.v kI deep),(7,.v kI x7_4)],[]⟩ (KF [.t 6 (.v .bool)])
theorem j19_ZU_eq(nf kf:Nat)(t:Ty)(plain:Bool)(deep:Int)(x48_19:Bool):j19_ZU nf (kf+1) t plain deep x48_19=(br x48_19 (mark (j22_ZU nf (kf+1) t plain deep x48_19)) (br ((!(t.kind==(3:Int)))==true) (mark (j22_ZU nf (kf+1) t plain deep (decide ((0:Int)<(List.length t.labels:Int))))) (mark (j22_ZU nf (kf+1) t plain deep false)))):=by
 unfold j19_ZU j22_ZU c19_ZU c27_ZU w22_ZU w29_ZU
 generalize c22_ZU=x0
 generalize c29_ZU=x1
 revert x0 x1
 refine id ?_
 intro x0 x1
 kernel_rfl
theorem j15_ZU_eq(nf kf:Nat)(t:Ty)(plain:Bool)(deep:Int)(x48_15:Bool):j15_ZU nf (kf+1) t plain deep x48_15=(br x48_15 (mark (j22_ZU nf (kf+1) t plain deep x48_15)) (br ((t.kind==(3:Int))==true) (cb (m_ZL nf t.labels) fun r67=>mark (j19_ZU nf (kf+1) t plain deep (!r67))) (mark (j19_ZU nf (kf+1) t plain deep false)))):=by
 unfold j15_ZU j22_ZU j19_ZU c15_ZU c27_ZU w22_ZU w19_ZU w29_ZU
 generalize c22_ZU=x0
 generalize c19_ZU=x1
 generalize c29_ZU=x2
 revert x0 x1 x2
 refine id ?_
 intro x0 x1 x2
 kernel_rfl
theorem j22_ZU_eq(nf kf:Nat)(t:Ty)(plain:Bool)(deep:Int)(x48_22:Bool):j22_ZU nf (kf+1) t plain deep x48_22=(br x48_22 (some false) (br (plain==false) (br ((t.kind==(3:Int))==false) (mark (j29_ZU nf (kf+1) t deep (t.kind==(4:Int)))) (mark (j29_ZU nf (kf+1) t deep true))) (mark (j29_ZU nf (kf+1) t deep true)))):=by
 unfold j22_ZU j29_ZU c22_ZU c27_ZU w29_ZU
 generalize c29_ZU=x0
 revert x0
 refine id ?_
 intro x0
 kernel_rfl
theorem j8_ZU_eq(nf kf:Nat)(t:Ty)(plain:Bool)(deep:Int)(x22_8:Bool):j8_ZU nf (kf+1) t plain deep x22_8=(br x22_8 (some false) (br ((t.kind==(5:Int))==true) (mark (j15_ZU nf (kf+1) t plain deep plain)) (mark (j15_ZU nf (kf+1) t plain deep false)))):=by
 unfold j8_ZU j15_ZU c8_ZU c27_ZU w15_ZU w22_ZU w29_ZU
 generalize c15_ZU=x0
 generalize c22_ZU=x1
 generalize c29_ZU=x2
 revert x0 x1 x2
 refine id ?_
 intro x0 x1 x2
 kernel_rfl
theorem l33_ZU_eq(nf kf:Nat)(m33:Nat)(t:Ty)(deep:Int)(x8_29:Bool)(x103_33:Int):l33_ZU nf (kf+1) (m33+1) t deep x8_29 x103_33=(br (decide (x103_33<(List.length t.args:Int))) (gg (0<=x103_33∧x103_33<(List.length t.args:Int))<|cb (m_ZU nf kf (gt t.args x103_33 Ty.zero) x8_29 (w64 (deep+(1:Int)))) fun r115=>br (!r115) (some false) (mark (l33_ZU nf (kf+1) m33 t deep x8_29 (w64 (x103_33+(1:Int)))))) (some true)):=by kernel_rfl
theorem j29_ZU_eq(nf kf:Nat)(t:Ty)(deep:Int)(x8_29:Bool):j29_ZU nf (kf+1) t deep x8_29=(mark (l33_ZU nf (kf+1) nf t deep x8_29 (0:Int))):=by kernel_rfl
theorem j4_ZU_eq(nf kf:Nat)(t:Ty)(plain:Bool)(deep:Int)(x7_4:Int):j4_ZU nf (kf+1) t plain deep x7_4=(br ((decide (t.kind<(1:Int)))==false) (br ((decide ((5:Int)<t.kind))==false) (br ((decide ((7:Int)<deep))==false) (mark (j8_ZU nf (kf+1) t plain deep (!((List.length t.args:Int)==x7_4)))) (mark (j8_ZU nf (kf+1) t plain deep true))) (mark (j8_ZU nf (kf+1) t plain deep true))) (mark (j8_ZU nf (kf+1) t plain deep true))):=by
 unfold j4_ZU j8_ZU c4_ZU w8_ZU c27_ZU w29_ZU
 generalize c8_ZU=x0
 generalize c29_ZU=x1
 revert x0 x1
 refine id ?_
 intro x0 x1
 kernel_rfl
theorem m_ZU_eq(nf kf:Nat)(t:Ty)(plain:Bool)(deep:Int):m_ZU nf (kf+1) t plain deep=(mark (j4_ZU nf (kf+1) t plain deep (mgt (kk:=kI) (vk:=kI) (mset (kk:=kI) (vk:=kI) (mset (kk:=kI) (vk:=kI) (mset (kk:=kI) (vk:=kI) [] (4:Int) (1:Int)) (5:Int) (2:Int)) (3:Int) (List.length t.labels:Int)) t.kind))):=by
 unfold m_ZU j4_ZU ir_ZU w4_ZU
 generalize c4_ZU=x0
 revert x0
 refine id ?_
 intro x0
 kernel_rfl
noncomputable def e_ZU(nf:Nat):XE:=eF 97 [.p (kR 0),.v .bool,.v kI] [.v .bool] (fun t=>m_ZU nf nf t.1 t.2.1 t.2.2.1)
theorem gok_ZU(nf:Nat):∀kf:Nat,XT.ok Tryz.prog (G_ZU nf kf++B_ZU nf)
 |0=>by exact⟨o_ZL nf,trivial⟩
 |kf+1=>by
  have ih:=gok_ZU nf kf
  refine⟨?_,(by exact⟨o_ZL nf,trivial⟩)⟩
  ·refine eF_ok fun t x h=> ?_
   obtain⟨t,plain,deep,_⟩:=t
   exact runF_ok (N:=118) ih Tryz.func97 (by kernel_rfl) rfl h
theorem o_ZU(nf:Nat):conOK Tryz.prog 97 (e_ZU nf).con:=by
 have ih:=gok_ZU nf nf
 refine eF_ok fun t x h=> ?_
 obtain⟨t,plain,deep,_⟩:=t
 exact runF_ok (N:=118) ih Tryz.func97 (by kernel_rfl) rfl h
def ir_Zt:C:=.sq (.rg [.bx 1 T0 (kR 0),.mv 2 (.b false)]) (.sq (.rg [.cv (some 3) 97 [(T1,.v (.ptr (kR 0))),((.b false),.v .bool),((.i 1),.v kI)],.mv 4 T3,.g 4 true (.ld 5 T1 (kR 0)),.g 4 true (.cv (some 6) 98 [(T5,.v (kR 0))]),.g 4 true (.bi 7 .leq T6 (.i 24)),.pk 8 T4 T7 (.b false),.mv 2 T8]) .rt)
noncomputable abbrev T_Zt(nf:Nat):XT:=[e_ZU nf,e_Zw nf]
noncomputable def m_Zt(nf:Nat)(t:Ty):Option (Bool):=runF (T_Zt nf) nf [.v (kR 0)] [.t 2 (.v .bool)] ir_Zt (t,())
theorem m_Zt_eq(nf:Nat)(t:Ty):m_Zt nf t=(cb (m_ZU nf nf (Ty.h t) false (1:Int)) fun r3=>br (r3==true) (cb (m_Zw nf nf (Ty.h t)) fun r6=>some (decide (r6<=(24:Int)))) (some false)):=by kernel_rfl
noncomputable def e_Zt(nf:Nat):XE:=eF 118 [.v (kR 0)] [.v .bool] (fun t=>m_Zt nf t.1)
theorem o_Zt(nf:Nat):conOK Tryz.prog 118 (e_Zt nf).con:=by
 have ih:XT.ok Tryz.prog (T_Zt nf):=by exact⟨o_ZU nf,o_Zw nf,trivial⟩
 refine eF_ok fun t x h=> ?_
 obtain⟨t,_⟩:=t
 exact runF_ok (N:=9) ih Tryz.func118 (by kernel_rfl) rfl h
def ir_Zm:C:=.sq (.rg [.bx 1 T0 (kR 0),.mv 2 (.b false)]) (.sq (.rg [.cv (some 3) 97 [(T1,.v (.ptr (kR 0))),((.b true),.v .bool),((.i 1),.v kI)],.mv 4 T3,.g 4 true (.ld 5 T1 (kR 0)),.g 4 true (.cv (some 6) 98 [(T5,.v (kR 0))]),.g 4 true (.bi 7 .leq T6 (.i 24)),.pk 8 T4 T7 (.b false),.mv 2 T8]) .rt)
noncomputable abbrev T_Zm(nf:Nat):XT:=[e_ZU nf,e_Zw nf]
noncomputable def m_Zm(nf:Nat)(t:Ty):Option (Bool):=runF (T_Zm nf) nf [.v (kR 0)] [.t 2 (.v .bool)] ir_Zm (t,())
theorem m_Zm_eq(nf:Nat)(t:Ty):m_Zm nf t=(cb (m_ZU nf nf (Ty.h t) true (1:Int)) fun r3=>br (r3==true) (cb (m_Zw nf nf (Ty.h t)) fun r6=>some (decide (r6<=(24:Int)))) (some false)):=by kernel_rfl
noncomputable def e_Zm(nf:Nat):XE:=eF 56 [.v (kR 0)] [.v .bool] (fun t=>m_Zm nf t.1)
theorem o_Zm(nf:Nat):conOK Tryz.prog 56 (e_Zm nf).con:=by
 have ih:XT.ok Tryz.prog (T_Zm nf):=by exact⟨o_ZU nf,o_Zw nf,trivial⟩
 refine eF_ok fun t x h=> ?_
 obtain⟨t,_⟩:=t
 exact runF_ok (N:=9) ih Tryz.func56 (by kernel_rfl) rfl h
def ir_ZH:C:=.sq (.rg [.bx 1 T0 (kR 0),.mv 2 (.b false)]) (.sq (.rg [.fa 3 T1 0 0 0,.ld 4 T3 kI,.bi 5 .eql T4 (.i 1),.mv 6 T5,.g 6 false (.fa 7 T1 0 0 0),.g 6 false (.ld 8 T7 kI),.g 6 false (.bi 9 .eql T8 (.i 2)),.pk 10 T6 (.b true) T9,.mv 2 T10]) .rt)
noncomputable abbrev T_ZH(nf:Nat):XT:=[]
noncomputable def m_ZH(nf:Nat)(t:Ty):Option (Bool):=runF (T_ZH nf) nf [.v (kR 0)] [.t 2 (.v .bool)] ir_ZH (t,())
theorem m_ZH_eq(nf:Nat)(t:Ty):m_ZH nf t=(br ((t.kind==(1:Int))==false) (some (t.kind==(2:Int))) (some true)):=by kernel_rfl
noncomputable def e_ZH(nf:Nat):XE:=eF 121 [.v (kR 0)] [.v .bool] (fun t=>m_ZH nf t.1)
theorem o_ZH(nf:Nat):conOK Tryz.prog 121 (e_ZH nf).con:=by
 have ih:XT.ok Tryz.prog (T_ZH nf):=by exact trivial
 refine eF_ok fun t x h=> ?_
 obtain⟨t,_⟩:=t
 exact runF_ok (N:=11) ih Tryz.func121 (by kernel_rfl) rfl h
def ir_Zr:C:=.sq (.rg [.bx 1 T0 (kR 0),.mv 2 (.b false)]) (.sq (.rg [.ld 3 T1 (kR 0),.cv (some 4) 121 [(T3,.v (kR 0))],.un 5 .not T4,.mv 2 T5]) .rt)
noncomputable abbrev T_Zr(nf:Nat):XT:=[e_ZH nf]
noncomputable def m_Zr(nf:Nat)(t:Ty):Option (Bool):=runF (T_Zr nf) nf [.v (kR 0)] [.t 2 (.v .bool)] ir_Zr (t,())
theorem m_Zr_eq(nf:Nat)(t:Ty):m_Zr nf t=(cb (m_ZH nf (Ty.h t)) fun r4=>some (!r4)):=by kernel_rfl
noncomputable def e_Zr(nf:Nat):XE:=eF 120 [.v (kR 0)] [.v .bool] (fun t=>m_Zr nf t.1)
theorem o_Zr(nf:Nat):conOK Tryz.prog 120 (e_Zr nf).con:=by
 have ih:XT.ok Tryz.prog (T_Zr nf):=by exact⟨o_ZH nf,trivial⟩
 refine eF_ok fun t x h=> ?_
 obtain⟨t,_⟩:=t
 exact runF_ok (N:=6) ih Tryz.func120 (by kernel_rfl) rfl h
def c25_Ze:C:=.sq (.rg [.mv 4 (.i (-1))]) .rt
def c7_Ze:C:=.sq (.rg [.bi 9 .lss T8 T7]) (.sq (.cd T9 .skip (.ex 0)) (.sq (.bk 1 (.sq (.rg [.mv 10 T8,.mv 5 T10]) (.sq (.rg [.mv 11 T1,.mv 12 T0,.mv 13 T5,.ia 14 T12 T13 (kR 0),.ld 15 T14 (kR 0),.cf (some 16) T11 [(T15,.v (kR 0))]]) (.cd T16 (.sq (.rg [.mv 17 T5,.mv 4 T17]) .rt) .skip)))) (.rg [.bi 18 .add T8 (.i 1),.mv 8 T18])))
def ir_Ze:C:=.sq (.rg [.mv 4 (.i 0)]) (.sq (.sq (.rg [.mv 6 T0,.ln 7 false T6,.mv 8 (.i 0)]) (.bk 0 (.lk [0,1,7,8] [] c7_Ze))) c25_Ze)
noncomputable abbrev T_Ze(nf:Nat):XT:=[e_Zr nf]
noncomputable def m_Ze(nf:Nat)(s:List Ty):Option (Int):=runF (T_Ze nf) nf [.v (kL (kR 0)),.fn 120 []] [.t 4 (.v kI)] ir_Ze (s,(()),())
noncomputable def X_Ze{R:Type}(nf:Nat):C->Env->(Xt->Env->Option R)->Option R:=xc (R:=R) (T_Ze nf).S nf
noncomputable def l6_Ze(nf:Nat)(m6:Nat)(s:List Ty)(x8_6:Int):Option (Int):=xit [0,1,7,8] [] (X_Ze nf c7_Ze) (qB 0 (qS (X_Ze nf c25_Ze) (KF [.t 4 (.v kI)]))) m6 ⟨[(0,.v (kL (kR 0)) s),(1,.fn 120 []),(7,.v kI (List.length s:Int)),(8,.v kI x8_6)],[]⟩
theorem l6_Ze_eq(nf:Nat)(m6:Nat)(s:List Ty)(x8_6:Int):l6_Ze nf (m6+1) s x8_6=(br (decide (x8_6<(List.length s:Int))) (gg (0<=x8_6∧x8_6<(List.length s:Int))<|cb (m_Zr nf (gt s x8_6 Ty.zero)) fun r16=>br r16 (some x8_6) (mark (l6_Ze nf m6 s (w64 (x8_6+(1:Int)))))) (some (-1:Int))):=by kernel_rfl
theorem m_Ze_eq(nf:Nat)(s:List Ty):m_Ze nf s=(mark (l6_Ze nf nf s (0:Int))):=by kernel_rfl
noncomputable def e_Ze(nf:Nat):XE:=eF 152 [.v (kL (kR 0)),.fn 120 []] [.v kI] (fun t=>m_Ze nf t.1)
theorem o_Ze(nf:Nat):conOK Tryz.prog 152 (e_Ze nf).con:=by
 have ih:XT.ok Tryz.prog (T_Ze nf):=by exact⟨o_Zr nf,trivial⟩
 refine eF_ok fun t x h=> ?_
 obtain⟨s,_,_⟩:=t
 exact runF_ok (N:=19) ih Tryz.func152 (by kernel_rfl) rfl h
def ir_Za:C:=.sq (.rg [.mv 4 (.b false)]) (.sq (.rg [.mv 5 T0,.mv 6 T1,.cv (some 7) 152 [(T5,.v (kL (kR 0))),(T6,.fn)],.bi 8 .geq T7 (.i 0),.mv 4 T8]) .rt)
noncomputable abbrev T_Za(nf:Nat):XT:=[e_Ze nf]
noncomputable def m_Za(nf:Nat)(s:List Ty):Option (Bool):=runF (T_Za nf) nf [.v (kL (kR 0)),.fn 120 []] [.t 4 (.v .bool)] ir_Za (s,(()),())
theorem m_Za_eq(nf:Nat)(s:List Ty):m_Za nf s=(cb (m_Ze nf s) fun r7=>some (decide ((0:Int)<=r7))):=by kernel_rfl
noncomputable def e_Za(nf:Nat):XE:=eF 119 [.v (kL (kR 0)),.fn 120 []] [.v .bool] (fun t=>m_Za nf t.1)
theorem o_Za(nf:Nat):conOK Tryz.prog 119 (e_Za nf).con:=by
 have ih:XT.ok Tryz.prog (T_Za nf):=by exact⟨o_Ze nf,trivial⟩
 refine eF_ok fun t x h=> ?_
 obtain⟨s,_,_⟩:=t
 exact runF_ok (N:=9) ih Tryz.func119 (by kernel_rfl) rfl h
def ir_Zq:C:=.sq (.rg [.bx 1 T0 (kR 0),.mv 2 (.b false)]) (.sq (.rg [.ld 3 T1 (kR 0),.cv (some 4) 118 [(T3,.v (kR 0))],.mv 5 T4,.g 5 true (.fa 6 T1 0 0 0),.g 5 true (.ld 7 T6 kI),.g 5 true (.bi 8 .eql T7 (.i 3)),.pk 9 T5 T8 (.b false),.mv 10 T9,.g 10 true (.fa 11 T1 0 2 2),.g 10 true (.ld 12 T11 (kL (kR 0))),.g 10 true (.cv (some 13) 119 [(T12,.v (kL (kR 0))),((.f 120),.fn)]),.g 10 true (.un 14 .not T13),.pk 15 T10 T14 (.b false),.mv 2 T15]) .rt)
noncomputable abbrev T_Zq(nf:Nat):XT:=[e_Zt nf,e_Za nf]
noncomputable def m_Zq(nf:Nat)(t:Ty):Option (Bool):=runF (T_Zq nf) nf [.v (kR 0)] [.t 2 (.v .bool)] ir_Zq (t,())
theorem m_Zq_eq(nf:Nat)(t:Ty):m_Zq nf t=(cb (m_Zt nf (Ty.h t)) fun r4=>br (r4==true) (br ((t.kind==(3:Int))==true) (cb (m_Za nf t.args) fun r13=>some (!r13)) (some false)) (some false)):=by kernel_rfl
noncomputable def e_Zq(nf:Nat):XE:=eF 80 [.v (kR 0)] [.v .bool] (fun t=>m_Zq nf t.1)
theorem o_Zq(nf:Nat):conOK Tryz.prog 80 (e_Zq nf).con:=by
 have ih:XT.ok Tryz.prog (T_Zq nf):=by exact⟨o_Zt nf,o_Za nf,trivial⟩
 refine eF_ok fun t x h=> ?_
 obtain⟨t,_⟩:=t
 exact runF_ok (N:=16) ih Tryz.func80 (by kernel_rfl) rfl h
def c25_Zs:C:=.sq (.rg [.fa 40 T1 5 0 0,.ld 41 T40 (kL (kR 4)),.ln 42 false T41,.bi 43 .leq T42 (.i 4),.mv 2 T43]) .rt
def c24_Zs:C:=.rg [.bi 39 .add T8 (.i 1),.mv 8 T39]
def c19_Zs:C:=.cd T38 (.sq (.rg [.mv 2 (.b false)]) .rt) .skip
def w19_Zs:C:=.kp [1,6,7,8,38] [[1]] c19_Zs
def c7_Zs:C:=.sq (.rg [.bi 9 .lss T8 T7]) (.sq (.cd T9 .skip (.ex 0)) (.sq (.bk 1 (.sq (.rg [.mv 10 T8,.ia 11 T6 T8 (kR 4),.ld 12 T11 (kR 4),.al 4 (kR 4),.mv 3 T10,.st T4 T12 (kR 4)]) (.sq (.dr [] [.fa 13 T4 4 0 0,.ld 14 T13 kS,.cv (some 15) 79 [(T14,.v kS)],.un 16 .not T15,.mv 17 T16,.g 17 false (.fa 18 T4 4 1 1),.g 17 false (.ld 19 T18 (kR 0)),.g 17 false (.cv (some 20) 80 [(T19,.v (kR 0))]),.g 17 false (.un 21 .not T20),.pk 22 T17 (.b true) T21,.mv 23 T22,.g 23 false (.mv 24 T3),.g 23 false (.bi 25 .gtr T24 (.i 0)),.g 23 false (.mv 26 T25),.g 26 true (.fa 27 T1 5 0 0),.g 26 true (.ld 28 T27 (kL (kR 4))),.g 26 true (.mv 29 T3),.g 26 true (.bi 30 .sub T29 (.i 1)),.g 26 true (.ia 31 T28 T30 (kR 4)),.g 26 true (.fa 32 T31 4 0 0),.g 26 true (.ld 33 T32 kS),.g 26 true (.fa 34 T4 4 0 0),.g 26 true (.ld 35 T34 kS)] [.g 26 true (.bi 36 .geq T33 T35),.g 23 false (.pk 37 T26 T36 (.b false)),.pk 38 T23 (.b true) T37]) w19_Zs))) c24_Zs))
def ir_Zs:C:=.sq (.rg [.bx 1 T0 (kR 5),.mv 2 (.b false)]) (.sq (.sq (.rg [.fa 5 T1 5 0 0,.ld 6 T5 (kL (kR 4)),.ln 7 false T6,.mv 8 (.i 0)]) (.bk 0 (.lk [1,6,7,8] [[1]] c7_Zs))) c25_Zs)
noncomputable abbrev T_Zs(nf:Nat):XT:=[e_Zp nf,e_Zq nf]
noncomputable def m_Zs(nf:Nat)(s:Schema):Option (Bool):=runF (T_Zs nf) nf [.v (kR 5)] [.t 2 (.v .bool)] ir_Zs (s,())
noncomputable def X_Zs{R:Type}(nf:Nat):C->Env->(Xt->Env->Option R)->Option R:=xc (R:=R) (T_Zs nf).S nf
noncomputable def j19_Zs(nf:Nat)(m6:Nat)(s:Schema)(x8_6:Int)(x38_19:Bool):Option (Bool):=X_Zs nf c19_Zs ⟨[(1,.pt [1] 0),(6,.v (kL (kR 4)) s.tables),(7,.v kI (List.length s.tables:Int)),(8,.v kI x8_6),(38,.v .bool x38_19)],[([1],.box [.v (kL (kR 4)) s.tables])]⟩ (qB 1 (qS (X_Zs nf c24_Zs) (qM [1,6,7,8] [[1]] (X_Zs nf c7_Zs) m6 (qB 0 (qS (X_Zs nf c25_Zs) (KF [.t 2 (.v .bool)]))))))
noncomputable def l6_Zs(nf:Nat)(m6:Nat)(s:Schema)(x8_6:Int):Option (Bool):=xit [1,6,7,8] [[1]] (X_Zs nf c7_Zs) (qB 0 (qS (X_Zs nf c25_Zs) (KF [.t 2 (.v .bool)]))) m6 ⟨[(1,.pt [1] 0),(6,.v (kL (kR 4)) s.tables),(7,.v kI (List.length s.tables:Int)),(8,.v kI x8_6)],[([1],.box [.v (kL (kR 4)) s.tables])]⟩
theorem j19_Zs_eq(nf:Nat)(m6:Nat)(s:Schema)(x8_6:Int)(x38_19:Bool):j19_Zs nf m6 s x8_6 x38_19=(br x38_19 (some false) (mark (l6_Zs nf m6 s (w64 (x8_6+(1:Int)))))):=by kernel_rfl
theorem l6_Zs_eq(nf:Nat)(m6:Nat)(s:Schema)(x8_6:Int):l6_Zs nf (m6+1) s x8_6=(br (decide (x8_6<(List.length s.tables:Int))) (gg (0<=x8_6∧x8_6<(List.length s.tables:Int))<|cb (m_Zp nf ((gt s.tables x8_6 TDecl.zero).name)) fun r15=>br ((!r15)==false) (cb (m_Zq nf (Ty.h ((gt s.tables x8_6 TDecl.zero).row))) fun r20=>br ((!r20)==false) (br ((decide ((0:Int)<x8_6))==true) (gg (0<=(w64 (x8_6-(1:Int)))∧(w64 (x8_6-(1:Int)))<(List.length s.tables:Int))<|mark (j19_Zs nf m6 s x8_6 (!(Op.bytesLess ((gt s.tables (w64 (x8_6-(1:Int))) TDecl.zero).name) ((gt s.tables x8_6 TDecl.zero).name))))) (mark (j19_Zs nf m6 s x8_6 false))) (mark (j19_Zs nf m6 s x8_6 true))) (mark (j19_Zs nf m6 s x8_6 true))) (some (decide ((List.length s.tables:Int)<=(4:Int))))):=by
 unfold l6_Zs j19_Zs c7_Zs c25_Zs w19_Zs c24_Zs
 generalize c19_Zs=x0
 revert x0
 refine id ?_
 intro x0
 kernel_rfl
theorem m_Zs_eq(nf:Nat)(s:Schema):m_Zs nf s=(mark (l6_Zs nf nf s (0:Int))):=by kernel_rfl
noncomputable def e_Zs(nf:Nat):XE:=eF 39 [.v (kR 5)] [.v .bool] (fun t=>m_Zs nf t.1)
theorem o_Zs(nf:Nat):conOK Tryz.prog 39 (e_Zs nf).con:=by
 have ih:XT.ok Tryz.prog (T_Zs nf):=by exact⟨o_Zp nf,o_Zq nf,trivial⟩
 refine eF_ok fun t x h=> ?_
 obtain⟨s,_⟩:=t
 exact runF_ok (N:=44) ih Tryz.func39 (by kernel_rfl) rfl h
def c39_Zu:C:=.sq (.rg [.mv 2 (.i 0)]) .rt
def c28_Zu:C:=.cd T4 (.sq (.rg [.mv 2 (.i 2)]) .rt) (.sq (.rg [.bi 12 .eql T3 (.s [33]),.mv 11 T12]) (.cd T11 (.sq (.rg [.mv 2 (.i 1)]) .rt) .skip))
def w28_Zu:C:=.kp [3,4] [] c28_Zu
def ir_Zu:C:=.sq (.rg [.mv 2 (.i 0)]) (.sq (.sq (.rg [.mv 3 T0]) (.bk 0 (.sq (.sq (.rg [.bi 5 .eql T3 (.s [43]),.mv 4 T5]) (.cd T4 .skip (.sq (.rg [.bi 6 .eql T3 (.s [45]),.mv 4 T6]) (.cd T4 .skip (.sq (.rg [.bi 7 .eql T3 (.s [61]),.mv 4 T7]) (.cd T4 .skip (.sq (.rg [.bi 8 .eql T3 (.s [60]),.mv 4 T8]) (.cd T4 .skip (.sq (.rg [.bi 9 .eql T3 (.s [38]),.mv 4 T9]) (.cd T4 .skip (.rg [.bi 10 .eql T3 (.s [124]),.mv 4 T10]))))))))))) w28_Zu))) c39_Zu)
noncomputable abbrev T_Zu(nf:Nat):XT:=[]
noncomputable def m_Zu(nf:Nat)(op:Str):Option (Int):=runF (T_Zu nf) nf [.v kS] [.t 2 (.v kI)] ir_Zu (op,())
noncomputable def X_Zu{R:Type}(nf:Nat):C->Env->(Xt->Env->Option R)->Option R:=xc (R:=R) (T_Zu nf).S nf
noncomputable def j28_Zu(nf:Nat)(op:Str)(x4_28:Bool):Option (Int):=X_Zu nf c28_Zu ⟨[(3,.v kS op),(4,.v .bool x4_28)],[]⟩ (qB 0 (qS (X_Zu nf c39_Zu) (KF [.t 2 (.v kI)])))
theorem j28_Zu_eq(nf:Nat)(op:Str)(x4_28:Bool):j28_Zu nf op x4_28=(br x4_28 (some (2:Int)) (br (op==([33]:Str)) (some (1:Int)) (some (0:Int)))):=by kernel_rfl
theorem m_Zu_eq(nf:Nat)(op:Str):m_Zu nf op=(br (op==([43]:Str)) (mark (j28_Zu nf op (op==([43]:Str)))) (br (op==([45]:Str)) (mark (j28_Zu nf op (op==([45]:Str)))) (br (op==([61]:Str)) (mark (j28_Zu nf op (op==([61]:Str)))) (br (op==([60]:Str)) (mark (j28_Zu nf op (op==([60]:Str)))) (br (op==([38]:Str)) (mark (j28_Zu nf op (op==([38]:Str)))) (mark (j28_Zu nf op (op==([124]:Str))))))))):=by
 unfold m_Zu j28_Zu ir_Zu w28_Zu c39_Zu
 generalize c28_Zu=x0
 revert x0
 refine id ?_
 intro x0
 kernel_rfl
noncomputable def e_Zu(nf:Nat):XE:=eF 192 [.v kS] [.v kI] (fun t=>m_Zu nf t.1)
theorem o_Zu(nf:Nat):conOK Tryz.prog 192 (e_Zu nf).con:=by
 have ih:XT.ok Tryz.prog (T_Zu nf):=by exact trivial
 refine eF_ok fun t x h=> ?_
 obtain⟨op,_⟩:=t
 exact runF_ok (N:=13) ih Tryz.func192 (by kernel_rfl) rfl h
def c93_ZR:C:=.sq (.rg [.mv 2 (.i 0),.mv 3 (.b false),.mv 4 (.b false),.mv 5 (.b false)]) .rt
def c70_ZR:C:=.cd T49 (.sq (.rg [.mv 2 (.i 2),.mv 3 (.b false),.mv 4 (.b false),.mv 5 (.b true)]) .rt) (.sq (.rg [.bi 53 .eql T9 (.i 10),.mv 52 T53]) (.cd T52 (.sq (.rg [.mv 2 (.i 2),.mv 3 (.b true),.mv 4 (.b false),.mv 5 (.b true)]) .rt) (.sq (.rg [.bi 55 .eql T9 (.i 11),.mv 54 T55]) (.cd T54 (.sq (.rg [.mv 2 (.i 3),.mv 3 (.b false),.mv 4 (.b false),.mv 5 (.b true)]) .rt) (.sq (.rg [.bi 57 .eql T9 (.i 13),.mv 56 T57]) (.cd T56 (.sq (.rg [.mv 2 (.i 1),.mv 3 (.b true),.mv 4 (.b true),.mv 5 (.b true)]) .rt) .skip))))))
def w70_ZR:C:=.kp [9,49] [] c70_ZR
def c60_ZR:C:=.cd T45 (.sq (.rg [.mv 2 (.i 1),.mv 3 (.b false),.mv 4 (.b false),.mv 5 (.b true)]) .rt) (.sq (.sq (.rg [.bi 50 .eql T9 (.i 9),.mv 49 T50]) (.cd T49 .skip (.rg [.bi 51 .eql T9 (.i 14),.mv 49 T51]))) w70_ZR)
def w60_ZR:C:=.kp [9,45] [] c60_ZR
def c22_ZR:C:=.cd T13 (.sq (.rg [.mv 2 (.i 0),.mv 3 (.b false),.mv 4 (.b false),.mv 5 (.b true)]) .rt) (.sq (.rg [.bi 17 .eql T9 (.i 4),.mv 16 T17]) (.cd T16 (.sq (.dr [] [.mv 18 T0,.nck 19 T18,.fa 20 T19 2 1 1,.ld 21 T20 kS,.cv (some 22) 192 [(T21,.v kS)],.mv 23 T0,.nck 24 T23,.fa 25 T24 2 1 1,.ld 26 T25 kS,.cv (some 27) 192 [(T26,.v kS)],.bi 28 .gtr T27 (.i 0),.mv 2 T22,.mv 3 (.b true),.mv 4 (.b false)] [.mv 5 T28]) .rt) (.sq (.rg [.bi 30 .eql T9 (.i 5),.mv 29 T30]) (.cd T29 (.sq (.dr [] [.mv 31 T0,.nck 32 T31,.fa 33 T32 2 4 6,.ld 34 T33 (kL kS),.ln 35 false T34,.mv 36 T0,.nck 37 T36,.fa 38 T37 2 4 6,.ld 39 T38 (kL kS),.cv (some 40) 137 [(T39,.v (kL kS))]] [.mv 2 T35,.mv 3 (.b false),.mv 4 (.b false),.mv 5 T40]) .rt) (.sq (.rg [.bi 42 .eql T9 (.i 6),.mv 41 T42]) (.cd T41 (.sq (.rg [.mv 2 (.i 1),.mv 3 (.b true),.mv 4 (.b false),.mv 5 (.b true)]) .rt) (.sq (.rg [.bi 44 .eql T9 (.i 7),.mv 43 T44]) (.cd T43 (.sq (.rg [.mv 2 (.i 0),.mv 3 (.b false),.mv 4 (.b true),.mv 5 (.b true)]) .rt) (.sq (.sq (.rg [.bi 46 .eql T9 (.i 8),.mv 45 T46]) (.cd T45 .skip (.sq (.rg [.bi 47 .eql T9 (.i 15),.mv 45 T47]) (.cd T45 .skip (.rg [.bi 48 .eql T9 (.i 16),.mv 45 T48]))))) w60_ZR)))))))))
def w22_ZR:C:=.kp [0,9,13] [] c22_ZR
def c12_ZR:C:=.cd T10 (.sq (.rg [.mv 2 (.i 0),.mv 3 (.b true),.mv 4 (.b false),.mv 5 (.b true)]) .rt) (.sq (.sq (.rg [.bi 14 .eql T9 (.i 2),.mv 13 T14]) (.cd T13 .skip (.rg [.bi 15 .eql T9 (.i 3),.mv 13 T15]))) w22_ZR)
def w12_ZR:C:=.kp [0,9,10] [] c12_ZR
def ir_ZR:C:=.sq (.rg [.mv 2 (.i 0),.mv 3 (.b false),.mv 4 (.b false),.mv 5 (.b false)]) (.sq (.sq (.rg [.mv 6 T0,.nck 7 T6,.fa 8 T7 2 0 0,.ld 9 T8 kI]) (.bk 0 (.sq (.sq (.rg [.bi 11 .eql T9 (.i 1),.mv 10 T11]) (.cd T10 .skip (.rg [.bi 12 .eql T9 (.i 12),.mv 10 T12]))) w12_ZR))) c93_ZR)
noncomputable abbrev T_ZR(nf:Nat):XT:=[e_Zu nf,e_ZL nf]
noncomputable def m_ZR(nf:Nat)(e:Tm):Option (Int×Bool×Bool×Bool):=runF (T_ZR nf) nf [.p (kR 2)] [.t 2 (.v kI),.t 3 (.v .bool),.t 4 (.v .bool),.t 5 (.v .bool)] ir_ZR (e,())
noncomputable def X_ZR{R:Type}(nf:Nat):C->Env->(Xt->Env->Option R)->Option R:=xc (R:=R) (T_ZR nf).S nf
noncomputable def j70_ZR(nf:Nat)(e:Tm)(x49_70:Bool):Option (Int×Bool×Bool×Bool):=X_ZR nf c70_ZR ⟨[(9,.v kI e.kind),(49,.v .bool x49_70)],[]⟩ (qB 0 (qS (X_ZR nf c93_ZR) (KF [.t 2 (.v kI),.t 3 (.v .bool),.t 4 (.v .bool),.t 5 (.v .bool)])))
noncomputable def j60_ZR(nf:Nat)(e:Tm)(x45_60:Bool):Option (Int×Bool×Bool×Bool):=X_ZR nf c60_ZR ⟨[(9,.v kI e.kind),(45,.v .bool x45_60)],[]⟩ (qB 0 (qS (X_ZR nf c93_ZR) (KF [.t 2 (.v kI),.t 3 (.v .bool),.t 4 (.v .bool),.t 5 (.v .bool)])))
noncomputable def j22_ZR(nf:Nat)(e:Tm)(x13_22:Bool):Option (Int×Bool×Bool×Bool):=X_ZR nf c22_ZR ⟨[(0,.v (.ptr (kR 2)) (some e)),(9,.v kI e.kind),(13,.v .bool x13_22)],[]⟩ (qB 0 (qS (X_ZR nf c93_ZR) (KF [.t 2 (.v kI),.t 3 (.v .bool),.t 4 (.v .bool),.t 5 (.v .bool)])))
noncomputable def j12_ZR(nf:Nat)(e:Tm)(x10_12:Bool):Option (Int×Bool×Bool×Bool):=X_ZR nf c12_ZR ⟨[(0,.v (.ptr (kR 2)) (some e)),(9,.v kI e.kind),(10,.v .bool x10_12)],[]⟩ (qB 0 (qS (X_ZR nf c93_ZR) (KF [.t 2 (.v kI),.t 3 (.v .bool),.t 4 (.v .bool),.t 5 (.v .bool)])))
theorem j70_ZR_eq(nf:Nat)(e:Tm)(x49_70:Bool):j70_ZR nf e x49_70=(br x49_70 (some ((2:Int),false,false,true)) (br (e.kind==(10:Int)) (some ((2:Int),true,false,true)) (br (e.kind==(11:Int)) (some ((3:Int),false,false,true)) (br (e.kind==(13:Int)) (some ((1:Int),true,true,true)) (some ((0:Int),false,false,false)))))):=by kernel_rfl
theorem j60_ZR_eq(nf:Nat)(e:Tm)(x45_60:Bool):j60_ZR nf e x45_60=(br x45_60 (some ((1:Int),false,false,true)) (br (e.kind==(9:Int)) (mark (j70_ZR nf e (e.kind==(9:Int)))) (mark (j70_ZR nf e (e.kind==(14:Int)))))):=by
 unfold j60_ZR j70_ZR c60_ZR c93_ZR w70_ZR
 generalize c70_ZR=x0
 revert x0
 refine id ?_
 intro x0
 kernel_rfl
theorem j22_ZR_eq(nf:Nat)(e:Tm)(x13_22:Bool):j22_ZR nf e x13_22=(br x13_22 (some ((0:Int),false,false,true)) (br (e.kind==(4:Int)) (cb (m_Zu nf e.name) fun r22=>cb (m_Zu nf e.name) fun r27=>some (r22,true,false,(decide ((0:Int)<r27)))) (br (e.kind==(5:Int)) (cb (m_ZL nf e.labels) fun r40=>some ((List.length e.labels:Int),false,false,r40)) (br (e.kind==(6:Int)) (some ((1:Int),true,false,true)) (br (e.kind==(7:Int)) (some ((0:Int),false,true,true)) (br (e.kind==(8:Int)) (mark (j60_ZR nf e (e.kind==(8:Int)))) (br (e.kind==(15:Int)) (mark (j60_ZR nf e (e.kind==(15:Int)))) (mark (j60_ZR nf e (e.kind==(16:Int))))))))))):=by
 unfold j22_ZR j60_ZR c22_ZR c93_ZR w60_ZR
 generalize c60_ZR=x0
 revert x0
 refine id ?_
 intro x0
 kernel_rfl
theorem j12_ZR_eq(nf:Nat)(e:Tm)(x10_12:Bool):j12_ZR nf e x10_12=(br x10_12 (some ((0:Int),true,false,true)) (br (e.kind==(2:Int)) (mark (j22_ZR nf e (e.kind==(2:Int)))) (mark (j22_ZR nf e (e.kind==(3:Int)))))):=by
 unfold j12_ZR j22_ZR c12_ZR c93_ZR w22_ZR
 generalize c22_ZR=x0
 revert x0
 refine id ?_
 intro x0
 kernel_rfl
theorem m_ZR_eq(nf:Nat)(e:Tm):m_ZR nf e=(br (e.kind==(1:Int)) (mark (j12_ZR nf e (e.kind==(1:Int)))) (mark (j12_ZR nf e (e.kind==(12:Int))))):=by
 unfold m_ZR j12_ZR ir_ZR w12_ZR c93_ZR
 generalize c12_ZR=x0
 revert x0
 refine id ?_
 intro x0
 kernel_rfl
noncomputable def e_ZR(nf:Nat):XE:=eF 179 [.p (kR 2)] [.v kI,.v .bool,.v .bool,.v .bool] (fun t=>m_ZR nf t.1)
theorem o_ZR(nf:Nat):conOK Tryz.prog 179 (e_ZR nf).con:=by
 have ih:XT.ok Tryz.prog (T_ZR nf):=by exact⟨o_Zu nf,o_ZL nf,trivial⟩
 refine eF_ok fun t x h=> ?_
 obtain⟨e,_⟩:=t
 exact runF_ok (N:=58) ih Tryz.func179 (by kernel_rfl) rfl h
def ir_ZK:C:=.sq (.rg [.bx 1 T0 (kR 0),.mv 2 (.b false)]) (.sq (.rg [.fa 3 T1 0 0 0,.ld 4 T3 kI,.bi 5 .eql T4 (.i 0),.mv 6 T5,.g 6 true (.fa 7 T1 0 1 1),.g 6 true (.ld 8 T7 (kL kS)),.g 6 true (.ln 9 false T8),.g 6 true (.bi 10 .eql T9 (.i 0)),.pk 11 T6 T10 (.b false),.mv 12 T11,.g 12 true (.fa 13 T1 0 2 2),.g 12 true (.ld 14 T13 (kL (kR 0))),.g 12 true (.ln 15 false T14),.g 12 true (.bi 16 .eql T15 (.i 0)),.pk 17 T12 T16 (.b false),.mv 2 T17]) .rt)
noncomputable abbrev T_ZK(nf:Nat):XT:=[]
noncomputable def m_ZK(nf:Nat)(t:Ty):Option (Bool):=runF (T_ZK nf) nf [.v (kR 0)] [.t 2 (.v .bool)] ir_ZK (t,())
theorem m_ZK_eq(nf:Nat)(t:Ty):m_ZK nf t=(br ((t.kind==(0:Int))==true) (br (((List.length t.labels:Int)==(0:Int))==true) (some ((List.length t.args:Int)==(0:Int))) (some false)) (some false)):=by kernel_rfl
noncomputable def e_ZK(nf:Nat):XE:=eF 180 [.v (kR 0)] [.v .bool] (fun t=>m_ZK nf t.1)
theorem o_ZK(nf:Nat):conOK Tryz.prog 180 (e_ZK nf).con:=by
 have ih:XT.ok Tryz.prog (T_ZK nf):=by exact trivial
 refine eF_ok fun t x h=> ?_
 obtain⟨t,_⟩:=t
 exact runF_ok (N:=18) ih Tryz.func180 (by kernel_rfl) rfl h
def c39_ZO:C:=.sq (.sq (.rg [.mv 124 T5]) (.cd T124 (.sq (.rg [.mv 125 T0,.nck 126 T125,.fa 127 T126 2 3 3,.ld 128 T127 (kR 0),.cv (some 129) 118 [(T128,.v (kR 0))],.mv 2 T129]) .rt) .skip)) (.sq (.rg [.mv 130 T0,.nck 131 T130,.fa 132 T131 2 3 3,.ld 133 T132 (kR 0),.cv (some 134) 180 [(T133,.v (kR 0))],.mv 2 T134]) .rt)
def c34_ZO:C:=.cd T98 (.sq (.rg [.mv 2 (.b false)]) .rt) .skip
def w34_ZO:C:=.kp [0,5,98] [] c34_ZO
def c31_ZO:C:=.cd T98 .skip (.rg [.mv 115 T4,.un 116 .not T115,.mv 117 T116,.g 117 true (.mv 118 T0),.g 117 true (.nck 119 T118),.g 117 true (.fa 120 T119 2 1 1),.g 117 true (.ld 121 T120 kS),.g 117 true (.bi 122 .neq T121 (.s [])),.pk 123 T117 T122 (.b false),.mv 98 T123])
def w31_ZO:C:=.kp [0,4,5,98] [] c31_ZO
def c24_ZO:C:=.cd T40 (.sq (.rg [.mv 2 (.b false)]) .rt) (.sq (.sq (.rg [.mv 99 T4,.mv 100 T99,.g 100 true (.mv 101 T0),.g 100 true (.nck 102 T101),.g 100 true (.fa 103 T102 2 0 0),.g 100 true (.ld 104 T103 kI),.g 100 true (.bi 105 .neq T104 (.i 4)),.pk 106 T100 T105 (.b false),.mv 107 T106,.g 107 true (.mv 108 T0),.g 107 true (.nck 109 T108),.g 107 true (.fa 110 T109 2 1 1),.g 107 true (.ld 111 T110 kS),.g 107 true (.cv (some 112) 79 [(T111,.v kS)]),.g 107 true (.un 113 .not T112),.pk 114 T107 T113 (.b false),.mv 98 T114]) w31_ZO) w34_ZO)
def w24_ZO:C:=.kp [0,4,5,40] [] c24_ZO
def c21_ZO:C:=.cd T40 .skip (.rg [.mv 79 T0,.nck 80 T79,.fa 81 T80 2 0 0,.ld 82 T81 kI,.bi 83 .neq T82 (.i 2),.mv 84 T83,.g 84 true (.mv 85 T0),.g 84 true (.nck 86 T85),.g 84 true (.fa 87 T86 2 0 0),.g 84 true (.ld 88 T87 kI),.g 84 true (.bi 89 .neq T88 (.i 3)),.pk 90 T84 T89 (.b false),.mv 91 T90,.g 91 true (.mv 92 T0),.g 91 true (.nck 93 T92),.g 91 true (.fa 94 T93 2 2 2),.g 91 true (.ld 95 T94 kI),.g 91 true (.bi 96 .neq T95 (.i 0)),.pk 97 T91 T96 (.b false),.mv 40 T97])
def w21_ZO:C:=.kp [0,4,5,40] [] c21_ZO
def c17_ZO:C:=.cd T40 .skip (.sq (.rg [.mv 60 T0,.nck 61 T60,.fa 62 T61 2 0 0,.ld 63 T62 kI,.bi 64 .eql T63 (.i 3),.mv 65 T64,.g 65 true (.mv 66 T0),.g 65 true (.nck 67 T66),.g 65 true (.fa 68 T67 2 2 2),.g 65 true (.ld 69 T68 kI),.g 65 true (.bi 70 .neq T69 (.i 0)),.pk 71 T65 T70 (.b false),.mv 72 T71,.g 72 true (.mv 73 T0),.g 72 true (.nck 74 T73),.g 72 true (.fa 75 T74 2 2 2),.g 72 true (.ld 76 T75 kI),.g 72 true (.bi 77 .neq T76 (.i 1)),.pk 78 T72 T77 (.b false),.mv 40 T78]) w21_ZO)
def w17_ZO:C:=.kp [0,4,5,40] [] c17_ZO
def c12_ZO:C:=.sq (.bk 0 (.sq (.sq (.rg [.mv 41 T0,.nck 42 T41,.fa 43 T42 2 0 0,.ld 44 T43 kI,.bi 45 .eql T44 (.i 2),.mv 46 T45,.g 46 true (.mv 47 T0),.g 46 true (.nck 48 T47),.g 46 true (.fa 49 T48 2 2 2),.g 46 true (.ld 50 T49 kI),.g 46 true (.bi 51 .lss T50 (.i 0)),.g 46 true (.mv 52 T51),.g 52 false (.mv 53 T0),.g 52 false (.nck 54 T53),.g 52 false (.fa 55 T54 2 2 2),.g 52 false (.ld 56 T55 kI),.g 52 false (.bi 57 .gtr T56 (.i 999)),.g 46 true (.pk 58 T52 (.b true) T57),.pk 59 T46 T58 (.b false),.mv 40 T59]) w17_ZO) w24_ZO)) c39_ZO
def c7_ZO:C:=.cd T39 (.sq (.rg [.mv 2 (.b false)]) .rt) .skip
def w7_ZO:C:=.kp [0,4,5,39] [] c7_ZO
def ir_ZO:C:=.sq (.rg [.mv 2 (.b false)]) (.sq (.rg [.mv 8 T0,.ca (some 9) 179 [(T8,.v (.ptr (kR 2)))],.mv 7 T9,.xt 10 T7 0,.xt 11 T7 1,.xt 12 T7 2,.xt 13 T7 3,.mv 3 T10,.mv 4 T11,.mv 5 T12,.mv 6 T13]) (.sq (.sq (.rg [.mv 14 T6,.un 15 .not T14,.mv 16 T15,.g 16 false (.mv 17 T0),.g 16 false (.nck 18 T17),.g 16 false (.fa 19 T18 2 5 7),.g 16 false (.ld 20 T19 (kL (kR 2))),.g 16 false (.ln 21 false T20),.g 16 false (.mv 22 T3),.g 16 false (.bi 23 .neq T21 T22),.pk 24 T16 (.b true) T23,.mv 25 T24,.g 25 false (.mv 26 T0),.g 25 false (.nck 27 T26),.g 25 false (.fa 28 T27 2 0 0),.g 25 false (.ld 29 T28 kI),.g 25 false (.bi 30 .neq T29 (.i 5)),.g 25 false (.mv 31 T30),.g 31 true (.mv 32 T0),.g 31 true (.nck 33 T32),.g 31 true (.fa 34 T33 2 4 6),.g 31 true (.ld 35 T34 (kL kS)),.g 31 true (.ln 36 false T35),.g 31 true (.bi 37 .gtr T36 (.i 0)),.g 25 false (.pk 38 T31 T37 (.b false)),.pk 39 T25 (.b true) T38]) w7_ZO) c12_ZO))
noncomputable abbrev T_ZO(nf:Nat):XT:=[e_ZR nf,e_Zp nf,e_Zt nf,e_ZK nf]
noncomputable def m_ZO(nf:Nat)(e:Tm):Option (Bool):=runF (T_ZO nf) nf [.p (kR 2)] [.t 2 (.v .bool)] ir_ZO (e,())
noncomputable def X_ZO{R:Type}(nf:Nat):C->Env->(Xt->Env->Option R)->Option R:=xc (R:=R) (T_ZO nf).S nf
noncomputable def j7_ZO(nf:Nat)(e:Tm)(r9:Int×Bool×Bool×Bool)(x39_7:Bool):Option (Bool):=X_ZO nf c7_ZO ⟨[(0,.v (.ptr (kR 2)) (some e)),(4,.v .bool r9.2.1),(5,.v .bool r9.2.2.1),(39,.v .bool x39_7)],[]⟩ (qS (X_ZO nf c12_ZO) (KF [.t 2 (.v .bool)]))
noncomputable def j21_ZO(nf:Nat)(e:Tm)(r9:Int×Bool×Bool×Bool)(x40_21:Bool):Option (Bool):=X_ZO nf c21_ZO ⟨[(0,.v (.ptr (kR 2)) (some e)),(4,.v .bool r9.2.1),(5,.v .bool r9.2.2.1),(40,.v .bool x40_21)],[]⟩ (qS (X_ZO nf w24_ZO) (qB 0 (qS (X_ZO nf c39_ZO) (KF [.t 2 (.v .bool)]))))
noncomputable def j17_ZO(nf:Nat)(e:Tm)(r9:Int×Bool×Bool×Bool)(x40_17:Bool):Option (Bool):=X_ZO nf c17_ZO ⟨[(0,.v (.ptr (kR 2)) (some e)),(4,.v .bool r9.2.1),(5,.v .bool r9.2.2.1),(40,.v .bool x40_17)],[]⟩ (qS (X_ZO nf w24_ZO) (qB 0 (qS (X_ZO nf c39_ZO) (KF [.t 2 (.v .bool)]))))
noncomputable def j31_ZO(nf:Nat)(e:Tm)(r9:Int×Bool×Bool×Bool)(x98_31:Bool):Option (Bool):=X_ZO nf c31_ZO ⟨[(0,.v (.ptr (kR 2)) (some e)),(4,.v .bool r9.2.1),(5,.v .bool r9.2.2.1),(98,.v .bool x98_31)],[]⟩ (qS (X_ZO nf w34_ZO) (qB 0 (qS (X_ZO nf c39_ZO) (KF [.t 2 (.v .bool)]))))
noncomputable def j34_ZO(nf:Nat)(e:Tm)(r9:Int×Bool×Bool×Bool)(x98_34:Bool):Option (Bool):=X_ZO nf c34_ZO ⟨[(0,.v (.ptr (kR 2)) (some e)),(5,.v .bool r9.2.2.1),(98,.v .bool x98_34)],[]⟩ (qB 0 (qS (X_ZO nf c39_ZO) (KF [.t 2 (.v .bool)])))
noncomputable def j24_ZO(nf:Nat)(e:Tm)(r9:Int×Bool×Bool×Bool)(x40_24:Bool):Option (Bool):=X_ZO nf c24_ZO ⟨[(0,.v (.ptr (kR 2)) (some e)),(4,.v .bool r9.2.1),(5,.v .bool r9.2.2.1),(40,.v .bool x40_24)],[]⟩ (qB 0 (qS (X_ZO nf c39_ZO) (KF [.t 2 (.v .bool)])))
theorem j7_ZO_eq(nf:Nat)(e:Tm)(r9:Int×Bool×Bool×Bool)(x39_7:Bool):j7_ZO nf e r9 x39_7=(br x39_7 (some false) (br ((e.kind==(2:Int))==true) (br ((decide (e.n<(0:Int)))==false) (mark (j17_ZO nf e r9 (decide ((999:Int)<e.n)))) (mark (j17_ZO nf e r9 true))) (mark (j17_ZO nf e r9 false)))):=by
 unfold j7_ZO j17_ZO c7_ZO c12_ZO w17_ZO w24_ZO c39_ZO
 generalize c17_ZO=x0
 generalize c24_ZO=x1
 revert x0 x1
 refine id ?_
 intro x0 x1
 kernel_rfl
theorem j21_ZO_eq(nf:Nat)(e:Tm)(r9:Int×Bool×Bool×Bool)(x40_21:Bool):j21_ZO nf e r9 x40_21=(br x40_21 (mark (j24_ZO nf e r9 x40_21)) (br ((!(e.kind==(2:Int)))==true) (br ((!(e.kind==(3:Int)))==true) (mark (j24_ZO nf e r9 (!(e.n==(0:Int))))) (mark (j24_ZO nf e r9 false))) (mark (j24_ZO nf e r9 false)))):=by
 unfold j21_ZO j24_ZO c21_ZO c39_ZO w24_ZO
 generalize c24_ZO=x0
 revert x0
 refine id ?_
 intro x0
 kernel_rfl
theorem j17_ZO_eq(nf:Nat)(e:Tm)(r9:Int×Bool×Bool×Bool)(x40_17:Bool):j17_ZO nf e r9 x40_17=(br x40_17 (mark (j24_ZO nf e r9 x40_17)) (br ((e.kind==(3:Int))==true) (br ((!(e.n==(0:Int)))==true) (mark (j21_ZO nf e r9 (!(e.n==(1:Int))))) (mark (j21_ZO nf e r9 false))) (mark (j21_ZO nf e r9 false)))):=by
 unfold j17_ZO j24_ZO j21_ZO c17_ZO c39_ZO w24_ZO w21_ZO
 generalize c24_ZO=x0
 generalize c21_ZO=x1
 revert x0 x1
 refine id ?_
 intro x0 x1
 kernel_rfl
theorem j31_ZO_eq(nf:Nat)(e:Tm)(r9:Int×Bool×Bool×Bool)(x98_31:Bool):j31_ZO nf e r9 x98_31=(br x98_31 (mark (j34_ZO nf e r9 x98_31)) (br ((!r9.2.1)==true) (mark (j34_ZO nf e r9 (!(e.name==([]:Str))))) (mark (j34_ZO nf e r9 false)))):=by
 unfold j31_ZO j34_ZO c31_ZO c39_ZO w34_ZO
 generalize c34_ZO=x0
 revert x0
 refine id ?_
 intro x0
 kernel_rfl
theorem j34_ZO_eq(nf:Nat)(e:Tm)(r9:Int×Bool×Bool×Bool)(x98_34:Bool):j34_ZO nf e r9 x98_34=(br x98_34 (some false) (br r9.2.2.1 (cb (m_Zt nf e.type) fun r129=>some r129) (cb (m_ZK nf e.type) fun r134=>some r134))):=by kernel_rfl
theorem j24_ZO_eq(nf:Nat)(e:Tm)(r9:Int×Bool×Bool×Bool)(x40_24:Bool):j24_ZO nf e r9 x40_24=(br x40_24 (some false) (br (r9.2.1==true) (br ((!(e.kind==(4:Int)))==true) (cb (m_Zp nf e.name) fun r112=>mark (j31_ZO nf e r9 (!r112))) (mark (j31_ZO nf e r9 false))) (mark (j31_ZO nf e r9 false)))):=by
 unfold j24_ZO j31_ZO c24_ZO c39_ZO w31_ZO w34_ZO
 generalize c31_ZO=x0
 generalize c34_ZO=x1
 revert x0 x1
 refine id ?_
 intro x0 x1
 kernel_rfl
theorem m_ZO_eq(nf:Nat)(e:Tm):m_ZO nf e=(cb (m_ZR nf e) fun r9=>br ((!r9.2.2.2)==false) (br ((!((List.length e.args:Int)==r9.1))==false) (br ((!(e.kind==(5:Int)))==true) (mark (j7_ZO nf e r9 (decide ((0:Int)<(List.length e.labels:Int))))) (mark (j7_ZO nf e r9 false))) (mark (j7_ZO nf e r9 true))) (mark (j7_ZO nf e r9 true))):=by
 unfold m_ZO j7_ZO ir_ZO w7_ZO c12_ZO w17_ZO w24_ZO c39_ZO
 generalize c7_ZO=x0
 generalize c17_ZO=x1
 generalize c24_ZO=x2
 revert x0 x1 x2
 refine id ?_
 intro x0 x1 x2
 kernel_rfl
noncomputable def e_ZO(nf:Nat):XE:=eF 165 [.p (kR 2)] [.v .bool] (fun t=>m_ZO nf t.1)
theorem o_ZO(nf:Nat):conOK Tryz.prog 165 (e_ZO nf).con:=by
 have ih:XT.ok Tryz.prog (T_ZO nf):=by exact⟨o_ZR nf,o_Zp nf,o_Zt nf,o_ZK nf,trivial⟩
 refine eF_ok fun t x h=> ?_
 obtain⟨e,_⟩:=t
 exact runF_ok (N:=135) ih Tryz.func165 (by kernel_rfl) rfl h
def c33_ZS:C:=.sq (.rg [.mv 2 (.b true)]) .rt
def c15_ZS:C:=.sq (.rg [.bi 13 .lss T12 T11]) (.sq (.cd T13 .skip (.ex 0)) (.sq (.bk 1 (.sq (.rg [.mv 14 T12,.mv 3 T14]) (.sq (.rg [.mv 15 T0,.nck 16 T15,.fa 17 T16 2 5 7,.ld 18 T17 (kL (kR 2)),.mv 19 T3,.ia 20 T18 T19 (kR 2),.cv (some 21) 140 [(T20,.v (.ptr (kR 2)))],.un 22 .not T21]) (.cd T22 (.sq (.rg [.mv 2 (.b false)]) .rt) .skip)))) (.rg [.bi 23 .add T12 (.i 1),.mv 12 T23])))
def ir_ZS:C:=.sq (.rg [.mv 2 (.b false)]) (.sq (.sq (.rg [.mv 4 T0,.cv (some 5) 165 [(T4,.v (.ptr (kR 2)))],.un 6 .not T5]) (.cd T6 (.sq (.rg [.mv 2 (.b false)]) .rt) .skip)) (.sq (.sq (.rg [.mv 7 T0,.nck 8 T7,.fa 9 T8 2 5 7,.ld 10 T9 (kL (kR 2)),.ln 11 false T10,.mv 12 (.i 0)]) (.bk 0 (.lk [0,11,12] [] c15_ZS))) c33_ZS))
noncomputable def B_ZS(nf:Nat):XT:=[e_ZO nf]
noncomputable def G_ZS(nf:Nat):Nat->XT
 |0=>[]
 |kf+1=>[eF 140 [.p (kR 2)] [.v .bool] (fun t=>(fun(e:Tm)=>runF (G_ZS nf kf++B_ZS nf) nf [.p (kR 2)] [.t 2 (.v .bool)] ir_ZS (e,())) t.1)]
noncomputable abbrev T_ZS(nf kf:Nat):XT:=G_ZS nf kf++B_ZS nf
noncomputable def m_ZS(nf kf:Nat)(e:Tm):Option (Bool):=runF (T_ZS nf kf) nf [.p (kR 2)] [.t 2 (.v .bool)] ir_ZS (e,())
noncomputable def X_ZS{R:Type}(nf kf:Nat):C->Env->(Xt->Env->Option R)->Option R:=xc (R:=R) (T_ZS nf kf).S nf
noncomputable def l14_ZS(nf kf:Nat)(m14:Nat)(e:Tm)(x12_14:Int):Option (Bool):=xit [0,11,12] [] (X_ZS nf kf c15_ZS) (qB 0 (qS (X_ZS nf kf c33_ZS) (KF [.t 2 (.v .bool)]))) m14 ⟨[(0,.v (.ptr (kR 2)) (some e)),(11,.v kI (List.length e.args:Int)),(12,.v kI x12_14)],[]⟩
theorem l14_ZS_eq(nf kf:Nat)(m14:Nat)(e:Tm)(x12_14:Int):l14_ZS nf (kf+1) (m14+1) e x12_14=(br (decide (x12_14<(List.length e.args:Int))) (gg (0<=x12_14∧x12_14<(List.length e.args:Int))<|cb (m_ZS nf kf (gt e.args x12_14 Tm.zero)) fun r21=>br (!r21) (some false) (mark (l14_ZS nf (kf+1) m14 e (w64 (x12_14+(1:Int)))))) (some true)):=by kernel_rfl
theorem m_ZS_eq(nf kf:Nat)(e:Tm):m_ZS nf (kf+1) e=(cb (m_ZO nf e) fun r5=>br (!r5) (some false) (mark (l14_ZS nf (kf+1) nf e (0:Int)))):=by kernel_rfl
noncomputable def e_ZS(nf:Nat):XE:=eF 140 [.p (kR 2)] [.v .bool] (fun t=>m_ZS nf nf t.1)
theorem gok_ZS(nf:Nat):∀kf:Nat,XT.ok Tryz.prog (G_ZS nf kf++B_ZS nf)
 |0=>by exact⟨o_ZO nf,trivial⟩
 |kf+1=>by
  have ih:=gok_ZS nf kf
  refine⟨?_,(by exact⟨o_ZO nf,trivial⟩)⟩
  ·refine eF_ok fun t x h=> ?_
   obtain⟨e,_⟩:=t
   exact runF_ok (N:=24) ih Tryz.func140 (by kernel_rfl) rfl h
theorem o_ZS(nf:Nat):conOK Tryz.prog 140 (e_ZS nf).con:=by
 have ih:=gok_ZS nf nf
 refine eF_ok fun t x h=> ?_
 obtain⟨e,_⟩:=t
 exact runF_ok (N:=24) ih Tryz.func140 (by kernel_rfl) rfl h
def ir_ZF:C:=.sq (.rg [.al 0 (kR 0)]) (.sq (.rg [.bd 1 0 [(0,1,(.i 1))],.st T0 T1 (kR 0)]) .rt)
noncomputable abbrev T_ZF(nf:Nat):XT:=[]
noncomputable def m_ZF(nf:Nat):Option (Ty):=runF (T_ZF nf) nf [] [.c 0 (.v (kR 0))] ir_ZF (())
theorem m_ZF_eq(nf:Nat):m_ZF nf=(some (Ty.mk (1:Int) ([]:List Str) ([]:List Ty))):=by kernel_rfl
noncomputable def e_ZF(nf:Nat):XE:=eF 181 [] [.v (kR 0)] (fun t=>m_ZF nf)
theorem o_ZF(nf:Nat):conOK Tryz.prog 181 (e_ZF nf).con:=by
 have ih:XT.ok Tryz.prog (T_ZF nf):=by exact trivial
 refine eF_ok fun t x h=> ?_
 exact runF_ok (N:=2) ih Tryz.func181 (by kernel_rfl) rfl h
def ir_Zz:C:=.sq (.rg [.al 0 (kR 0)]) (.sq (.rg [.bd 1 0 [(0,1,(.i 2))],.st T0 T1 (kR 0)]) .rt)
noncomputable abbrev T_Zz(nf:Nat):XT:=[]
noncomputable def m_Zz(nf:Nat):Option (Ty):=runF (T_Zz nf) nf [] [.c 0 (.v (kR 0))] ir_Zz (())
theorem m_Zz_eq(nf:Nat):m_Zz nf=(some (Ty.mk (2:Int) ([]:List Str) ([]:List Ty))):=by kernel_rfl
noncomputable def e_Zz(nf:Nat):XE:=eF 182 [] [.v (kR 0)] (fun t=>m_Zz nf)
theorem o_Zz(nf:Nat):conOK Tryz.prog 182 (e_Zz nf).con:=by
 have ih:XT.ok Tryz.prog (T_Zz nf):=by exact trivial
 refine eF_ok fun t x h=> ?_
 exact runF_ok (N:=2) ih Tryz.func182 (by kernel_rfl) rfl h
def ir_Zx:C:=.sq (.rg [.bx 1 T0 (kR 0),.al 2 (kR 0)]) (.sq (.rg [.ld 3 T1 (kR 0),.bs 4 false (kR 0) [T3],.bd 5 0 [(0,1,(.i 4)),(2,1,T4)],.st T2 T5 (kR 0)]) .rt)
noncomputable abbrev T_Zx(nf:Nat):XT:=[]
noncomputable def m_Zx(nf:Nat)(t:Ty):Option (Ty):=runF (T_Zx nf) nf [.v (kR 0)] [.c 2 (.v (kR 0))] ir_Zx (t,())
theorem m_Zx_eq(nf:Nat)(t:Ty):m_Zx nf t=(some (Ty.mk (4:Int) ([]:List Str) ([(Ty.h t)]:List Ty))):=by kernel_rfl
noncomputable def e_Zx(nf:Nat):XE:=eF 183 [.v (kR 0)] [.v (kR 0)] (fun t=>m_Zx nf t.1)
theorem o_Zx(nf:Nat):conOK Tryz.prog 183 (e_Zx nf).con:=by
 have ih:XT.ok Tryz.prog (T_Zx nf):=by exact trivial
 refine eF_ok fun t x h=> ?_
 obtain⟨t,_⟩:=t
 exact runF_ok (N:=6) ih Tryz.func183 (by kernel_rfl) rfl h
def c25_Zv:C:=.sq (.rg [.bd 23 0 [],.st T4 T23 (kR 0),.mv 5 (.b false)]) .rt
def c7_Zv:C:=.sq (.rg [.bi 12 .lss T11 T10]) (.sq (.cd T12 .skip (.ex 0)) (.sq (.bk 1 (.sq (.rg [.ia 13 T9 T11 (kR 4),.ld 14 T13 (kR 4),.al 7 (kR 4),.st T7 T14 (kR 4)]) (.sq (.rg [.fa 15 T7 4 0 0,.ld 16 T15 kS,.mv 17 T1,.bi 18 .eql T16 T17]) (.cd T18 (.sq (.rg [.fa 19 T7 4 1 1,.ld 20 T19 (kR 0),.cv (some 21) 122 [(T20,.v (kR 0))],.st T4 T21 (kR 0),.mv 5 (.b true)]) .rt) .skip)))) (.rg [.bi 22 .add T11 (.i 1),.mv 11 T22])))
def ir_Zv:C:=.sq (.rg [.bx 2 T0 (kR 5),.al 4 (kR 0),.mv 5 (.b false)]) (.sq (.sq (.rg [.fa 8 T2 5 0 0,.ld 9 T8 (kL (kR 4)),.ln 10 false T9,.mv 11 (.i 0)]) (.bk 0 (.lk [1,4,9,10,11] [[4]] c7_Zv))) c25_Zv)
noncomputable abbrev T_Zv(nf:Nat):XT:=[e_ZA nf]
noncomputable def m_Zv(nf:Nat)(s:Schema)(name:Str):Option (Ty×Bool):=runF (T_Zv nf) nf [.v (kR 5),.v kS] [.c 4 (.v (kR 0)),.t 5 (.v .bool)] ir_Zv (s,name,())
noncomputable def X_Zv{R:Type}(nf:Nat):C->Env->(Xt->Env->Option R)->Option R:=xc (R:=R) (T_Zv nf).S nf
noncomputable def l6_Zv(nf:Nat)(m6:Nat)(name:Str)(s:Schema)(x11_6:Int):Option (Ty×Bool):=xit [1,4,9,10,11] [[4]] (X_Zv nf c7_Zv) (qB 0 (qS (X_Zv nf c25_Zv) (KF [.c 4 (.v (kR 0)),.t 5 (.v .bool)]))) m6 ⟨[(1,.v kS name),(4,.pt [4] 0),(9,.v (kL (kR 4)) s.tables),(10,.v kI (List.length s.tables:Int)),(11,.v kI x11_6)],[([4],.box [.v kI (0:Int),.nl kS,.nl (kR 0)])]⟩
theorem l6_Zv_eq(nf:Nat)(m6:Nat)(name:Str)(s:Schema)(x11_6:Int):l6_Zv nf (m6+1) name s x11_6=(br (decide (x11_6<(List.length s.tables:Int))) (gg (0<=x11_6∧x11_6<(List.length s.tables:Int))<|br (((gt s.tables x11_6 TDecl.zero).name)==name) (cb (m_ZA nf nf (Ty.h ((gt s.tables x11_6 TDecl.zero).row))) fun r21=>some ((Ty.h r21),true)) (mark (l6_Zv nf m6 name s (w64 (x11_6+(1:Int)))))) (some ((Ty.mk (0:Int) ([]:List Str) ([]:List Ty)),false))):=by kernel_rfl
theorem m_Zv_eq(nf:Nat)(s:Schema)(name:Str):m_Zv nf s name=(mark (l6_Zv nf nf name s (0:Int))):=by kernel_rfl
noncomputable def e_Zv(nf:Nat):XE:=eF 81 [.v (kR 5),.v kS] [.v (kR 0),.v .bool] (fun t=>m_Zv nf t.1 t.2.1)
theorem o_Zv(nf:Nat):conOK Tryz.prog 81 (e_Zv nf).con:=by
 have ih:XT.ok Tryz.prog (T_Zv nf):=by exact⟨o_ZA nf,trivial⟩
 refine eF_ok fun t x h=> ?_
 obtain⟨s,name,_⟩:=t
 exact runF_ok (N:=24) ih Tryz.func81 (by kernel_rfl) rfl h
def ir_ZaO:C:=.sq (.rg [.mv 2 (.nl (kR 8))]) (.sq (.rg [.mv 3 T0,.mv 4 T0,.ln 5 false T4,.mv 6 T0,.ln 7 false T6,.sm 8 T3 none T5 T7 (kR 8),.mv 2 T8]) .rt)
noncomputable abbrev T_ZaO(nf:Nat):XT:=[]
noncomputable def m_ZaO(nf:Nat)(s:List Typing):Option (List Typing):=runF (T_ZaO nf) nf [.v (kL (kR 8))] [.t 2 (.cl (kR 8))] ir_ZaO (s,())
theorem m_ZaO_eq(nf:Nat)(s:List Typing):m_ZaO nf s=(gg (0<=(0:Int)∧(0:Int)<=(List.length s:Int)∧(List.length s:Int)<=(List.length s:Int)∧(List.length s:Int)=(List.length s:Int))<|some (List.drop (Int.toNat (0:Int)) (List.take (Int.toNat (List.length s:Int)) s))):=by kernel_rfl
noncomputable def e_ZaO(nf:Nat):XE:=eF 124 [.v (kL (kR 8))] [.cl (kR 8)] (fun t=>m_ZaO nf t.1)
theorem o_ZaO(nf:Nat):conOK Tryz.prog 124 (e_ZaO nf).con:=by
 have ih:XT.ok Tryz.prog (T_ZaO nf):=by exact trivial
 refine eF_ok fun t x h=> ?_
 obtain⟨s,_⟩:=t
 exact runF_ok (N:=9) ih Tryz.func124 (by kernel_rfl) rfl h
def ir_ZZ:C:=.sq (.rg [.bx 5 T2 (kR 0),.mv 6 (.nl (kR 8))]) (.sq (.dr [8,12] [.mv 7 T0,.ca (some 8) 124 [(T7,.v (kL (kR 8)))],.mv 9 T1,.ld 10 T5 (kR 0),.bd 11 8 [(0,1,T9),(1,3,T10)],.bs 12 false (kR 8) [T11]] [.af 13 (kR 8) T8 T12,.mv 6 T13]) .rt)
noncomputable abbrev T_ZZ(nf:Nat):XT:=[e_ZaO nf]
noncomputable def m_ZZ(nf:Nat)(ctx:List Typing)(name:Str)(t:Ty):Option (List Typing):=runF (T_ZZ nf) nf [.v (kL (kR 8)),.v kS,.v (kR 0)] [.t 6 (.v (kL (kR 8)))] ir_ZZ (ctx,name,t,())
theorem m_ZZ_eq(nf:Nat)(ctx:List Typing)(name:Str)(t:Ty):m_ZZ nf ctx name t=(cb (m_ZaO nf ctx) fun r8=>gg (List.length r8+List.length ([(Typing.mk name (Ty.h t))]:List Typing)<=33554432)<|some (r8++([(Typing.mk name (Ty.h t))]:List Typing))):=by kernel_rfl
noncomputable def e_ZZ(nf:Nat):XE:=eF 83 [.v (kL (kR 8)),.v kS,.v (kR 0)] [.v (kL (kR 8))] (fun t=>m_ZZ nf t.1 t.2.1 t.2.2.1)
theorem o_ZZ(nf:Nat):conOK Tryz.prog 83 (e_ZZ nf).con:=by
 have ih:XT.ok Tryz.prog (T_ZZ nf):=by exact⟨o_ZaO nf,trivial⟩
 refine eF_ok fun t x h=> ?_
 obtain⟨ctx,name,t,_⟩:=t
 exact runF_ok (N:=14) ih Tryz.func83 (by kernel_rfl) rfl h
def ir_ZQ:C:=.sq (.rg [.bx 2 T0 (kR 0),.mv 3 (.b false)]) (.sq (.rg [.fa 4 T2 0 0 0,.ld 5 T4 kI,.ld 6 T1 kI,.bi 7 .neq T5 T6,.mv 3 T7]) .rt)
noncomputable abbrev T_ZQ(nf:Nat):XT:=[]
noncomputable def m_ZQ(nf:Nat)(t:Ty)(asked:Int):Option (Bool):=runF (T_ZQ nf) nf [.v (kR 0),.p kI] [.t 3 (.v .bool)] ir_ZQ (t,asked,())
theorem m_ZQ_eq(nf:Nat)(t:Ty)(asked:Int):m_ZQ nf t asked=(some (!(t.kind==asked))):=by kernel_rfl
noncomputable def e_ZQ(nf:Nat):XE:=eF 195 [.v (kR 0),.p kI] [.v .bool] (fun t=>m_ZQ nf t.1 t.2.1)
theorem o_ZQ(nf:Nat):conOK Tryz.prog 195 (e_ZQ nf).con:=by
 have ih:XT.ok Tryz.prog (T_ZQ nf):=by exact trivial
 refine eF_ok fun t x h=> ?_
 obtain⟨t,asked,_⟩:=t
 exact runF_ok (N:=8) ih Tryz.func195 (by kernel_rfl) rfl h
def c25_Zh:C:=.sq (.rg [.mv 4 (.i (-1))]) .rt
def c7_Zh:C:=.sq (.rg [.bi 9 .lss T8 T7]) (.sq (.cd T9 .skip (.ex 0)) (.sq (.bk 1 (.sq (.rg [.mv 10 T8,.mv 5 T10]) (.sq (.rg [.mv 11 T1,.mv 12 T0,.mv 13 T5,.ia 14 T12 T13 (kR 0),.ld 15 T14 (kR 0),.cf (some 16) T11 [(T15,.v (kR 0))]]) (.cd T16 (.sq (.rg [.mv 17 T5,.mv 4 T17]) .rt) .skip)))) (.rg [.bi 18 .add T8 (.i 1),.mv 8 T18])))
def ir_Zh:C:=.sq (.rg [.mv 4 (.i 0)]) (.sq (.sq (.rg [.mv 6 T0,.ln 7 false T6,.mv 8 (.i 0)]) (.bk 0 (.lk [0,1,7,8] [] c7_Zh))) c25_Zh)
noncomputable abbrev T_Zh(nf:Nat):XT:=[e_ZQ nf]
noncomputable def m_Zh(nf:Nat)(s:List Ty)(asked:Option Int):Option (Int):=runF (T_Zh nf) nf [.v (kL (kR 0)),.fn 195 [(.ptr kI)]] [.t 4 (.v kI)] ir_Zh (s,(asked,()),())
noncomputable def X_Zh{R:Type}(nf:Nat):C->Env->(Xt->Env->Option R)->Option R:=xc (R:=R) (T_Zh nf).S nf
noncomputable def l6_Zh(nf:Nat)(m6:Nat)(s:List Ty)(asked:Option Int)(x8_6:Int):Option (Int):=xit [0,1,7,8] [] (X_Zh nf c7_Zh) (qB 0 (qS (X_Zh nf c25_Zh) (KF [.t 4 (.v kI)]))) m6 ⟨[(0,.v (kL (kR 0)) s),(1,.fn 195 [.v (.ptr kI) asked]),(7,.v kI (List.length s:Int)),(8,.v kI x8_6)],[]⟩
theorem l6_Zh_eq(nf:Nat)(m6:Nat)(s:List Ty)(asked:Option Int)(x8_6:Int):l6_Zh nf (m6+1) s asked x8_6=(br (decide (x8_6<(List.length s:Int))) (gg (0<=x8_6∧x8_6<(List.length s:Int))<|Option.bind asked fun q0=>cb (m_ZQ nf (gt s x8_6 Ty.zero) q0) fun r16=>br r16 (some x8_6) (mark (l6_Zh nf m6 s asked (w64 (x8_6+(1:Int)))))) (some (-1:Int))):=by cases asked<;>kernel_rfl
theorem m_Zh_eq(nf:Nat)(s:List Ty)(asked:Option Int):m_Zh nf s asked=(mark (l6_Zh nf nf s asked (0:Int))):=by kernel_rfl
noncomputable def e_Zh(nf:Nat):XE:=eF 152 [.v (kL (kR 0)),.fn 195 [(.ptr kI)]] [.v kI] (fun t=>m_Zh nf t.1 t.2.1.1)
theorem o_Zh(nf:Nat):conOK Tryz.prog 152 (e_Zh nf).con:=by
 have ih:XT.ok Tryz.prog (T_Zh nf):=by exact⟨o_ZQ nf,trivial⟩
 refine eF_ok fun t x h=> ?_
 obtain⟨s,⟨asked,_⟩,_⟩:=t
 exact runF_ok (N:=19) ih Tryz.func152 (by kernel_rfl) rfl h
def ir_Zd:C:=.sq (.rg [.mv 4 (.b false)]) (.sq (.rg [.mv 5 T0,.mv 6 T1,.cv (some 7) 152 [(T5,.v (kL (kR 0))),(T6,.fn)],.bi 8 .geq T7 (.i 0),.mv 4 T8]) .rt)
noncomputable abbrev T_Zd(nf:Nat):XT:=[e_Zh nf]
noncomputable def m_Zd(nf:Nat)(s:List Ty)(asked:Option Int):Option (Bool):=runF (T_Zd nf) nf [.v (kL (kR 0)),.fn 195 [(.ptr kI)]] [.t 4 (.v .bool)] ir_Zd (s,(asked,()),())
theorem m_Zd_eq(nf:Nat)(s:List Ty)(asked:Option Int):m_Zd nf s asked=(cb (m_Zh nf s asked) fun r7=>some (decide ((0:Int)<=r7))):=by kernel_rfl
noncomputable def e_Zd(nf:Nat):XE:=eF 119 [.v (kL (kR 0)),.fn 195 [(.ptr kI)]] [.v .bool] (fun t=>m_Zd nf t.1 t.2.1.1)
theorem o_Zd(nf:Nat):conOK Tryz.prog 119 (e_Zd nf).con:=by
 have ih:XT.ok Tryz.prog (T_Zd nf):=by exact⟨o_Zh nf,trivial⟩
 refine eF_ok fun t x h=> ?_
 obtain⟨s,⟨asked,_⟩,_⟩:=t
 exact runF_ok (N:=9) ih Tryz.func119 (by kernel_rfl) rfl h
def c29_ZP:C:=.sq (.gz 6 (.ptr kI) (.rg [.mv 16 T7,.bd 17 0 [(0,1,T16)],.mv 18 T1,.mf 19 195 [T6],.cv (some 20) 119 [(T18,.v (kL (kR 0))),(T19,.fn)],.un 21 .not T20,.st T4 T17 (kR 0),.mv 5 T21])) .rt
def w29_ZP:C:=.kp [1,4,6,7] [[4],[6]] c29_ZP
def c26_ZP:C:=.cd T12 (.rg [.st T6 (.i 2) kI,.mv 7 (.i 2)]) .skip
def w26_ZP:C:=.kp [1,4,6,7,12] [[4],[6]] c26_ZP
def c14_ZP:C:=.cd T9 (.rg [.mv 7 (.i 2)]) (.sq (.sq (.rg [.bi 13 .eql T8 (.s [38]),.mv 12 T13]) (.cd T12 .skip (.sq (.rg [.bi 14 .eql T8 (.s [124]),.mv 12 T14]) (.cd T12 .skip (.rg [.bi 15 .eql T8 (.s [33]),.mv 12 T15]))))) w26_ZP)
def w14_ZP:C:=.kp [1,4,6,7,8,9] [[4],[6]] c14_ZP
def ir_ZP:C:=.sq (.rg [.al 4 (kR 0),.mv 5 (.b false)]) (.sq (.rg [.al 6 kI,.st T6 (.i 1) kI,.mv 7 (.i 1)]) (.sq (.sq (.rg [.mv 8 T0]) (.bk 0 (.sq (.sq (.rg [.bi 10 .eql T8 (.s [61]),.mv 9 T10]) (.cd T9 .skip (.rg [.bi 11 .eql T8 (.s [60]),.mv 9 T11]))) w14_ZP))) w29_ZP))
noncomputable abbrev T_ZP(nf:Nat):XT:=[e_Zd nf]
noncomputable def m_ZP(nf:Nat)(op:Str)(args:List Ty):Option (Ty×Bool):=runF (T_ZP nf) nf [.v kS,.v (kL (kR 0))] [.c 4 (.v (kR 0)),.t 5 (.v .bool)] ir_ZP (op,args,())
noncomputable def X_ZP{R:Type}(nf:Nat):C->Env->(Xt->Env->Option R)->Option R:=xc (R:=R) (T_ZP nf).S nf
noncomputable def j26_ZP(nf:Nat)(args:List Ty)(x12_26:Bool):Option (Ty×Bool):=X_ZP nf c26_ZP ⟨[(1,.v (kL (kR 0)) args),(4,.pt [4] 0),(6,.pt [6] 0),(7,.v kI (1:Int)),(12,.v .bool x12_26)],[([4],.box [.v kI (0:Int),.nl kS,.nl (kR 0)]),([6],.box [.v kI (1:Int)])]⟩ (qB 0 (qS (X_ZP nf w29_ZP) (KF [.c 4 (.v (kR 0)),.t 5 (.v .bool)])))
noncomputable def j14_ZP(nf:Nat)(args:List Ty)(op:Str)(x9_14:Bool):Option (Ty×Bool):=X_ZP nf c14_ZP ⟨[(1,.v (kL (kR 0)) args),(4,.pt [4] 0),(6,.pt [6] 0),(7,.v kI (1:Int)),(8,.v kS op),(9,.v .bool x9_14)],[([4],.box [.v kI (0:Int),.nl kS,.nl (kR 0)]),([6],.box [.v kI (1:Int)])]⟩ (qB 0 (qS (X_ZP nf w29_ZP) (KF [.c 4 (.v (kR 0)),.t 5 (.v .bool)])))
noncomputable def j29_ZP(nf:Nat)(args:List Ty)(x7_29:Int)(y6_29_0:Int):Option (Ty×Bool):=X_ZP nf c29_ZP ⟨[(1,.v (kL (kR 0)) args),(4,.pt [4] 0),(6,.pt [6] 0),(7,.v kI x7_29)],[([4],.box [.v kI (0:Int),.nl kS,.nl (kR 0)]),([6],.box [.v kI y6_29_0])]⟩ (KF [.c 4 (.v (kR 0)),.t 5 (.v .bool)])
theorem j26_ZP_eq(nf:Nat)(args:List Ty)(x12_26:Bool):j26_ZP nf args x12_26=(br x12_26 (mark (j29_ZP nf args (2:Int) (2:Int))) (mark (j29_ZP nf args (1:Int) (1:Int)))):=by
 unfold j26_ZP j29_ZP c26_ZP w29_ZP
 generalize c29_ZP=x0
 revert x0
 refine id ?_
 intro x0
 kernel_rfl
theorem j14_ZP_eq(nf:Nat)(args:List Ty)(op:Str)(x9_14:Bool):j14_ZP nf args op x9_14=(br x9_14 (mark (j29_ZP nf args (2:Int) (1:Int))) (br (op==([38]:Str)) (mark (j26_ZP nf args (op==([38]:Str)))) (br (op==([124]:Str)) (mark (j26_ZP nf args (op==([124]:Str)))) (mark (j26_ZP nf args (op==([33]:Str))))))):=by
 unfold j14_ZP j29_ZP j26_ZP c14_ZP w29_ZP w26_ZP
 generalize c29_ZP=x0
 generalize c26_ZP=x1
 revert x0 x1
 refine id ?_
 intro x0 x1
 kernel_rfl
theorem j29_ZP_eq(nf:Nat)(args:List Ty)(x7_29:Int)(y6_29_0:Int):j29_ZP nf args x7_29 y6_29_0=(cb (m_Zd nf args (some y6_29_0)) fun r20=>some ((Ty.mk x7_29 ([]:List Str) ([]:List Ty)),(!r20))):=by kernel_rfl
theorem m_ZP_eq(nf:Nat)(op:Str)(args:List Ty):m_ZP nf op args=(br (op==([61]:Str)) (mark (j14_ZP nf args op (op==([61]:Str)))) (mark (j14_ZP nf args op (op==([60]:Str))))):=by
 unfold m_ZP j14_ZP ir_ZP w14_ZP w29_ZP
 generalize c14_ZP=x0
 generalize c29_ZP=x1
 revert x0 x1
 refine id ?_
 intro x0 x1
 kernel_rfl
noncomputable def e_ZP(nf:Nat):XE:=eF 193 [.v kS,.v (kL (kR 0))] [.v (kR 0),.v .bool] (fun t=>m_ZP nf t.1 t.2.1)
theorem o_ZP(nf:Nat):conOK Tryz.prog 193 (e_ZP nf).con:=by
 have ih:XT.ok Tryz.prog (T_ZP nf):=by exact⟨o_Zd nf,trivial⟩
 refine eF_ok fun t x h=> ?_
 obtain⟨op,args,_⟩:=t
 exact runF_ok (N:=22) ih Tryz.func193 (by kernel_rfl) rfl h
def c12_Zl:C:=.sq (.rg [.fa 24 T2 0 2 2,.ld 25 T24 (kL (kR 0)),.mv 26 T6,.ia 27 T25 T26 (kR 0),.ld 28 T27 (kR 0),.cv (some 29) 122 [(T28,.v (kR 0))],.st T4 T29 (kR 0),.mv 5 (.b true)]) .rt
def c7_Zl:C:=.cd T22 (.sq (.rg [.bd 23 0 [],.st T4 T23 (kR 0),.mv 5 (.b false)]) .rt) .skip
def w7_Zl:C:=.kp [2,4,6,22] [[2],[4]] c7_Zl
def ir_Zl:C:=.sq (.rg [.bx 2 T0 (kR 0),.al 4 (kR 0),.mv 5 (.b false)]) (.sq (.rg [.fa 7 T2 0 1 1,.ld 8 T7 (kL kS),.mv 9 T1,.cv (some 10) 100 [(T8,.v (kL kS)),(T9,.v kS)],.mv 6 T10]) (.sq (.sq (.rg [.ld 11 T2 (kR 0),.cv (some 12) 118 [(T11,.v (kR 0))],.un 13 .not T12,.mv 14 T13,.g 14 false (.fa 15 T2 0 0 0),.g 14 false (.ld 16 T15 kI),.g 14 false (.bi 17 .neq T16 (.i 3)),.pk 18 T14 (.b true) T17,.mv 19 T18,.g 19 false (.mv 20 T6),.g 19 false (.bi 21 .lss T20 (.i 0)),.pk 22 T19 (.b true) T21]) w7_Zl) c12_Zl))
noncomputable abbrev T_Zl(nf:Nat):XT:=[e_ZaV nf,e_Zt nf,e_ZA nf]
noncomputable def m_Zl(nf:Nat)(t:Ty)(label:Str):Option (Ty×Bool):=runF (T_Zl nf) nf [.v (kR 0),.v kS] [.c 4 (.v (kR 0)),.t 5 (.v .bool)] ir_Zl (t,label,())
noncomputable def X_Zl{R:Type}(nf:Nat):C->Env->(Xt->Env->Option R)->Option R:=xc (R:=R) (T_Zl nf).S nf
noncomputable def j7_Zl(nf:Nat)(r10:Int)(t:Ty)(x22_7:Bool):Option (Ty×Bool):=X_Zl nf c7_Zl ⟨[(2,.pt [2] 0),(4,.pt [4] 0),(6,.v kI r10),(22,.v .bool x22_7)],[([2],.box [.v kI t.kind,.v (kL kS) t.labels,.v (kL (kR 0)) t.args]),([4],.box [.v kI (0:Int),.nl kS,.nl (kR 0)])]⟩ (qS (X_Zl nf c12_Zl) (KF [.c 4 (.v (kR 0)),.t 5 (.v .bool)]))
theorem j7_Zl_eq(nf:Nat)(r10:Int)(t:Ty)(x22_7:Bool):j7_Zl nf r10 t x22_7=(br x22_7 (some ((Ty.mk (0:Int) ([]:List Str) ([]:List Ty)),false)) (gg (0<=r10∧r10<(List.length t.args:Int))<|cb (m_ZA nf nf (gt t.args r10 Ty.zero)) fun r29=>some ((Ty.h r29),true))):=by kernel_rfl
theorem m_Zl_eq(nf:Nat)(t:Ty)(label:Str):m_Zl nf t label=(cb (m_ZaV nf t.labels label) fun r10=>cb (m_Zt nf (Ty.h t)) fun r12=>br ((!r12)==false) (br ((!(t.kind==(3:Int)))==false) (mark (j7_Zl nf r10 t (decide (r10<(0:Int))))) (mark (j7_Zl nf r10 t true))) (mark (j7_Zl nf r10 t true))):=by
 unfold m_Zl j7_Zl ir_Zl w7_Zl c12_Zl
 generalize c7_Zl=x0
 revert x0
 refine id ?_
 intro x0
 kernel_rfl
noncomputable def e_Zl(nf:Nat):XE:=eF 194 [.v (kR 0),.v kS] [.v (kR 0),.v .bool] (fun t=>m_Zl nf t.1 t.2.1)
theorem o_Zl(nf:Nat):conOK Tryz.prog 194 (e_Zl nf).con:=by
 have ih:XT.ok Tryz.prog (T_Zl nf):=by exact⟨o_ZaV nf,o_Zt nf,o_ZA nf,trivial⟩
 refine eF_ok fun t x h=> ?_
 obtain⟨t,label,_⟩:=t
 exact runF_ok (N:=30) ih Tryz.func194 (by kernel_rfl) rfl h
def c33_ZaU:C:=.sq (.rg [.mv 4 (.b true)]) .rt
def c15_ZaU:C:=.sq (.rg [.bi 14 .lss T13 T12]) (.sq (.cd T14 .skip (.ex 0)) (.sq (.bk 1 (.sq (.rg [.mv 15 T13,.mv 5 T15]) (.sq (.dr [] [.mv 16 T0,.mv 17 T5,.ia 18 T16 T17 kS,.ld 19 T18 kS,.mv 20 T1,.mv 21 T5,.ia 22 T20 T21 kS,.ld 23 T22 kS] [.bi 24 .neq T19 T23]) (.cd T24 (.sq (.rg [.mv 4 (.b false)]) .rt) .skip)))) (.rg [.bi 25 .add T13 (.i 1),.mv 13 T25])))
def ir_ZaU:C:=.sq (.rg [.mv 4 (.b false)]) (.sq (.sq (.rg [.mv 6 T0,.ln 7 false T6,.mv 8 T1,.ln 9 false T8,.bi 10 .neq T7 T9]) (.cd T10 (.sq (.rg [.mv 4 (.b false)]) .rt) .skip)) (.sq (.sq (.rg [.mv 11 T0,.ln 12 false T11,.mv 13 (.i 0)]) (.bk 0 (.lk [0,1,12,13] [] c15_ZaU))) c33_ZaU))
noncomputable abbrev T_ZaU(nf:Nat):XT:=[]
noncomputable def m_ZaU(nf:Nat)(s1:List Str)(s2:List Str):Option (Bool):=runF (T_ZaU nf) nf [.v (kL kS),.v (kL kS)] [.t 4 (.v .bool)] ir_ZaU (s1,s2,())
noncomputable def X_ZaU{R:Type}(nf:Nat):C->Env->(Xt->Env->Option R)->Option R:=xc (R:=R) (T_ZaU nf).S nf
noncomputable def l14_ZaU(nf:Nat)(m14:Nat)(s1:List Str)(s2:List Str)(x13_14:Int):Option (Bool):=xit [0,1,12,13] [] (X_ZaU nf c15_ZaU) (qB 0 (qS (X_ZaU nf c33_ZaU) (KF [.t 4 (.v .bool)]))) m14 ⟨[(0,.v (kL kS) s1),(1,.v (kL kS) s2),(12,.v kI (List.length s1:Int)),(13,.v kI x13_14)],[]⟩
theorem l14_ZaU_eq(nf:Nat)(m14:Nat)(s1:List Str)(s2:List Str)(x13_14:Int):l14_ZaU nf (m14+1) s1 s2 x13_14=(br (decide (x13_14<(List.length s1:Int))) (gg (0<=x13_14∧x13_14<(List.length s1:Int))<|gg (0<=x13_14∧x13_14<(List.length s2:Int))<|br (!((gt s1 x13_14 ([]:Str))==(gt s2 x13_14 ([]:Str)))) (some false) (mark (l14_ZaU nf m14 s1 s2 (w64 (x13_14+(1:Int)))))) (some true)):=by kernel_rfl
theorem m_ZaU_eq(nf:Nat)(s1:List Str)(s2:List Str):m_ZaU nf s1 s2=(br (!((List.length s1:Int)==(List.length s2:Int))) (some false) (mark (l14_ZaU nf nf s1 s2 (0:Int)))):=by kernel_rfl
noncomputable def e_ZaU(nf:Nat):XE:=eF 149 [.v (kL kS),.v (kL kS)] [.v .bool] (fun t=>m_ZaU nf t.1 t.2.1)
theorem o_ZaU(nf:Nat):conOK Tryz.prog 149 (e_ZaU nf).con:=by
 have ih:XT.ok Tryz.prog (T_ZaU nf):=by exact trivial
 refine eF_ok fun t x h=> ?_
 obtain⟨s1,s2,_⟩:=t
 exact runF_ok (N:=26) ih Tryz.func149 (by kernel_rfl) rfl h
def ir_Zk:C:=.sq (.rg [.bx 2 T0 (kR 0),.bx 3 T1 (kR 0),.mv 4 (.b false)]) (.sq (.rg [.fa 5 T2 0 0 0,.ld 6 T5 kI,.fa 7 T3 0 0 0,.ld 8 T7 kI,.bi 9 .eql T6 T8,.mv 10 T9,.g 10 true (.fa 11 T2 0 1 1),.g 10 true (.ld 12 T11 (kL kS)),.g 10 true (.fa 13 T3 0 1 1),.g 10 true (.ld 14 T13 (kL kS)),.g 10 true (.cv (some 15) 149 [(T12,.v (kL kS)),(T14,.v (kL kS))]),.pk 16 T10 T15 (.b false),.mv 17 T16,.g 17 true (.fa 18 T2 0 2 2),.g 17 true (.ld 19 T18 (kL (kR 0))),.g 17 true (.fa 20 T3 0 2 2),.g 17 true (.ld 21 T20 (kL (kR 0))),.g 17 true (.cv (some 22) 186 [(T19,.v (kL (kR 0))),(T21,.v (kL (kR 0))),((.f 167),.fn)]),.pk 23 T17 T22 (.b false),.mv 4 T23]) .rt)
def c35_ZaT:C:=.sq (.rg [.mv 6 (.b true)]) .rt
def c15_ZaT:C:=.sq (.rg [.bi 18 .lss T17 T16]) (.sq (.cd T18 .skip (.ex 0)) (.sq (.bk 1 (.sq (.rg [.mv 19 T17,.ia 20 T15 T17 (kR 0),.ld 21 T20 (kR 0),.al 8 (kR 0),.mv 7 T19,.st T8 T21 (kR 0)]) (.sq (.rg [.mv 22 T1,.mv 23 T7,.ia 24 T22 T23 (kR 0),.ld 25 T24 (kR 0),.al 9 (kR 0),.st T9 T25 (kR 0)]) (.sq (.rg [.mv 26 T2,.ld 27 T8 (kR 0),.ld 28 T9 (kR 0),.cf (some 29) T26 [(T27,.v (kR 0)),(T28,.v (kR 0))],.un 30 .not T29]) (.cd T30 (.sq (.rg [.mv 6 (.b false)]) .rt) .skip))))) (.rg [.bi 31 .add T17 (.i 1),.mv 17 T31])))
def ir_ZaT:C:=.sq (.rg [.mv 6 (.b false)]) (.sq (.sq (.rg [.mv 10 T0,.ln 11 false T10,.mv 12 T1,.ln 13 false T12,.bi 14 .neq T11 T13]) (.cd T14 (.sq (.rg [.mv 6 (.b false)]) .rt) .skip)) (.sq (.sq (.rg [.mv 15 T0,.ln 16 false T15,.mv 17 (.i 0)]) (.bk 0 (.lk [1,2,15,16,17] [] c15_ZaT))) c35_ZaT))
noncomputable def B_Zk(nf:Nat):XT:=[e_ZaU nf]
noncomputable def G_Zk(nf:Nat):Nat->XT
 |0=>[]
 |kf+1=>[eF 167 [.v (kR 0),.v (kR 0)] [.v .bool] (fun t=>(fun(a:Ty) (b:Ty)=>runF (G_Zk nf kf++B_Zk nf) nf [.v (kR 0),.v (kR 0)] [.t 4 (.v .bool)] ir_Zk (a,b,())) t.1 t.2.1),
  eF 186 [.v (kL (kR 0)),.v (kL (kR 0)),.fn 167 []] [.v .bool] (fun t=>(fun(s1:List Ty) (s2:List Ty)=>runF (G_Zk nf kf++B_Zk nf) nf [.v (kL (kR 0)),.v (kL (kR 0)),.fn 167 []] [.t 6 (.v .bool)] ir_ZaT (s1,s2,(()),())) t.1 t.2.1)]
noncomputable abbrev T_Zk(nf kf:Nat):XT:=G_Zk nf kf++B_Zk nf
noncomputable abbrev T_ZaT(nf kf:Nat):XT:=G_Zk nf kf++B_Zk nf
noncomputable def m_Zk(nf kf:Nat)(a:Ty)(b:Ty):Option (Bool):=runF (T_Zk nf kf) nf [.v (kR 0),.v (kR 0)] [.t 4 (.v .bool)] ir_Zk (a,b,())
noncomputable def m_ZaT(nf kf:Nat)(s1:List Ty)(s2:List Ty):Option (Bool):=runF (T_ZaT nf kf) nf [.v (kL (kR 0)),.v (kL (kR 0)),.fn 167 []] [.t 6 (.v .bool)] ir_ZaT (s1,s2,(()),())
noncomputable def X_ZaT{R:Type}(nf kf:Nat):C->Env->(Xt->Env->Option R)->Option R:=xc (R:=R) (T_ZaT nf kf).S nf
theorem m_Zk_eq(nf kf:Nat)(a:Ty)(b:Ty):m_Zk nf (kf+1) a b=(br ((a.kind==b.kind)==true) (cb (m_ZaU nf a.labels b.labels) fun r15=>br (r15==true) (cb (m_ZaT nf kf a.args b.args) fun r22=>some r22) (some false)) (some false)):=by kernel_rfl
noncomputable def e_Zk(nf:Nat):XE:=eF 167 [.v (kR 0),.v (kR 0)] [.v .bool] (fun t=>m_Zk nf nf t.1 t.2.1)
noncomputable def l14_ZaT(nf kf:Nat)(m14:Nat)(s2:List Ty)(s1:List Ty)(x17_14:Int):Option (Bool):=xit [1,2,15,16,17] [] (X_ZaT nf kf c15_ZaT) (qB 0 (qS (X_ZaT nf kf c35_ZaT) (KF [.t 6 (.v .bool)]))) m14 ⟨[(1,.v (kL (kR 0)) s2),(2,.fn 167 []),(15,.v (kL (kR 0)) s1),(16,.v kI (List.length s1:Int)),(17,.v kI x17_14)],[]⟩
theorem l14_ZaT_eq(nf kf:Nat)(m14:Nat)(s2:List Ty)(s1:List Ty)(x17_14:Int):l14_ZaT nf (kf+1) (m14+1) s2 s1 x17_14=(br (decide (x17_14<(List.length s1:Int))) (gg (0<=x17_14∧x17_14<(List.length s1:Int))<|gg (0<=x17_14∧x17_14<(List.length s2:Int))<|cb (m_Zk nf kf (Ty.h (gt s1 x17_14 Ty.zero)) (Ty.h (gt s2 x17_14 Ty.zero))) fun r29=>br (!r29) (some false) (mark (l14_ZaT nf (kf+1) m14 s2 s1 (w64 (x17_14+(1:Int)))))) (some true)):=by kernel_rfl
theorem m_ZaT_eq(nf kf:Nat)(s1:List Ty)(s2:List Ty):m_ZaT nf (kf+1) s1 s2=(br (!((List.length s1:Int)==(List.length s2:Int))) (some false) (mark (l14_ZaT nf (kf+1) nf s2 s1 (0:Int)))):=by kernel_rfl
theorem gok_Zk(nf:Nat):∀kf:Nat,XT.ok Tryz.prog (G_Zk nf kf++B_Zk nf)
 |0=>by exact⟨o_ZaU nf,trivial⟩
 |kf+1=>by
  have ih:=gok_Zk nf kf
  refine⟨?_,?_,(by exact⟨o_ZaU nf,trivial⟩)⟩
  ·refine eF_ok fun t x h=> ?_
   obtain⟨a,b,_⟩:=t
   exact runF_ok (N:=24) ih Tryz.func167 (by kernel_rfl) rfl h
  ·refine eF_ok fun t x h=> ?_
   obtain⟨s1,s2,_,_⟩:=t
   exact runF_ok (N:=32) ih Tryz.func186 (by kernel_rfl) rfl h
theorem o_Zk(nf:Nat):conOK Tryz.prog 167 (e_Zk nf).con:=by
 have ih:=gok_Zk nf nf
 refine eF_ok fun t x h=> ?_
 obtain⟨a,b,_⟩:=t
 exact runF_ok (N:=24) ih Tryz.func167 (by kernel_rfl) rfl h
def c69_ZY:C:=.sq (.rg [.bd 129 0 [],.st T6 T129 (kR 0),.mv 7 (.b false)]) .rt
def c53_ZY:C:=.sq (.rg [.mv 107 T2,.ia 108 T107 (.i 0) (kR 0),.fa 109 T108 0 2 2,.ld 110 T109 (kL (kR 0)),.ia 111 T110 (.i 1) (kR 0),.ld 112 T111 (kR 0),.st T6 T112 (kR 0),.mv 7 (.b true)]) .rt
def c48_ZY:C:=.cd T105 (.sq (.rg [.bd 106 0 [],.st T6 T106 (kR 0),.mv 7 (.b false)]) .rt) .skip
def w48_ZY:C:=.kp [2,6,105] [[6]] c48_ZY
def ir_ZY:C:=.sq (.rg [.al 6 (kR 0),.mv 7 (.b false)]) (.sq (.sq (.rg [.mv 8 T1,.nck 9 T8,.fa 10 T9 2 0 0,.ld 11 T10 kI]) (.bk 0 (.sq (.rg [.bi 13 .eql T11 (.i 4),.mv 12 T13]) (.cd T12 (.sq (.rg [.mv 14 T1,.nck 15 T14,.fa 16 T15 2 1 1,.ld 17 T16 kS,.mv 18 T2,.ca (some 19) 193 [(T17,.v kS),(T18,.v (kL (kR 0)))],.xt 20 T19 0,.xt 21 T19 1,.st T6 T20 (kR 0),.mv 7 T21]) .rt) (.sq (.rg [.bi 23 .eql T11 (.i 5),.mv 22 T23]) (.cd T22 (.sq (.rg [.mv 24 T1,.nck 25 T24,.fa 26 T25 2 4 6,.ld 27 T26 (kL kS),.mv 28 T2,.bd 29 0 [(0,1,(.i 3)),(1,1,T27),(2,1,T28)],.st T6 T29 (kR 0),.mv 7 (.b true)]) .rt) (.sq (.rg [.bi 31 .eql T11 (.i 6),.mv 30 T31]) (.cd T30 (.sq (.dr [39] [.mv 32 T2,.ia 33 T32 (.i 0) (kR 0),.ld 34 T33 (kR 0),.mv 35 T1,.nck 36 T35,.fa 37 T36 2 1 1,.ld 38 T37 kS,.ca (some 39) 194 [(T34,.v (kR 0)),(T38,.v kS)],.xt 40 T39 0,.xt 41 T39 1] [.st T6 T40 (kR 0),.mv 7 T41]) .rt) (.sq (.rg [.bi 43 .eql T11 (.i 8),.mv 42 T43]) (.cd T42 (.sq (.rg [.mv 44 T2,.ia 45 T44 (.i 0) (kR 0),.ld 46 T45 (kR 0),.cv (some 47) 183 [(T46,.v (kR 0))],.st T6 T47 (kR 0),.mv 7 (.b true)]) .rt) (.sq (.rg [.bi 49 .eql T11 (.i 9),.mv 48 T49]) (.cd T48 (.sq (.dw [] [58,65] [.mv 50 T2,.ia 51 T50 (.i 0) (kR 0),.ld 52 T51 (kR 0),.mv 53 T2,.ia 54 T53 (.i 0) (kR 0),.fa 55 T54 0 0 0,.ld 56 T55 kI,.bi 57 .eql T56 (.i 4),.mv 58 T57,.g 58 true (.mv 59 T2),.g 58 true (.ia 60 T59 (.i 0) (kR 0)),.g 58 true (.ld 61 T60 (kR 0)),.g 58 true (.mv 62 T2),.g 58 true (.ia 63 T62 (.i 1) (kR 0)),.g 58 true (.ld 64 T63 (kR 0)),.g 58 true (.cv (some 65) 167 [(T61,.v (kR 0)),(T64,.v (kR 0))]),.pk 66 T58 T65 (.b false)] 6 T52 (kR 0) [.mv 7 T66]) .rt) (.sq (.rg [.bi 68 .eql T11 (.i 11),.mv 67 T68]) (.cd T67 (.sq (.dw [] [77,84] [.mv 69 T2,.ia 70 T69 (.i 1) (kR 0),.ld 71 T70 (kR 0),.mv 72 T2,.ia 73 T72 (.i 0) (kR 0),.fa 74 T73 0 0 0,.ld 75 T74 kI,.bi 76 .eql T75 (.i 2),.mv 77 T76,.g 77 true (.mv 78 T2),.g 77 true (.ia 79 T78 (.i 1) (kR 0)),.g 77 true (.ld 80 T79 (kR 0)),.g 77 true (.mv 81 T2),.g 77 true (.ia 82 T81 (.i 2) (kR 0)),.g 77 true (.ld 83 T82 (kR 0)),.g 77 true (.cv (some 84) 167 [(T80,.v (kR 0)),(T83,.v (kR 0))]),.pk 85 T77 T84 (.b false)] 6 T71 (kR 0) [.mv 7 T85]) .rt) (.sq (.rg [.bi 87 .eql T11 (.i 14),.mv 86 T87]) (.cd T86 (.sq (.sq (.dr [] [.mv 88 T2,.ia 89 T88 (.i 0) (kR 0),.fa 90 T89 0 0 0,.ld 91 T90 kI,.bi 92 .neq T91 (.i 5),.mv 93 T92,.g 93 false (.mv 94 T2),.g 93 false (.ia 95 T94 (.i 0) (kR 0)),.g 93 false (.fa 96 T95 0 2 2),.g 93 false (.ld 97 T96 (kL (kR 0))),.g 93 false (.ia 98 T97 (.i 0) (kR 0)),.g 93 false (.ld 99 T98 (kR 0)),.g 93 false (.mv 100 T2),.g 93 false (.ia 101 T100 (.i 1) (kR 0)),.g 93 false (.ld 102 T101 (kR 0))] [.g 93 false (.cv (some 103) 167 [(T99,.v (kR 0)),(T102,.v (kR 0))]),.g 93 false (.un 104 .not T103),.pk 105 T93 (.b true) T104]) w48_ZY) c53_ZY) (.sq (.rg [.bi 114 .eql T11 (.i 15),.mv 113 T114]) (.cd T113 (.sq (.dw [] [2,116,117,118,119] [.cv (some 115) 182 [],.mv 116 T2,.ia 117 T116 (.i 0) (kR 0),.fa 118 T117 0 0 0,.ld 119 T118 kI,.bi 120 .eql T119 (.i 4)] 6 T115 (kR 0) [.mv 7 T120]) .rt) (.sq (.rg [.bi 122 .eql T11 (.i 16),.mv 121 T122]) (.cd T121 (.sq (.dw [] [2,124,125,126,127] [.cv (some 123) 181 [],.mv 124 T2,.ia 125 T124 (.i 0) (kR 0),.fa 126 T125 0 0 0,.ld 127 T126 kI,.bi 128 .eql T127 (.i 4)] 6 T123 (kR 0) [.mv 7 T128]) .rt) .skip)))))))))))))))))))) c69_ZY)
noncomputable abbrev T_ZY(nf:Nat):XT:=[e_ZP nf,e_Zl nf,e_Zx nf,e_Zk nf,e_Zz nf,e_ZF nf]
noncomputable def m_ZY(nf:Nat)(y:Typer)(e:Tm)(t:List Ty):Option (Ty×Bool):=runF (T_ZY nf) nf [.p (kR 42),.p (kR 2),.v (kL (kR 0))] [.c 6 (.v (kR 0)),.t 7 (.v .bool)] ir_ZY (y,e,t,())
noncomputable def X_ZY{R:Type}(nf:Nat):C->Env->(Xt->Env->Option R)->Option R:=xc (R:=R) (T_ZY nf).S nf
noncomputable def j48_ZY(nf:Nat)(t:List Ty)(x105_48:Bool):Option (Ty×Bool):=X_ZY nf c48_ZY ⟨[(2,.v (kL (kR 0)) t),(6,.pt [6] 0),(105,.v .bool x105_48)],[([6],.box [.v kI (0:Int),.nl kS,.nl (kR 0)])]⟩ (qS (X_ZY nf c53_ZY) (qB 0 (qS (X_ZY nf c69_ZY) (KF [.c 6 (.v (kR 0)),.t 7 (.v .bool)]))))
theorem j48_ZY_eq(nf:Nat)(t:List Ty)(x105_48:Bool):j48_ZY nf t x105_48=(br x105_48 (some ((Ty.mk (0:Int) ([]:List Str) ([]:List Ty)),false)) (gg (0<=(0:Int)∧(0:Int)<(List.length t:Int))<|gg (0<=(1:Int)∧(1:Int)<(List.length ((gt t (0:Int) Ty.zero).args):Int))<|some ((Ty.h (gt ((gt t (0:Int) Ty.zero).args) (1:Int) Ty.zero)),true))):=by kernel_rfl
theorem m_ZY_eq(nf:Nat)(y:Typer)(e:Tm)(t:List Ty):m_ZY nf y e t=(br (e.kind==(4:Int)) (cb (m_ZP nf e.name t) fun r19=>some ((Ty.h r19.1),r19.2)) (br (e.kind==(5:Int)) (some ((Ty.mk (3:Int) e.labels t),true)) (br (e.kind==(6:Int)) (gg (0<=(0:Int)∧(0:Int)<(List.length t:Int))<|cb (m_Zl nf (gt t (0:Int) Ty.zero) e.name) fun r39=>some ((Ty.h r39.1),r39.2)) (br (e.kind==(8:Int)) (gg (0<=(0:Int)∧(0:Int)<(List.length t:Int))<|cb (m_Zx nf (gt t (0:Int) Ty.zero)) fun r47=>some ((Ty.h r47),true)) (br (e.kind==(9:Int)) (gg (0<=(0:Int)∧(0:Int)<(List.length t:Int))<|gg (0<=(0:Int)∧(0:Int)<(List.length t:Int))<|br ((((gt t (0:Int) Ty.zero).kind)==(4:Int))==true) (gg (0<=(0:Int)∧(0:Int)<(List.length t:Int))<|gg (0<=(1:Int)∧(1:Int)<(List.length t:Int))<|cb (m_Zk nf nf (gt t (0:Int) Ty.zero) (gt t (1:Int) Ty.zero)) fun r65=>some ((Ty.h (gt t (0:Int) Ty.zero)),r65)) (some ((Ty.h (gt t (0:Int) Ty.zero)),false))) (br (e.kind==(11:Int)) (gg (0<=(1:Int)∧(1:Int)<(List.length t:Int))<|gg (0<=(0:Int)∧(0:Int)<(List.length t:Int))<|br ((((gt t (0:Int) Ty.zero).kind)==(2:Int))==true) (gg (0<=(1:Int)∧(1:Int)<(List.length t:Int))<|gg (0<=(2:Int)∧(2:Int)<(List.length t:Int))<|cb (m_Zk nf nf (gt t (1:Int) Ty.zero) (gt t (2:Int) Ty.zero)) fun r84=>some ((Ty.h (gt t (1:Int) Ty.zero)),r84)) (some ((Ty.h (gt t (1:Int) Ty.zero)),false))) (br (e.kind==(14:Int)) (gg (0<=(0:Int)∧(0:Int)<(List.length t:Int))<|br ((!(((gt t (0:Int) Ty.zero).kind)==(5:Int)))==false) (gg (0<=(0:Int)∧(0:Int)<(List.length t:Int))<|gg (0<=(0:Int)∧(0:Int)<(List.length ((gt t (0:Int) Ty.zero).args):Int))<|gg (0<=(1:Int)∧(1:Int)<(List.length t:Int))<|cb (m_Zk nf nf (gt ((gt t (0:Int) Ty.zero).args) (0:Int) Ty.zero) (gt t (1:Int) Ty.zero)) fun r103=>mark (j48_ZY nf t (!r103))) (mark (j48_ZY nf t true))) (br (e.kind==(15:Int)) (cb (m_Zz nf) fun r115=>gg (0<=(0:Int)∧(0:Int)<(List.length t:Int))<|some ((Ty.h r115),(((gt t (0:Int) Ty.zero).kind)==(4:Int)))) (br (e.kind==(16:Int)) (cb (m_ZF nf) fun r123=>gg (0<=(0:Int)∧(0:Int)<(List.length t:Int))<|some ((Ty.h r123),(((gt t (0:Int) Ty.zero).kind)==(4:Int)))) (some ((Ty.mk (0:Int) ([]:List Str) ([]:List Ty)),false))))))))))):=by
 unfold m_ZY j48_ZY ir_ZY w48_ZY c53_ZY c69_ZY
 generalize c48_ZY=x0
 revert x0
 refine id ?_
 intro x0
 kernel_rfl
noncomputable def e_ZY(nf:Nat):XE:=eF 185 [.p (kR 42),.p (kR 2),.v (kL (kR 0))] [.v (kR 0),.v .bool] (fun t=>m_ZY nf t.1 t.2.1 t.2.2.1)
theorem o_ZY(nf:Nat):conOK Tryz.prog 185 (e_ZY nf).con:=by
 have ih:XT.ok Tryz.prog (T_ZY nf):=by exact⟨o_ZP nf,o_Zl nf,o_Zx nf,o_Zk nf,o_Zz nf,o_ZF nf,trivial⟩
 refine eF_ok fun t x h=> ?_
 obtain⟨y,e,t,_⟩:=t
 exact runF_ok (N:=130) ih Tryz.func185 (by kernel_rfl) rfl h
def ir_ZX:C:=.sq (.rg [.al 6 (kR 0),.mv 7 (.b false)]) (.sq (.rg [.mv 11 T0,.mv 12 T1,.mv 13 T2,.ca (some 14) 166 [(T11,.v (.ptr (kR 42))),(T12,.v (kL (kR 8))),(T13,.v (.ptr (kR 2)))],.mv 10 T14,.xt 15 T10 0,.xt 16 T10 1,.al 8 (kR 0),.st T8 T15 (kR 0),.mv 9 T16]) (.sq (.dw [] [19,21] [.ld 17 T8 (kR 0),.mv 18 T9,.mv 19 T18,.g 19 true (.ld 20 T8 (kR 0)),.g 19 true (.cv (some 21) 118 [(T20,.v (kR 0))]),.pk 22 T19 T21 (.b false)] 6 T17 (kR 0) [.mv 7 T22]) .rt))
def c31_ZV:C:=.sq (.rg [.mv 40 T8,.mv 6 T40,.mv 7 (.b true)]) .rt
def c9_ZV:C:=.sq (.rg [.bi 19 .lss T18 T17]) (.sq (.cd T19 .skip (.ex 0)) (.sq (.bk 1 (.sq (.rg [.mv 20 T18,.mv 9 T20]) (.sq (.rg [.mv 22 T0,.mv 23 T1,.mv 24 T2,.nck 25 T24,.fa 26 T25 2 5 7,.ld 27 T26 (kL (kR 2)),.mv 28 T9,.ia 29 T27 T28 (kR 2),.ca (some 30) 142 [(T22,.v (.ptr (kR 42))),(T23,.v (kL (kR 8))),(T29,.v (.ptr (kR 2)))],.mv 21 T30,.xt 31 T21 0,.xt 32 T21 1,.al 10 (kR 0),.st T10 T31 (kR 0),.mv 11 T32]) (.sq (.sq (.rg [.mv 33 T11,.un 34 .not T33]) (.cd T34 (.sq (.rg [.mv 6 (.nl (kR 0)),.mv 7 (.b false)]) .rt) .skip)) (.gt 8 false (kR 0) (.rg [.mv 35 T8,.ld 36 T10 (kR 0),.bs 37 false (kR 0) [T36],.ap 38 [8] false (kR 0) T35 T37,.mv 8 T38])))))) (.rg [.bi 39 .add T18 (.i 1),.mv 18 T39])))
def ir_ZV:C:=.sq (.rg [.mv 6 (.nl (kR 0)),.mv 7 (.b false)]) (.sq (.rg [.bs 12 false (kR 0) [],.mv 8 T12]) (.sq (.sq (.rg [.mv 13 T2,.nck 14 T13,.fa 15 T14 2 5 7,.ld 16 T15 (kL (kR 2)),.ln 17 false T16,.mv 18 (.i 0)]) (.bk 0 (.gt 8 false (kR 0) (.lk [0,1,2,8,17,18] [[8]] c9_ZV)))) c31_ZV))
def c65_ZW:C:=.sq (.rg [.mv 140 T0,.mv 141 T1,.mv 142 T2,.ca (some 143) 184 [(T140,.v (.ptr (kR 42))),(T141,.v (kL (kR 8))),(T142,.v (.ptr (kR 2)))],.mv 139 T143,.xt 144 T139 0,.xt 145 T139 1,.mv 15 T144,.mv 16 T145]) (.sq (.sq (.rg [.mv 146 T16,.un 147 .not T146]) (.cd T147 (.sq (.rg [.bd 148 0 [],.st T6 T148 (kR 0),.mv 7 (.b false)]) .rt) .skip)) (.sq (.gz 15 (kL (kR 0)) (.rg [.mv 149 T0,.mv 150 T2,.mv 151 T15,.ca (some 152) 185 [(T149,.v (.ptr (kR 42))),(T150,.v (.ptr (kR 2))),(T151,.v (kL (kR 0)))],.xt 153 T152 0,.xt 154 T152 1,.st T6 T153 (kR 0),.mv 7 T154])) .rt))
def c55_ZW:C:=.rt
def w55_ZW:C:=.kp [6,7] [[6]] c55_ZW
def c51_ZW:C:=.sq (.dw [99,12] [82] [.mv 83 T0,.mv 84 T1,.mv 85 T2,.nck 86 T85,.fa 87 T86 2 1 1,.ld 88 T87 kS,.fa 89 T10 0 2 2,.ld 90 T89 (kL (kR 0)),.ia 91 T90 (.i 0) (kR 0),.ld 92 T91 (kR 0),.cv (some 93) 83 [(T84,.v (kL (kR 8))),(T88,.v kS),(T92,.v (kR 0))],.mv 94 T2,.nck 95 T94,.fa 96 T95 2 5 7,.ld 97 T96 (kL (kR 2)),.ia 98 T97 (.i 1) (kR 2),.ca (some 99) 142 [(T83,.v (.ptr (kR 42))),(T93,.v (kL (kR 8))),(T98,.v (.ptr (kR 2)))],.mv 82 T99,.xt 100 T82 0,.xt 101 T82 1,.al 12 (kR 0)] 12 T100 (kR 0) [.mv 11 T101]) (.sq (.dw [] [12,104,105,106,107] [.ld 102 T12 (kR 0),.mv 103 T11,.mv 104 T103,.g 104 true (.fa 105 T12 0 0 0),.g 104 true (.ld 106 T105 kI),.g 104 true (.bi 107 .eql T106 (.i 4)),.pk 108 T104 T107 (.b false)] 6 T102 (kR 0) [.mv 7 T108]) w55_ZW)
def c46_ZW:C:=.cd T80 (.sq (.rg [.bd 81 0 [],.st T6 T81 (kR 0),.mv 7 (.b false)]) .rt) .skip
def w46_ZW:C:=.kp [0,1,2,6,10,80] [[6],[10]] c46_ZW
def ir_ZW:C:=.sq (.rg [.al 6 (kR 0),.mv 7 (.b false)]) (.sq (.sq (.rg [.mv 17 T2,.nck 18 T17,.fa 19 T18 2 0 0,.ld 20 T19 kI]) (.bk 0 (.sq (.rg [.bi 22 .eql T20 (.i 1),.mv 21 T22]) (.cd T21 (.sq (.rg [.mv 23 T1,.mv 24 T2,.nck 25 T24,.fa 26 T25 2 1 1,.ld 27 T26 kS,.ca (some 28) 82 [(T23,.v (kL (kR 8))),(T27,.v kS)],.xt 29 T28 0,.xt 30 T28 1,.st T6 T29 (kR 0),.mv 7 T30]) .rt) (.sq (.rg [.bi 32 .eql T20 (.i 2),.mv 31 T32]) (.cd T31 (.sq (.rg [.cv (some 33) 181 [],.st T6 T33 (kR 0),.mv 7 (.b true)]) .rt) (.sq (.rg [.bi 35 .eql T20 (.i 3),.mv 34 T35]) (.cd T34 (.sq (.rg [.cv (some 36) 182 [],.st T6 T36 (kR 0),.mv 7 (.b true)]) .rt) (.sq (.rg [.bi 38 .eql T20 (.i 12),.mv 37 T38]) (.cd T37 (.sq (.dw [48,8] [39] [.mv 40 T0,.nck 41 T40,.fa 42 T41 42 0 0,.ld 43 T42 (kR 5),.mv 44 T2,.nck 45 T44,.fa 46 T45 2 1 1,.ld 47 T46 kS,.ca (some 48) 81 [(T43,.v (kR 5)),(T47,.v kS)],.mv 39 T48,.xt 49 T39 0,.xt 50 T39 1,.al 8 (kR 0)] 8 T49 (kR 0) [.mv 9 T50]) (.sq (.rg [.ld 51 T8 (kR 0),.cv (some 52) 183 [(T51,.v (kR 0))],.mv 53 T9,.st T6 T52 (kR 0),.mv 7 T53]) .rt)) (.sq (.rg [.bi 55 .eql T20 (.i 7),.mv 54 T55]) (.cd T54 (.sq (.rg [.mv 56 T2,.nck 57 T56,.fa 58 T57 2 3 3,.ld 59 T58 (kR 0),.cv (some 60) 183 [(T59,.v (kR 0))],.st T6 T60 (kR 0),.mv 7 (.b true)]) .rt) (.sq (.rg [.bi 62 .eql T20 (.i 10),.mv 61 T62]) (.cd T61 (.sq (.rg [.mv 64 T0,.mv 65 T1,.mv 66 T2,.nck 67 T66,.fa 68 T67 2 5 7,.ld 69 T68 (kL (kR 2)),.ia 70 T69 (.i 0) (kR 2),.ca (some 71) 142 [(T64,.v (.ptr (kR 42))),(T65,.v (kL (kR 8))),(T70,.v (.ptr (kR 2)))],.mv 63 T71,.xt 72 T63 0,.xt 73 T63 1,.al 10 (kR 0),.st T10 T72 (kR 0),.mv 11 T73]) (.sq (.sq (.rg [.mv 74 T11,.un 75 .not T74,.mv 76 T75,.g 76 false (.fa 77 T10 0 0 0),.g 76 false (.ld 78 T77 kI),.g 76 false (.bi 79 .neq T78 (.i 4)),.pk 80 T76 (.b true) T79]) w46_ZW) c51_ZW)) (.sq (.rg [.bi 110 .eql T20 (.i 13),.mv 109 T110]) (.cd T109 (.sq (.dw [128,13] [111] [.mv 112 T0,.mv 113 T1,.mv 114 T2,.nck 115 T114,.fa 116 T115 2 1 1,.ld 117 T116 kS,.mv 118 T2,.nck 119 T118,.fa 120 T119 2 3 3,.ld 121 T120 (kR 0),.cv (some 122) 83 [(T113,.v (kL (kR 8))),(T117,.v kS),(T121,.v (kR 0))],.mv 123 T2,.nck 124 T123,.fa 125 T124 2 5 7,.ld 126 T125 (kL (kR 2)),.ia 127 T126 (.i 0) (kR 2),.ca (some 128) 142 [(T112,.v (.ptr (kR 42))),(T122,.v (kL (kR 8))),(T127,.v (.ptr (kR 2)))],.mv 111 T128,.xt 129 T111 0,.xt 130 T111 1,.al 13 (kR 0)] 13 T129 (kR 0) [.mv 14 T130]) (.sq (.dw [] [14] [.mv 131 T2,.nck 132 T131,.fa 133 T132 2 3 3,.ld 134 T133 (kR 0),.ld 135 T13 (kR 0),.bf 136 (kR 0) [T134,T135],.bd 137 0 [(0,1,(.i 5)),(2,1,T136)],.mv 138 T14] 6 T137 (kR 0) [.mv 7 T138]) .rt)) .skip)))))))))))))))) c65_ZW)
noncomputable def B_ZX(nf:Nat):XT:=[e_Zt nf,e_ZE nf,e_ZF nf,e_Zz nf,e_Zv nf,e_Zx nf,e_ZZ nf,e_ZY nf]
noncomputable def G_ZX(nf:Nat):Nat->XT
 |0=>[]
 |kf+1=>[eF 142 [.p (kR 42),.v (kL (kR 8)),.p (kR 2)] [.v (kR 0),.v .bool] (fun t=>(fun(y:Typer) (ctx:List Typing) (e:Tm)=>runF (G_ZX nf kf++B_ZX nf) nf [.p (kR 42),.v (kL (kR 8)),.p (kR 2)] [.c 6 (.v (kR 0)),.t 7 (.v .bool)] ir_ZX (y,ctx,e,())) t.1 t.2.1 t.2.2.1),
  eF 184 [.p (kR 42),.v (kL (kR 8)),.p (kR 2)] [.s (kR 0),.v .bool] (fun t=>(fun(y:Typer) (ctx:List Typing) (e:Tm)=>runF (G_ZX nf kf++B_ZX nf) nf [.p (kR 42),.v (kL (kR 8)),.p (kR 2)] [.t 6 (.s (kR 0)),.t 7 (.v .bool)] ir_ZV (y,ctx,e,())) t.1 t.2.1 t.2.2.1),
  eF 166 [.p (kR 42),.v (kL (kR 8)),.p (kR 2)] [.v (kR 0),.v .bool] (fun t=>(fun(y:Typer) (ctx:List Typing) (e:Tm)=>runF (G_ZX nf kf++B_ZX nf) nf [.p (kR 42),.v (kL (kR 8)),.p (kR 2)] [.c 6 (.v (kR 0)),.t 7 (.v .bool)] ir_ZW (y,ctx,e,())) t.1 t.2.1 t.2.2.1)]
noncomputable abbrev T_ZX(nf kf:Nat):XT:=G_ZX nf kf++B_ZX nf
noncomputable abbrev T_ZV(nf kf:Nat):XT:=G_ZX nf kf++B_ZX nf
noncomputable abbrev T_ZW(nf kf:Nat):XT:=G_ZX nf kf++B_ZX nf
noncomputable def m_ZX(nf kf:Nat)(y:Typer)(ctx:List Typing)(e:Tm):Option (Ty×Bool):=runF (T_ZX nf kf) nf [.p (kR 42),.v (kL (kR 8)),.p (kR 2)] [.c 6 (.v (kR 0)),.t 7 (.v .bool)] ir_ZX (y,ctx,e,())
noncomputable def m_ZV(nf kf:Nat)(y:Typer)(ctx:List Typing)(e:Tm):Option ((List Ty)×Bool):=runF (T_ZV nf kf) nf [.p (kR 42),.v (kL (kR 8)),.p (kR 2)] [.t 6 (.s (kR 0)),.t 7 (.v .bool)] ir_ZV (y,ctx,e,())
noncomputable def X_ZV{R:Type}(nf kf:Nat):C->Env->(Xt->Env->Option R)->Option R:=xc (R:=R) (T_ZV nf kf).S nf
noncomputable def m_ZW(nf kf:Nat)(y:Typer)(ctx:List Typing)(e:Tm):Option (Ty×Bool):=runF (T_ZW nf kf) nf [.p (kR 42),.v (kL (kR 8)),.p (kR 2)] [.c 6 (.v (kR 0)),.t 7 (.v .bool)] ir_ZW (y,ctx,e,())
noncomputable def X_ZW{R:Type}(nf kf:Nat):C->Env->(Xt->Env->Option R)->Option R:=xc (R:=R) (T_ZW nf kf).S nf
theorem m_ZX_eq(nf kf:Nat)(y:Typer)(ctx:List Typing)(e:Tm):m_ZX nf (kf+1) y ctx e=(cb (m_ZW nf kf y ctx e) fun r14=>br (r14.2==true) (cb (m_Zt nf (Ty.h r14.1)) fun r21=>some ((Ty.h r14.1),r21)) (some ((Ty.h r14.1),false))):=by kernel_rfl
noncomputable def e_ZX(nf:Nat):XE:=eF 142 [.p (kR 42),.v (kL (kR 8)),.p (kR 2)] [.v (kR 0),.v .bool] (fun t=>m_ZX nf nf t.1 t.2.1 t.2.2.1)
noncomputable def l8_ZV(nf kf:Nat)(m8:Nat)(y:Typer)(ctx:List Typing)(e:Tm)(x18_8:Int)(y8_8:List Ty):Option ((List Ty)×Bool):=xit [0,1,2,8,17,18] [[8]] (X_ZV nf kf c9_ZV) (qB 0 (qS (X_ZV nf kf c31_ZV) (KF [.t 6 (.s (kR 0)),.t 7 (.v .bool)]))) m8 ⟨[(0,.v (.ptr (kR 42)) (some y)),(1,.v (kL (kR 8)) ctx),(2,.v (.ptr (kR 2)) (some e)),(8,.sl [8]),(17,.v kI (List.length e.args:Int)),(18,.v kI x18_8)],[([8],.row false false (kR 0) y8_8)]⟩
theorem l8_ZV_eq(nf kf:Nat)(m8:Nat)(y:Typer)(ctx:List Typing)(e:Tm)(x18_8:Int)(y8_8:List Ty):l8_ZV nf (kf+1) (m8+1) y ctx e x18_8 y8_8=(br (decide (x18_8<(List.length e.args:Int))) (gg (0<=x18_8∧x18_8<(List.length e.args:Int))<|cb (m_ZX nf kf y ctx (gt e.args x18_8 Tm.zero)) fun r30=>br (!r30.2) (some (([]:List Ty),false)) (gg (List.length y8_8+List.length ([(Ty.h r30.1)]:List Ty)<=33554432)<|mark (l8_ZV nf (kf+1) m8 y ctx e (w64 (x18_8+(1:Int))) (y8_8++([(Ty.h r30.1)]:List Ty))))) (some (y8_8,true))):=by kernel_rfl
theorem m_ZV_eq(nf kf:Nat)(y:Typer)(ctx:List Typing)(e:Tm):m_ZV nf (kf+1) y ctx e=(mark (l8_ZV nf (kf+1) nf y ctx e (0:Int) ([]:List Ty))):=by kernel_rfl
noncomputable def j46_ZW(nf kf:Nat)(y:Typer)(ctx:List Typing)(e:Tm)(r71:Ty×Bool)(x80_46:Bool):Option (Ty×Bool):=X_ZW nf kf c46_ZW ⟨[(0,.v (.ptr (kR 42)) (some y)),(1,.v (kL (kR 8)) ctx),(2,.v (.ptr (kR 2)) (some e)),(6,.pt [6] 0),(10,.pt [10] 0),(80,.v .bool x80_46)],[([6],.box [.v kI (0:Int),.nl kS,.nl (kR 0)]),([10],.box [.v kI r71.1.kind,.v (kL kS) r71.1.labels,.v (kL (kR 0)) r71.1.args])]⟩ (qS (X_ZW nf kf c51_ZW) (qB 0 (qS (X_ZW nf kf c65_ZW) (KF [.c 6 (.v (kR 0)),.t 7 (.v .bool)]))))
noncomputable def j55_ZW(nf kf:Nat)(r99:Ty×Bool)(x7_55:Bool):Option (Ty×Bool):=X_ZW nf kf c55_ZW ⟨[(6,.pt [6] 0),(7,.v .bool x7_55)],[([6],.box [.v kI r99.1.kind,.v (kL kS) r99.1.labels,.v (kL (kR 0)) r99.1.args])]⟩ (qB 0 (qS (X_ZW nf kf c65_ZW) (KF [.c 6 (.v (kR 0)),.t 7 (.v .bool)])))
theorem j46_ZW_eq(nf kf:Nat)(y:Typer)(ctx:List Typing)(e:Tm)(r71:Ty×Bool)(x80_46:Bool):j46_ZW nf (kf+1) y ctx e r71 x80_46=(br x80_46 (some ((Ty.mk (0:Int) ([]:List Str) ([]:List Ty)),false)) (gg (0<=(0:Int)∧(0:Int)<(List.length r71.1.args:Int))<|cb (m_ZZ nf ctx e.name (gt r71.1.args (0:Int) Ty.zero)) fun r93=>gg (0<=(1:Int)∧(1:Int)<(List.length e.args:Int))<|cb (m_ZX nf kf y r93 (gt e.args (1:Int) Tm.zero)) fun r99=>br (r99.2==true) (mark (j55_ZW nf (kf+1) r99 (r99.1.kind==(4:Int)))) (mark (j55_ZW nf (kf+1) r99 false)))):=by
 unfold j46_ZW j55_ZW c46_ZW c65_ZW c51_ZW w55_ZW
 generalize c55_ZW=x0
 revert x0
 refine id ?_
 intro x0
 kernel_rfl
theorem j55_ZW_eq(nf kf:Nat)(r99:Ty×Bool)(x7_55:Bool):j55_ZW nf (kf+1) r99 x7_55=(some ((Ty.h r99.1),x7_55)):=by kernel_rfl
theorem m_ZW_eq(nf kf:Nat)(y:Typer)(ctx:List Typing)(e:Tm):m_ZW nf (kf+1) y ctx e=(br (e.kind==(1:Int)) (cb (m_ZE nf ctx e.name) fun r28=>some ((Ty.h r28.1),r28.2)) (br (e.kind==(2:Int)) (cb (m_ZF nf) fun r33=>some ((Ty.h r33),true)) (br (e.kind==(3:Int)) (cb (m_Zz nf) fun r36=>some ((Ty.h r36),true)) (br (e.kind==(12:Int)) (cb (m_Zv nf y.s e.name) fun r48=>cb (m_Zx nf (Ty.h r48.1)) fun r52=>some ((Ty.h r52),r48.2)) (br (e.kind==(7:Int)) (cb (m_Zx nf e.type) fun r60=>some ((Ty.h r60),true)) (br (e.kind==(10:Int)) (gg (0<=(0:Int)∧(0:Int)<(List.length e.args:Int))<|cb (m_ZX nf kf y ctx (gt e.args (0:Int) Tm.zero)) fun r71=>br ((!r71.2)==false) (mark (j46_ZW nf (kf+1) y ctx e r71 (!(r71.1.kind==(4:Int))))) (mark (j46_ZW nf (kf+1) y ctx e r71 true))) (br (e.kind==(13:Int)) (cb (m_ZZ nf ctx e.name e.type) fun r122=>gg (0<=(0:Int)∧(0:Int)<(List.length e.args:Int))<|cb (m_ZX nf kf y r122 (gt e.args (0:Int) Tm.zero)) fun r128=>some ((Ty.mk (5:Int) ([]:List Str) ([e.type,(Ty.h r128.1)]:List Ty)),r128.2)) (cb (m_ZV nf kf y ctx e) fun r143=>br (!r143.2) (some ((Ty.mk (0:Int) ([]:List Str) ([]:List Ty)),false)) (cb (m_ZY nf y e r143.1) fun r152=>some ((Ty.h r152.1),r152.2)))))))))):=by
 unfold m_ZW j46_ZW ir_ZW w46_ZW c51_ZW c65_ZW w55_ZW
 generalize c46_ZW=x0
 generalize c55_ZW=x1
 revert x0 x1
 refine id ?_
 intro x0 x1
 kernel_rfl
theorem gok_ZX(nf:Nat):∀kf:Nat,XT.ok Tryz.prog (G_ZX nf kf++B_ZX nf)
 |0=>by exact⟨o_Zt nf,o_ZE nf,o_ZF nf,o_Zz nf,o_Zv nf,o_Zx nf,o_ZZ nf,o_ZY nf,trivial⟩
 |kf+1=>by
  have ih:=gok_ZX nf kf
  refine⟨?_,?_,?_,(by exact⟨o_Zt nf,o_ZE nf,o_ZF nf,o_Zz nf,o_Zv nf,o_Zx nf,o_ZZ nf,o_ZY nf,trivial⟩)⟩
  ·refine eF_ok fun t x h=> ?_
   obtain⟨y,ctx,e,_⟩:=t
   exact runF_ok (N:=23) ih Tryz.func142 (by kernel_rfl) rfl h
  ·refine eF_ok fun t x h=> ?_
   obtain⟨y,ctx,e,_⟩:=t
   exact runF_ok (N:=41) ih Tryz.func184 (by kernel_rfl) rfl h
  ·refine eF_ok fun t x h=> ?_
   obtain⟨y,ctx,e,_⟩:=t
   exact runF_ok (N:=155) ih Tryz.func166 (by kernel_rfl) rfl h
theorem o_ZX(nf:Nat):conOK Tryz.prog 142 (e_ZX nf).con:=by
 have ih:=gok_ZX nf nf
 refine eF_ok fun t x h=> ?_
 obtain⟨y,ctx,e,_⟩:=t
 exact runF_ok (N:=23) ih Tryz.func142 (by kernel_rfl) rfl h
end Go.Q
