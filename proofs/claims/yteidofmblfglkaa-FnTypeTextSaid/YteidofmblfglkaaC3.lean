/- Types and their paths: the program's side. -/
import Derived.Test.YteidofmblfglkaaC2
import Derived.Test.YteidofmblfglkaaJn
import Derived.Test.YteidofmblfglkaaProg
import Derived.KernelRfl
set_option linter.unusedVariables false
set_option linter.unusedSimpArgs false
namespace Go.Q
open Go.Proofs
set_option maxRecDepth 20000
set_option maxHeartbeats 4000000
def ir_Zn:C:=.sq (.rg [.mv 2 (.b false)]) (.sq (.rg [.mv 3 T0,.bi 4 .geq T3 (.k .u8 97),.mv 5 T4,.g 5 true (.mv 6 T0),.g 5 true (.bi 7 .leq T6 (.k .u8 122)),.pk 8 T5 T7 (.b false),.mv 2 T8]) .rt)
noncomputable abbrev T_Zn(nf:Nat):XT:=[]
noncomputable def m_Zn(nf:Nat)(c:Int):Option (Bool):=runF (T_Zn nf) nf [.v (.int .u8)] [.t 2 (.v .bool)] ir_Zn (c,())
theorem m_Zn_eq(nf:Nat)(c:Int):m_Zn nf c=(br ((decide ((97:Int)<=c))==true) (some (decide (c<=(122:Int)))) (some false)):=by kernel_rfl
noncomputable def e_Zn(nf:Nat):XE:=eF 109 [.v (.int .u8)] [.v .bool] (fun t=>m_Zn nf t.1)
theorem o_Zn(nf:Nat):conOK Try.prog 109 (e_Zn nf).con:=by
 have ih:XT.ok Try.prog (T_Zn nf):=by exact trivial
 refine eF_ok fun t x h=> ?_
 obtain⟨c,_⟩:=t
 exact runF_ok (N:=9) ih Try.func109 (by kernel_rfl) rfl h
def ir_Zm:C:=.sq (.rg [.mv 2 (.b false)]) (.sq (.rg [.mv 3 T0,.bi 4 .geq T3 (.k .u8 48),.mv 5 T4,.g 5 true (.mv 6 T0),.g 5 true (.bi 7 .leq T6 (.k .u8 57)),.pk 8 T5 T7 (.b false),.mv 2 T8]) .rt)
noncomputable abbrev T_Zm(nf:Nat):XT:=[]
noncomputable def m_Zm(nf:Nat)(c:Int):Option (Bool):=runF (T_Zm nf) nf [.v (.int .u8)] [.t 2 (.v .bool)] ir_Zm (c,())
theorem m_Zm_eq(nf:Nat)(c:Int):m_Zm nf c=(br ((decide ((48:Int)<=c))==true) (some (decide (c<=(57:Int)))) (some false)):=by kernel_rfl
noncomputable def e_Zm(nf:Nat):XE:=eF 110 [.v (.int .u8)] [.v .bool] (fun t=>m_Zm nf t.1)
theorem o_Zm(nf:Nat):conOK Try.prog 110 (e_Zm nf).con:=by
 have ih:XT.ok Try.prog (T_Zm nf):=by exact trivial
 refine eF_ok fun t x h=> ?_
 obtain⟨c,_⟩:=t
 exact runF_ok (N:=9) ih Try.func110 (by kernel_rfl) rfl h
def c33_Zf:C:=.sq (.rg [.mv 2 (.b true)]) .rt
def c32_Zf:C:=.rg [.bi 43 .add T28 (.i 1),.mv 28 T43]
def c27_Zf:C:=.cd T42 (.sq (.rg [.mv 2 (.b false)]) .rt) .skip
def w27_Zf:C:=.kp [0,27,28,42] [] c27_Zf
def c15_Zf:C:=.sq (.rg [.bi 29 .lss T28 T27]) (.sq (.cd T29 .skip (.ex 0)) (.sq (.bk 1 (.sq (.rg [.mv 30 T28,.mv 3 T30]) (.sq (.rg [.mv 31 T0,.mv 32 T3,.ix 33 T31 T32,.cv (some 34) 109 [(T33,.v (.int .u8))],.un 35 .not T34,.mv 36 T35,.g 36 true (.mv 37 T0),.g 36 true (.mv 38 T3),.g 36 true (.ix 39 T37 T38),.g 36 true (.cv (some 40) 110 [(T39,.v (.int .u8))]),.g 36 true (.un 41 .not T40),.pk 42 T36 T41 (.b false)]) w27_Zf))) c32_Zf))
def c10_Zf:C:=.sq (.sq (.rg [.mv 26 T0,.ln 27 true T26,.mv 28 (.i 0)]) (.bk 0 (.lk [0,27,28] [] c15_Zf))) c33_Zf
def c5_Zf:C:=.cd T25 (.sq (.rg [.mv 2 (.b false)]) .rt) .skip
def w5_Zf:C:=.kp [0,25] [] c5_Zf
def ir_Zf:C:=.sq (.rg [.mv 2 (.b false)]) (.sq (.sq (.rg [.mv 4 T0,.ln 5 true T4,.bi 6 .lss T5 (.i 1),.mv 7 T6,.g 7 false (.mv 8 T0),.g 7 false (.ln 9 true T8),.g 7 false (.bi 10 .gtr T9 (.i 4)),.pk 11 T7 (.b true) T10,.mv 12 T11,.g 12 false (.mv 13 T0),.g 12 false (.ix 14 T13 (.i 0)),.g 12 false (.cv (some 15) 109 [(T14,.v (.int .u8))]),.g 12 false (.un 16 .not T15),.pk 17 T12 (.b true) T16,.mv 18 T17,.g 18 false (.mv 19 T0),.g 18 false (.bi 20 .eql T19 (.s [105,102])),.pk 21 T18 (.b true) T20,.mv 22 T21,.g 22 false (.mv 23 T0),.g 22 false (.bi 24 .eql T23 (.s [102,111,114])),.pk 25 T22 (.b true) T24]) w5_Zf) c10_Zf)
noncomputable abbrev T_Zf(nf:Nat):XT:=[e_Zn nf,e_Zm nf]
noncomputable def m_Zf(nf:Nat)(s:Str):Option (Bool):=runF (T_Zf nf) nf [.v kS] [.t 2 (.v .bool)] ir_Zf (s,())
noncomputable def X_Zf{R:Type}(nf:Nat):C->Env->(Xt->Env->Option R)->Option R:=xc (R:=R) (T_Zf nf).S nf
noncomputable def j5_Zf(nf:Nat)(s:Str)(x25_5:Bool):Option (Bool):=X_Zf nf c5_Zf ⟨[(0,.v kS s),(25,.v .bool x25_5)],[]⟩ (qS (X_Zf nf c10_Zf) (KF [.t 2 (.v .bool)]))
noncomputable def j27_Zf(nf:Nat)(m14:Nat)(s:Str)(x28_14:Int)(x42_27:Bool):Option (Bool):=X_Zf nf c27_Zf ⟨[(0,.v kS s),(27,.v kI (List.length s:Int)),(28,.v kI x28_14),(42,.v .bool x42_27)],[]⟩ (qB 1 (qS (X_Zf nf c32_Zf) (qM [0,27,28] [] (X_Zf nf c15_Zf) m14 (qB 0 (qS (X_Zf nf c33_Zf) (KF [.t 2 (.v .bool)]))))))
noncomputable def l14_Zf(nf:Nat)(m14:Nat)(s:Str)(x28_14:Int):Option (Bool):=xit [0,27,28] [] (X_Zf nf c15_Zf) (qB 0 (qS (X_Zf nf c33_Zf) (KF [.t 2 (.v .bool)]))) m14 ⟨[(0,.v kS s),(27,.v kI (List.length s:Int)),(28,.v kI x28_14)],[]⟩
theorem j5_Zf_eq(nf:Nat)(s:Str)(x25_5:Bool):j5_Zf nf s x25_5=(br x25_5 (some false) (mark (l14_Zf nf nf s (0:Int)))):=by kernel_rfl
theorem j27_Zf_eq(nf:Nat)(m14:Nat)(s:Str)(x28_14:Int)(x42_27:Bool):j27_Zf nf m14 s x28_14 x42_27=(br x42_27 (some false) (mark (l14_Zf nf m14 s (w64 (x28_14+(1:Int)))))):=by kernel_rfl
theorem l14_Zf_eq(nf:Nat)(m14:Nat)(s:Str)(x28_14:Int):l14_Zf nf (m14+1) s x28_14=(br (decide (x28_14<(List.length s:Int))) (gg (0<=x28_14∧x28_14<(List.length s:Int))<|cb (m_Zn nf ((List.getD s (Int.toNat x28_14) 0).toNat:Int)) fun r34=>br ((!r34)==true) (gg (0<=x28_14∧x28_14<(List.length s:Int))<|cb (m_Zm nf ((List.getD s (Int.toNat x28_14) 0).toNat:Int)) fun r40=>mark (j27_Zf nf m14 s x28_14 (!r40))) (mark (j27_Zf nf m14 s x28_14 false))) (some true)):=by
 unfold l14_Zf j27_Zf c15_Zf c33_Zf w27_Zf c32_Zf
 generalize c27_Zf=x0
 revert x0
 refine id ?_
 intro x0
 kernel_rfl
theorem m_Zf_eq(nf:Nat)(s:Str):m_Zf nf s=(br ((decide ((List.length s:Int)<(1:Int)))==false) (br ((decide ((4:Int)<(List.length s:Int)))==false) (gg (0<=(0:Int)∧(0:Int)<(List.length s:Int))<|cb (m_Zn nf ((List.getD s (Int.toNat (0:Int)) 0).toNat:Int)) fun r15=>br ((!r15)==false) (br ((s==([105,102]:Str))==false) (mark (j5_Zf nf s (s==([102,111,114]:Str)))) (mark (j5_Zf nf s true))) (mark (j5_Zf nf s true))) (mark (j5_Zf nf s true))) (mark (j5_Zf nf s true))):=by
 conv=>lhs;unfold m_Zf
 unfold j5_Zf ir_Zf w5_Zf c10_Zf c33_Zf
 generalize c5_Zf=x0
 revert x0
 refine id ?_
 intro x0
 kernel_rfl
noncomputable def e_Zf(nf:Nat):XE:=eF 111 [.v kS] [.v .bool] (fun t=>m_Zf nf t.1)
theorem o_Zf(nf:Nat):conOK Try.prog 111 (e_Zf nf).con:=by
 have ih:XT.ok Try.prog (T_Zf nf):=by exact⟨o_Zn nf,o_Zm nf,trivial⟩
 refine eF_ok fun t x h=> ?_
 obtain⟨s,_⟩:=t
 exact runF_ok (N:=44) ih Try.func111 (by kernel_rfl) rfl h
def c23_Zc:C:=.sq (.rg [.mv 2 (.b true)]) .rt
def c7_Zc:C:=.sq (.sq (.rg [.mv 4 T3,.mv 5 T0,.ln 6 false T5,.bi 7 .lss T4 T6]) (.cd T7 .skip (.ex 0))) (.sq (.bk 1 (.sq (.dr [] [.mv 10 T0,.mv 11 T3,.bi 12 .sub T11 (.i 1),.ia 13 T10 T12 kS,.ld 14 T13 kS,.mv 15 T0,.mv 16 T3,.ia 17 T15 T16 kS,.ld 18 T17 kS] [.bi 19 .geq T14 T18]) (.cd T19 (.sq (.rg [.mv 2 (.b false)]) .rt) .skip))) (.rg [.mv 8 T3,.bi 9 .add T8 (.i 1),.mv 3 T9]))
def ir_Zc:C:=.sq (.rg [.mv 2 (.b false)]) (.sq (.sq (.rg [.mv 3 (.i 1)]) (.bk 0 (.lk [0,3] [] c7_Zc))) c23_Zc)
noncomputable abbrev T_Zc(nf:Nat):XT:=[]
noncomputable def m_Zc(nf:Nat)(list:List Str):Option (Bool):=runF (T_Zc nf) nf [.v (kL kS)] [.t 2 (.v .bool)] ir_Zc (list,())
noncomputable def X_Zc{R:Type}(nf:Nat):C->Env->(Xt->Env->Option R)->Option R:=xc (R:=R) (T_Zc nf).S nf
noncomputable def l6_Zc(nf:Nat)(m6:Nat)(list:List Str)(x3_6:Int):Option (Bool):=xit [0,3] [] (X_Zc nf c7_Zc) (qB 0 (qS (X_Zc nf c23_Zc) (KF [.t 2 (.v .bool)]))) m6 ⟨[(0,.v (kL kS) list),(3,.v kI x3_6)],[]⟩
theorem l6_Zc_eq(nf:Nat)(m6:Nat)(list:List Str)(x3_6:Int):l6_Zc nf (m6+1) list x3_6=(br (decide (x3_6<(List.length list:Int))) (gg (0<=(w64 (x3_6-(1:Int)))∧(w64 (x3_6-(1:Int)))<(List.length list:Int))<|gg (0<=x3_6∧x3_6<(List.length list:Int))<|br (!(Op.bytesLess (gt list (w64 (x3_6-(1:Int))) ([]:Str)) (gt list x3_6 ([]:Str)))) (some false) (mark (l6_Zc nf m6 list (w64 (x3_6+(1:Int)))))) (some true)):=by kernel_rfl
theorem m_Zc_eq(nf:Nat)(list:List Str):m_Zc nf list=(mark (l6_Zc nf nf list (1:Int))):=by kernel_rfl
noncomputable def e_Zc(nf:Nat):XE:=eF 116 [.v (kL kS)] [.v .bool] (fun t=>m_Zc nf t.1)
theorem o_Zc(nf:Nat):conOK Try.prog 116 (e_Zc nf).con:=by
 have ih:XT.ok Try.prog (T_Zc nf):=by exact trivial
 refine eF_ok fun t x h=> ?_
 obtain⟨list,_⟩:=t
 exact runF_ok (N:=20) ih Try.func116 (by kernel_rfl) rfl h
def ir_Zp:C:=.sq (.rg [.mv 2 (.b false)]) (.sq (.rg [.mv 3 T0,.cv (some 4) 111 [(T3,.v kS)],.un 5 .not T4,.mv 2 T5]) .rt)
noncomputable abbrev T_Zp(nf:Nat):XT:=[e_Zf nf]
noncomputable def m_Zp(nf:Nat)(s:Str):Option (Bool):=runF (T_Zp nf) nf [.v kS] [.t 2 (.v .bool)] ir_Zp (s,())
theorem m_Zp_eq(nf:Nat)(s:Str):m_Zp nf s=(cb (m_Zf nf s) fun r4=>some (!r4)):=by kernel_rfl
noncomputable def e_Zp(nf:Nat):XE:=eF 118 [.v kS] [.v .bool] (fun t=>m_Zp nf t.1)
theorem o_Zp(nf:Nat):conOK Try.prog 118 (e_Zp nf).con:=by
 have ih:XT.ok Try.prog (T_Zp nf):=by exact⟨o_Zf nf,trivial⟩
 refine eF_ok fun t x h=> ?_
 obtain⟨s,_⟩:=t
 exact runF_ok (N:=6) ih Try.func118 (by kernel_rfl) rfl h
def c25_Zb:C:=.sq (.rg [.mv 4 (.i (-1))]) .rt
def c7_Zb:C:=.sq (.rg [.bi 9 .lss T8 T7]) (.sq (.cd T9 .skip (.ex 0)) (.sq (.bk 1 (.sq (.rg [.mv 10 T8,.mv 5 T10]) (.sq (.rg [.mv 11 T1,.mv 12 T0,.mv 13 T5,.ia 14 T12 T13 kS,.ld 15 T14 kS,.cf (some 16) T11 [(T15,.v kS)]]) (.cd T16 (.sq (.rg [.mv 17 T5,.mv 4 T17]) .rt) .skip)))) (.rg [.bi 18 .add T8 (.i 1),.mv 8 T18])))
def ir_Zb:C:=.sq (.rg [.mv 4 (.i 0)]) (.sq (.sq (.rg [.mv 6 T0,.ln 7 false T6,.mv 8 (.i 0)]) (.bk 0 (.lk [0,1,7,8] [] c7_Zb))) c25_Zb)
noncomputable abbrev T_Zb(nf:Nat):XT:=[e_Zp nf]
noncomputable def m_Zb(nf:Nat)(s:List Str):Option (Int):=runF (T_Zb nf) nf [.v (kL kS),.fn 118 []] [.t 4 (.v kI)] ir_Zb (s,(()),())
noncomputable def X_Zb{R:Type}(nf:Nat):C->Env->(Xt->Env->Option R)->Option R:=xc (R:=R) (T_Zb nf).S nf
noncomputable def l6_Zb(nf:Nat)(m6:Nat)(s:List Str)(x8_6:Int):Option (Int):=xit [0,1,7,8] [] (X_Zb nf c7_Zb) (qB 0 (qS (X_Zb nf c25_Zb) (KF [.t 4 (.v kI)]))) m6 ⟨[(0,.v (kL kS) s),(1,.fn 118 []),(7,.v kI (List.length s:Int)),(8,.v kI x8_6)],[]⟩
theorem l6_Zb_eq(nf:Nat)(m6:Nat)(s:List Str)(x8_6:Int):l6_Zb nf (m6+1) s x8_6=(br (decide (x8_6<(List.length s:Int))) (gg (0<=x8_6∧x8_6<(List.length s:Int))<|cb (m_Zp nf (gt s x8_6 ([]:Str))) fun r16=>br r16 (some x8_6) (mark (l6_Zb nf m6 s (w64 (x8_6+(1:Int)))))) (some (-1:Int))):=by kernel_rfl
theorem m_Zb_eq(nf:Nat)(s:List Str):m_Zb nf s=(mark (l6_Zb nf nf s (0:Int))):=by kernel_rfl
noncomputable def e_Zb(nf:Nat):XE:=eF 122 [.v (kL kS),.fn 118 []] [.v kI] (fun t=>m_Zb nf t.1)
theorem o_Zb(nf:Nat):conOK Try.prog 122 (e_Zb nf).con:=by
 have ih:XT.ok Try.prog (T_Zb nf):=by exact⟨o_Zp nf,trivial⟩
 refine eF_ok fun t x h=> ?_
 obtain⟨s,_,_⟩:=t
 exact runF_ok (N:=19) ih Try.func122 (by kernel_rfl) rfl h
def ir_Za:C:=.sq (.rg [.mv 4 (.b false)]) (.sq (.rg [.mv 5 T0,.mv 6 T1,.cv (some 7) 122 [(T5,.v (kL kS)),(T6,.fn)],.bi 8 .geq T7 (.i 0),.mv 4 T8]) .rt)
noncomputable abbrev T_Za(nf:Nat):XT:=[e_Zb nf]
noncomputable def m_Za(nf:Nat)(s:List Str):Option (Bool):=runF (T_Za nf) nf [.v (kL kS),.fn 118 []] [.t 4 (.v .bool)] ir_Za (s,(()),())
theorem m_Za_eq(nf:Nat)(s:List Str):m_Za nf s=(cb (m_Zb nf s) fun r7=>some (decide ((0:Int)<=r7))):=by kernel_rfl
noncomputable def e_Za(nf:Nat):XE:=eF 117 [.v (kL kS),.fn 118 []] [.v .bool] (fun t=>m_Za nf t.1)
theorem o_Za(nf:Nat):conOK Try.prog 117 (e_Za nf).con:=by
 have ih:XT.ok Try.prog (T_Za nf):=by exact⟨o_Zb nf,trivial⟩
 refine eF_ok fun t x h=> ?_
 obtain⟨s,_,_⟩:=t
 exact runF_ok (N:=9) ih Try.func117 (by kernel_rfl) rfl h
def c10_Zo:C:=.sq (.rg [.mv 16 T0,.cv (some 17) 117 [(T16,.v (kL kS)),((.f 118),.fn)],.un 18 .not T17,.mv 2 T18]) .rt
def c5_Zo:C:=.cd T15 (.sq (.rg [.mv 2 (.b false)]) .rt) .skip
def w5_Zo:C:=.kp [0,15] [] c5_Zo
def ir_Zo:C:=.sq (.rg [.mv 2 (.b false)]) (.sq (.sq (.rg [.mv 3 T0,.ln 4 false T3,.bi 5 .lss T4 (.i 1),.mv 6 T5,.g 6 false (.mv 7 T0),.g 6 false (.ln 8 false T7),.g 6 false (.bi 9 .gtr T8 (.i 4)),.pk 10 T6 (.b true) T9,.mv 11 T10,.g 11 false (.mv 12 T0),.g 11 false (.cv (some 13) 116 [(T12,.v (kL kS))]),.g 11 false (.un 14 .not T13),.pk 15 T11 (.b true) T14]) w5_Zo) c10_Zo)
noncomputable abbrev T_Zo(nf:Nat):XT:=[e_Zc nf,e_Za nf]
noncomputable def m_Zo(nf:Nat)(labels:List Str):Option (Bool):=runF (T_Zo nf) nf [.v (kL kS)] [.t 2 (.v .bool)] ir_Zo (labels,())
noncomputable def X_Zo{R:Type}(nf:Nat):C->Env->(Xt->Env->Option R)->Option R:=xc (R:=R) (T_Zo nf).S nf
noncomputable def j5_Zo(nf:Nat)(labels:List Str)(x15_5:Bool):Option (Bool):=X_Zo nf c5_Zo ⟨[(0,.v (kL kS) labels),(15,.v .bool x15_5)],[]⟩ (qS (X_Zo nf c10_Zo) (KF [.t 2 (.v .bool)]))
theorem j5_Zo_eq(nf:Nat)(labels:List Str)(x15_5:Bool):j5_Zo nf labels x15_5=(br x15_5 (some false) (cb (m_Za nf labels) fun r17=>some (!r17))):=by kernel_rfl
theorem m_Zo_eq(nf:Nat)(labels:List Str):m_Zo nf labels=(br ((decide ((List.length labels:Int)<(1:Int)))==false) (br ((decide ((4:Int)<(List.length labels:Int)))==false) (cb (m_Zc nf labels) fun r13=>mark (j5_Zo nf labels (!r13))) (mark (j5_Zo nf labels true))) (mark (j5_Zo nf labels true))):=by
 conv=>lhs;unfold m_Zo
 unfold j5_Zo ir_Zo w5_Zo c10_Zo
 generalize c5_Zo=x0
 revert x0
 refine id ?_
 intro x0
 kernel_rfl
noncomputable def e_Zo(nf:Nat):XE:=eF 103 [.v (kL kS)] [.v .bool] (fun t=>m_Zo nf t.1)
theorem o_Zo(nf:Nat):conOK Try.prog 103 (e_Zo nf).con:=by
 have ih:XT.ok Try.prog (T_Zo nf):=by exact⟨o_Zc nf,o_Za nf,trivial⟩
 refine eF_ok fun t x h=> ?_
 obtain⟨labels,_⟩:=t
 exact runF_ok (N:=19) ih Try.func103 (by kernel_rfl) rfl h
def c21_Zi:C:=.sq (.rg [.mv 18 T3,.mv 2 T18]) .rt
def c9_Zi:C:=.sq (.rg [.bi 10 .lss T9 T8]) (.sq (.cd T10 .skip (.ex 0)) (.sq (.bk 1 (.sq (.rg [.ia 11 T7 T9 (kR 0),.ld 12 T11 (kR 0),.al 5 (kR 0),.st T5 T12 (kR 0)]) (.rg [.mv 13 T3,.ld 14 T5 (kR 0),.cv (some 15) 78 [(T14,.v (kR 0))],.bi 16 .add T13 T15,.mv 3 T16]))) (.rg [.bi 17 .add T9 (.i 1),.mv 9 T17])))
def ir_Zi:C:=.sq (.rg [.bx 1 T0 (kR 0),.mv 2 (.i 0)]) (.sq (.rg [.mv 3 (.i 1)]) (.sq (.sq (.rg [.fa 6 T1 0 2 2,.ld 7 T6 (kL (kR 0)),.ln 8 false T7,.mv 9 (.i 0)]) (.bk 0 (.lk [3,7,8,9] [] c9_Zi))) c21_Zi))
noncomputable def B_Zi(nf:Nat):XT:=[]
noncomputable def G_Zi(nf:Nat):Nat->XT
 |0=>[]
 |kf+1=>[eF 78 [.v (kR 0)] [.v kI] (fun t=>(fun(t:Ty)=>runF (G_Zi nf kf++B_Zi nf) nf [.v (kR 0)] [.t 2 (.v kI)] ir_Zi (t,())) t.1)]
noncomputable abbrev T_Zi(nf kf:Nat):XT:=G_Zi nf kf++B_Zi nf
noncomputable def m_Zi(nf kf:Nat)(t:Ty):Option (Int):=runF (T_Zi nf kf) nf [.v (kR 0)] [.t 2 (.v kI)] ir_Zi (t,())
noncomputable def X_Zi{R:Type}(nf kf:Nat):C->Env->(Xt->Env->Option R)->Option R:=xc (R:=R) (T_Zi nf kf).S nf
noncomputable def l8_Zi(nf kf:Nat)(m8:Nat)(t:Ty)(x3_8:Int)(x9_8:Int):Option (Int):=xit [3,7,8,9] [] (X_Zi nf kf c9_Zi) (qB 0 (qS (X_Zi nf kf c21_Zi) (KF [.t 2 (.v kI)]))) m8 ⟨[(3,.v kI x3_8),(7,.v (kL (kR 0)) t.args),(8,.v kI (List.length t.args:Int)),(9,.v kI x9_8)],[]⟩
theorem l8_Zi_eq(nf kf:Nat)(m8:Nat)(t:Ty)(x3_8:Int)(x9_8:Int):l8_Zi nf (kf+1) (m8+1) t x3_8 x9_8=(br (decide (x9_8<(List.length t.args:Int))) (gg (0<=x9_8∧x9_8<(List.length t.args:Int))<|cb (m_Zi nf kf (Ty.h (gt t.args x9_8 Ty.zero))) fun r15=>mark (l8_Zi nf (kf+1) m8 t (w64 (x3_8+r15)) (w64 (x9_8+(1:Int))))) (some x3_8)):=by kernel_rfl
theorem m_Zi_eq(nf kf:Nat)(t:Ty):m_Zi nf (kf+1) t=(mark (l8_Zi nf (kf+1) nf t (1:Int) (0:Int))):=by kernel_rfl
noncomputable def e_Zi(nf:Nat):XE:=eF 78 [.v (kR 0)] [.v kI] (fun t=>m_Zi nf nf t.1)
theorem gok_Zi(nf:Nat):∀kf:Nat,XT.ok Try.prog (G_Zi nf kf++B_Zi nf)
 |0=>by exact trivial
 |kf+1=>by
  have ih:=gok_Zi nf kf
  refine⟨?_,(by exact trivial)⟩
  ·refine eF_ok fun t x h=> ?_
   obtain⟨t,_⟩:=t
   exact runF_ok (N:=19) ih Try.func78 (by kernel_rfl) rfl h
theorem o_Zi(nf:Nat):conOK Try.prog 78 (e_Zi nf).con:=by
 have ih:=gok_Zi nf nf
 refine eF_ok fun t x h=> ?_
 obtain⟨t,_⟩:=t
 exact runF_ok (N:=19) ih Try.func78 (by kernel_rfl) rfl h
def c52_Zy:C:=.sq (.rg [.mv 6 (.b true)]) .rt
def c34_Zy:C:=.sq (.rg [.bi 104 .lss T103 T102]) (.sq (.cd T104 .skip (.ex 1)) (.sq (.bk 2 (.sq (.rg [.mv 105 T103,.mv 9 T105]) (.sq (.rg [.mv 106 T0,.nck 107 T106,.fa 108 T107 0 2 2,.ld 109 T108 (kL (kR 0)),.mv 110 T9,.ia 111 T109 T110 (kR 0),.mv 112 T8,.mv 113 T2,.bi 114 .add T113 (.i 1),.cv (some 115) 77 [(T111,.v (.ptr (kR 0))),(T112,.v .bool),(T114,.v kI)],.un 116 .not T115]) (.cd T116 (.sq (.rg [.mv 6 (.b false)]) .rt) .skip)))) (.rg [.bi 117 .add T103 (.i 1),.mv 103 T117])))
def c29_Zy:C:=.sq (.sq (.rg [.mv 98 T0,.nck 99 T98,.fa 100 T99 0 2 2,.ld 101 T100 (kL (kR 0)),.ln 102 false T101,.mv 103 (.i 0)]) (.bk 1 (.lk [0,2,8,102,103] [] c34_Zy))) c52_Zy
def w29_Zy:C:=.kp [0,2,8] [] c29_Zy
def c27_Zy:C:=.sq (.rg [.mv 83 T1,.mv 84 T83,.g 84 false (.mv 85 T0),.g 84 false (.nck 86 T85),.g 84 false (.fa 87 T86 0 0 0),.g 84 false (.ld 88 T87 kI),.g 84 false (.bi 89 .eql T88 (.i 3)),.pk 90 T84 (.b true) T89,.mv 91 T90,.g 91 false (.mv 92 T0),.g 91 false (.nck 93 T92),.g 91 false (.fa 94 T93 0 0 0),.g 91 false (.ld 95 T94 kI),.g 91 false (.bi 96 .eql T95 (.i 4)),.pk 97 T91 (.b true) T96,.mv 8 T97]) w29_Zy
def c22_Zy:C:=.cd T48 (.sq (.rg [.mv 6 (.b false)]) .rt) .skip
def w22_Zy:C:=.kp [0,1,2,48] [] c22_Zy
def c19_Zy:C:=.cd T48 .skip (.rg [.mv 70 T0,.nck 71 T70,.fa 72 T71 0 0 0,.ld 73 T72 kI,.bi 74 .neq T73 (.i 3),.mv 75 T74,.g 75 true (.mv 76 T0),.g 75 true (.nck 77 T76),.g 75 true (.fa 78 T77 0 1 1),.g 75 true (.ld 79 T78 (kL kS)),.g 75 true (.ln 80 false T79),.g 75 true (.bi 81 .gtr T80 (.i 0)),.pk 82 T75 T81 (.b false),.mv 48 T82])
def w19_Zy:C:=.kp [0,1,2,48] [] c19_Zy
def c15_Zy:C:=.cd T48 .skip (.sq (.rg [.mv 57 T0,.nck 58 T57,.fa 59 T58 0 0 0,.ld 60 T59 kI,.bi 61 .eql T60 (.i 3),.mv 62 T61,.g 62 true (.mv 63 T0),.g 62 true (.nck 64 T63),.g 62 true (.fa 65 T64 0 1 1),.g 62 true (.ld 66 T65 (kL kS)),.g 62 true (.cv (some 67) 103 [(T66,.v (kL kS))]),.g 62 true (.un 68 .not T67),.pk 69 T62 T68 (.b false),.mv 48 T69]) w19_Zy)
def w15_Zy:C:=.kp [0,1,2,48] [] c15_Zy
def c8_Zy:C:=.cd T22 (.sq (.rg [.mv 6 (.b false)]) .rt) (.sq (.sq (.rg [.mv 49 T0,.nck 50 T49,.fa 51 T50 0 0 0,.ld 52 T51 kI,.bi 53 .eql T52 (.i 5),.mv 54 T53,.g 54 true (.mv 55 T1),.pk 56 T54 T55 (.b false),.mv 48 T56]) w15_Zy) w22_Zy)
def w8_Zy:C:=.kp [0,1,2,22] [] c8_Zy
def c4_Zy:C:=.sq (.bk 0 (.sq (.rg [.mv 23 T0,.nck 24 T23,.fa 25 T24 0 0 0,.ld 26 T25 kI,.bi 27 .lss T26 (.i 1),.mv 28 T27,.g 28 false (.mv 29 T0),.g 28 false (.nck 30 T29),.g 28 false (.fa 31 T30 0 0 0),.g 28 false (.ld 32 T31 kI),.g 28 false (.bi 33 .gtr T32 (.i 5)),.pk 34 T28 (.b true) T33,.mv 35 T34,.g 35 false (.mv 36 T2),.g 35 false (.bi 37 .gtr T36 (.i 7)),.pk 38 T35 (.b true) T37,.mv 39 T38,.g 39 false (.mv 40 T0),.g 39 false (.nck 41 T40),.g 39 false (.fa 42 T41 0 2 2),.g 39 false (.ld 43 T42 (kL (kR 0))),.g 39 false (.ln 44 false T43),.g 39 false (.mv 45 T7),.g 39 false (.bi 46 .neq T44 T45),.pk 47 T39 (.b true) T46,.mv 22 T47]) w8_Zy)) c27_Zy
def w4_Zy:C:=.kp [0,1,2,7] [] c4_Zy
def ir_Zy:C:=.sq (.rg [.mv 6 (.b false)]) (.sq (.dr [10] [.mm 10 kI kI,.mu T10 (.i 4) (.i 1) kI kI,.mu T10 (.i 5) (.i 2) kI kI,.mv 11 T0,.nck 12 T11,.fa 13 T12 0 1 1,.ld 14 T13 (kL kS),.ln 15 false T14,.mu T10 (.i 3) T15 kI kI,.mv 16 T10,.mv 17 T0,.nck 18 T17,.fa 19 T18 0 0 0,.ld 20 T19 kI] [.ml 21 T16 T20 kI kI false,.mv 7 T21]) w4_Zy)
noncomputable def B_Zy(nf:Nat):XT:=[e_Zo nf]
noncomputable def G_Zy(nf:Nat):Nat->XT
 |0=>[]
 |kf+1=>[eF 77 [.p (kR 0),.v .bool,.v kI] [.v .bool] (fun t=>(fun(t:Ty) (plain:Bool) (deep:Int)=>runF (G_Zy nf kf++B_Zy nf) nf [.p (kR 0),.v .bool,.v kI] [.t 6 (.v .bool)] ir_Zy (t,plain,deep,())) t.1 t.2.1 t.2.2.1)]
noncomputable abbrev T_Zy(nf kf:Nat):XT:=G_Zy nf kf++B_Zy nf
noncomputable def m_Zy(nf kf:Nat)(t:Ty)(plain:Bool)(deep:Int):Option (Bool):=runF (T_Zy nf kf) nf [.p (kR 0),.v .bool,.v kI] [.t 6 (.v .bool)] ir_Zy (t,plain,deep,())
noncomputable def X_Zy{R:Type}(nf kf:Nat):C->Env->(Xt->Env->Option R)->Option R:=xc (R:=R) (T_Zy nf kf).S nf
noncomputable def j19_Zy(nf kf:Nat)(t:Ty)(plain:Bool)(deep:Int)(x48_19:Bool):Option (Bool):=X_Zy nf kf c19_Zy ⟨[(0,.v (.ptr (kR 0)) (some t)),(1,.v .bool plain),(2,.v kI deep),(48,.v .bool x48_19)],[]⟩ (qS (X_Zy nf kf w22_Zy) (qB 0 (qS (X_Zy nf kf c27_Zy) (KF [.t 6 (.v .bool)]))))
noncomputable def j15_Zy(nf kf:Nat)(t:Ty)(plain:Bool)(deep:Int)(x48_15:Bool):Option (Bool):=X_Zy nf kf c15_Zy ⟨[(0,.v (.ptr (kR 0)) (some t)),(1,.v .bool plain),(2,.v kI deep),(48,.v .bool x48_15)],[]⟩ (qS (X_Zy nf kf w22_Zy) (qB 0 (qS (X_Zy nf kf c27_Zy) (KF [.t 6 (.v .bool)]))))
noncomputable def j22_Zy(nf kf:Nat)(t:Ty)(plain:Bool)(deep:Int)(x48_22:Bool):Option (Bool):=X_Zy nf kf c22_Zy ⟨[(0,.v (.ptr (kR 0)) (some t)),(1,.v .bool plain),(2,.v kI deep),(48,.v .bool x48_22)],[]⟩ (qB 0 (qS (X_Zy nf kf c27_Zy) (KF [.t 6 (.v .bool)])))
noncomputable def j8_Zy(nf kf:Nat)(t:Ty)(plain:Bool)(deep:Int)(x22_8:Bool):Option (Bool):=X_Zy nf kf c8_Zy ⟨[(0,.v (.ptr (kR 0)) (some t)),(1,.v .bool plain),(2,.v kI deep),(22,.v .bool x22_8)],[]⟩ (qB 0 (qS (X_Zy nf kf c27_Zy) (KF [.t 6 (.v .bool)])))
noncomputable def l33_Zy(nf kf:Nat)(m33:Nat)(t:Ty)(deep:Int)(x8_29:Bool)(x103_33:Int):Option (Bool):=xit [0,2,8,102,103] [] (X_Zy nf kf c34_Zy) (qB 1 (qS (X_Zy nf kf c52_Zy) (KF [.t 6 (.v .bool)]))) m33 ⟨[(0,.v (.ptr (kR 0)) (some t)),(2,.v kI deep),(8,.v .bool x8_29),(102,.v kI (List.length t.args:Int)),(103,.v kI x103_33)],[]⟩
noncomputable def j29_Zy(nf kf:Nat)(t:Ty)(deep:Int)(x8_29:Bool):Option (Bool):=X_Zy nf kf c29_Zy ⟨[(0,.v (.ptr (kR 0)) (some t)),(2,.v kI deep),(8,.v .bool x8_29)],[]⟩ (KF [.t 6 (.v .bool)])
noncomputable def j4_Zy(nf kf:Nat)(t:Ty)(plain:Bool)(deep:Int)(x7_4:Int):Option (Bool):=X_Zy nf kf c4_Zy ⟨[(0,.v (.ptr (kR 0)) (some t)),(1,.v .bool plain),(2,.v kI deep),(7,.v kI x7_4)],[]⟩ (KF [.t 6 (.v .bool)])
theorem j19_Zy_eq(nf kf:Nat)(t:Ty)(plain:Bool)(deep:Int)(x48_19:Bool):j19_Zy nf (kf+1) t plain deep x48_19=(br x48_19 (mark (j22_Zy nf (kf+1) t plain deep x48_19)) (br ((!(t.kind==(3:Int)))==true) (mark (j22_Zy nf (kf+1) t plain deep (decide ((0:Int)<(List.length t.labels:Int))))) (mark (j22_Zy nf (kf+1) t plain deep false)))):=by
 unfold j19_Zy j22_Zy c19_Zy c27_Zy w22_Zy w29_Zy
 generalize c22_Zy=x0
 generalize c29_Zy=x1
 revert x0 x1
 refine id ?_
 intro x0 x1
 kernel_rfl
theorem j15_Zy_eq(nf kf:Nat)(t:Ty)(plain:Bool)(deep:Int)(x48_15:Bool):j15_Zy nf (kf+1) t plain deep x48_15=(br x48_15 (mark (j22_Zy nf (kf+1) t plain deep x48_15)) (br ((t.kind==(3:Int))==true) (cb (m_Zo nf t.labels) fun r67=>mark (j19_Zy nf (kf+1) t plain deep (!r67))) (mark (j19_Zy nf (kf+1) t plain deep false)))):=by
 unfold j15_Zy j22_Zy j19_Zy c15_Zy c27_Zy w22_Zy w19_Zy w29_Zy
 generalize c22_Zy=x0
 generalize c19_Zy=x1
 generalize c29_Zy=x2
 revert x0 x1 x2
 refine id ?_
 intro x0 x1 x2
 kernel_rfl
theorem j22_Zy_eq(nf kf:Nat)(t:Ty)(plain:Bool)(deep:Int)(x48_22:Bool):j22_Zy nf (kf+1) t plain deep x48_22=(br x48_22 (some false) (br (plain==false) (br ((t.kind==(3:Int))==false) (mark (j29_Zy nf (kf+1) t deep (t.kind==(4:Int)))) (mark (j29_Zy nf (kf+1) t deep true))) (mark (j29_Zy nf (kf+1) t deep true)))):=by
 unfold j22_Zy j29_Zy c22_Zy c27_Zy w29_Zy
 generalize c29_Zy=x0
 revert x0
 refine id ?_
 intro x0
 kernel_rfl
theorem j8_Zy_eq(nf kf:Nat)(t:Ty)(plain:Bool)(deep:Int)(x22_8:Bool):j8_Zy nf (kf+1) t plain deep x22_8=(br x22_8 (some false) (br ((t.kind==(5:Int))==true) (mark (j15_Zy nf (kf+1) t plain deep plain)) (mark (j15_Zy nf (kf+1) t plain deep false)))):=by
 unfold j8_Zy j15_Zy c8_Zy c27_Zy w15_Zy w22_Zy w29_Zy
 generalize c15_Zy=x0
 generalize c22_Zy=x1
 generalize c29_Zy=x2
 revert x0 x1 x2
 refine id ?_
 intro x0 x1 x2
 kernel_rfl
theorem l33_Zy_eq(nf kf:Nat)(m33:Nat)(t:Ty)(deep:Int)(x8_29:Bool)(x103_33:Int):l33_Zy nf (kf+1) (m33+1) t deep x8_29 x103_33=(br (decide (x103_33<(List.length t.args:Int))) (gg (0<=x103_33∧x103_33<(List.length t.args:Int))<|cb (m_Zy nf kf (gt t.args x103_33 Ty.zero) x8_29 (w64 (deep+(1:Int)))) fun r115=>br (!r115) (some false) (mark (l33_Zy nf (kf+1) m33 t deep x8_29 (w64 (x103_33+(1:Int)))))) (some true)):=by kernel_rfl
theorem j29_Zy_eq(nf kf:Nat)(t:Ty)(deep:Int)(x8_29:Bool):j29_Zy nf (kf+1) t deep x8_29=(mark (l33_Zy nf (kf+1) nf t deep x8_29 (0:Int))):=by kernel_rfl
theorem j4_Zy_eq(nf kf:Nat)(t:Ty)(plain:Bool)(deep:Int)(x7_4:Int):j4_Zy nf (kf+1) t plain deep x7_4=(br ((decide (t.kind<(1:Int)))==false) (br ((decide ((5:Int)<t.kind))==false) (br ((decide ((7:Int)<deep))==false) (mark (j8_Zy nf (kf+1) t plain deep (!((List.length t.args:Int)==x7_4)))) (mark (j8_Zy nf (kf+1) t plain deep true))) (mark (j8_Zy nf (kf+1) t plain deep true))) (mark (j8_Zy nf (kf+1) t plain deep true))):=by
 unfold j4_Zy j8_Zy c4_Zy w8_Zy c27_Zy w29_Zy
 generalize c8_Zy=x0
 generalize c29_Zy=x1
 revert x0 x1
 refine id ?_
 intro x0 x1
 kernel_rfl
theorem m_Zy_eq(nf kf:Nat)(t:Ty)(plain:Bool)(deep:Int):m_Zy nf (kf+1) t plain deep=(mark (j4_Zy nf (kf+1) t plain deep (mgt (kk:=kI) (vk:=kI) (mset (kk:=kI) (vk:=kI) (mset (kk:=kI) (vk:=kI) (mset (kk:=kI) (vk:=kI) [] (4:Int) (1:Int)) (5:Int) (2:Int)) (3:Int) (List.length t.labels:Int)) t.kind))):=by
 conv=>lhs;unfold m_Zy
 unfold j4_Zy ir_Zy w4_Zy
 generalize c4_Zy=x0
 revert x0
 refine id ?_
 intro x0
 kernel_rfl
noncomputable def e_Zy(nf:Nat):XE:=eF 77 [.p (kR 0),.v .bool,.v kI] [.v .bool] (fun t=>m_Zy nf nf t.1 t.2.1 t.2.2.1)
theorem gok_Zy(nf:Nat):∀kf:Nat,XT.ok Try.prog (G_Zy nf kf++B_Zy nf)
 |0=>by exact⟨o_Zo nf,trivial⟩
 |kf+1=>by
  have ih:=gok_Zy nf kf
  refine⟨?_,(by exact⟨o_Zo nf,trivial⟩)⟩
  ·refine eF_ok fun t x h=> ?_
   obtain⟨t,plain,deep,_⟩:=t
   exact runF_ok (N:=118) ih Try.func77 (by kernel_rfl) rfl h
theorem o_Zy(nf:Nat):conOK Try.prog 77 (e_Zy nf).con:=by
 have ih:=gok_Zy nf nf
 refine eF_ok fun t x h=> ?_
 obtain⟨t,plain,deep,_⟩:=t
 exact runF_ok (N:=118) ih Try.func77 (by kernel_rfl) rfl h
def ir_Zg:C:=.sq (.rg [.bx 1 T0 (kR 0),.mv 2 (.b false)]) (.sq (.rg [.cv (some 3) 77 [(T1,.v (.ptr (kR 0))),((.b false),.v .bool),((.i 1),.v kI)],.mv 4 T3,.g 4 true (.ld 5 T1 (kR 0)),.g 4 true (.cv (some 6) 78 [(T5,.v (kR 0))]),.g 4 true (.bi 7 .leq T6 (.i 24)),.pk 8 T4 T7 (.b false),.mv 2 T8]) .rt)
noncomputable abbrev T_Zg(nf:Nat):XT:=[e_Zy nf,e_Zi nf]
noncomputable def m_Zg(nf:Nat)(t:Ty):Option (Bool):=runF (T_Zg nf) nf [.v (kR 0)] [.t 2 (.v .bool)] ir_Zg (t,())
theorem m_Zg_eq(nf:Nat)(t:Ty):m_Zg nf t=(cb (m_Zy nf nf (Ty.h t) false (1:Int)) fun r3=>br (r3==true) (cb (m_Zi nf nf (Ty.h t)) fun r6=>some (decide (r6<=(24:Int)))) (some false)):=by kernel_rfl
noncomputable def e_Zg(nf:Nat):XE:=eF 44 [.v (kR 0)] [.v .bool] (fun t=>m_Zg nf t.1)
theorem o_Zg(nf:Nat):conOK Try.prog 44 (e_Zg nf).con:=by
 have ih:XT.ok Try.prog (T_Zg nf):=by exact⟨o_Zy nf,o_Zi nf,trivial⟩
 refine eF_ok fun t x h=> ?_
 obtain⟨t,_⟩:=t
 exact runF_ok (N:=9) ih Try.func44 (by kernel_rfl) rfl h
def c33_ZE:C:=.sq (.rg [.mv 4 (.b true)]) .rt
def c15_ZE:C:=.sq (.rg [.bi 14 .lss T13 T12]) (.sq (.cd T14 .skip (.ex 0)) (.sq (.bk 1 (.sq (.rg [.mv 15 T13,.mv 5 T15]) (.sq (.dr [] [.mv 16 T0,.mv 17 T5,.ia 18 T16 T17 kS,.ld 19 T18 kS,.mv 20 T1,.mv 21 T5,.ia 22 T20 T21 kS,.ld 23 T22 kS] [.bi 24 .neq T19 T23]) (.cd T24 (.sq (.rg [.mv 4 (.b false)]) .rt) .skip)))) (.rg [.bi 25 .add T13 (.i 1),.mv 13 T25])))
def ir_ZE:C:=.sq (.rg [.mv 4 (.b false)]) (.sq (.sq (.rg [.mv 6 T0,.ln 7 false T6,.mv 8 T1,.ln 9 false T8,.bi 10 .neq T7 T9]) (.cd T10 (.sq (.rg [.mv 4 (.b false)]) .rt) .skip)) (.sq (.sq (.rg [.mv 11 T0,.ln 12 false T11,.mv 13 (.i 0)]) (.bk 0 (.lk [0,1,12,13] [] c15_ZE))) c33_ZE))
noncomputable abbrev T_ZE(nf:Nat):XT:=[]
noncomputable def m_ZE(nf:Nat)(s1:List Str)(s2:List Str):Option (Bool):=runF (T_ZE nf) nf [.v (kL kS),.v (kL kS)] [.t 4 (.v .bool)] ir_ZE (s1,s2,())
noncomputable def X_ZE{R:Type}(nf:Nat):C->Env->(Xt->Env->Option R)->Option R:=xc (R:=R) (T_ZE nf).S nf
noncomputable def l14_ZE(nf:Nat)(m14:Nat)(s1:List Str)(s2:List Str)(x13_14:Int):Option (Bool):=xit [0,1,12,13] [] (X_ZE nf c15_ZE) (qB 0 (qS (X_ZE nf c33_ZE) (KF [.t 4 (.v .bool)]))) m14 ⟨[(0,.v (kL kS) s1),(1,.v (kL kS) s2),(12,.v kI (List.length s1:Int)),(13,.v kI x13_14)],[]⟩
theorem l14_ZE_eq(nf:Nat)(m14:Nat)(s1:List Str)(s2:List Str)(x13_14:Int):l14_ZE nf (m14+1) s1 s2 x13_14=(br (decide (x13_14<(List.length s1:Int))) (gg (0<=x13_14∧x13_14<(List.length s1:Int))<|gg (0<=x13_14∧x13_14<(List.length s2:Int))<|br (!((gt s1 x13_14 ([]:Str))==(gt s2 x13_14 ([]:Str)))) (some false) (mark (l14_ZE nf m14 s1 s2 (w64 (x13_14+(1:Int)))))) (some true)):=by kernel_rfl
theorem m_ZE_eq(nf:Nat)(s1:List Str)(s2:List Str):m_ZE nf s1 s2=(br (!((List.length s1:Int)==(List.length s2:Int))) (some false) (mark (l14_ZE nf nf s1 s2 (0:Int)))):=by kernel_rfl
noncomputable def e_ZE(nf:Nat):XE:=eF 53 [.v (kL kS),.v (kL kS)] [.v .bool] (fun t=>m_ZE nf t.1 t.2.1)
theorem o_ZE(nf:Nat):conOK Try.prog 53 (e_ZE nf).con:=by
 have ih:XT.ok Try.prog (T_ZE nf):=by exact trivial
 refine eF_ok fun t x h=> ?_
 obtain⟨s1,s2,_⟩:=t
 exact runF_ok (N:=26) ih Try.func53 (by kernel_rfl) rfl h
def ir_Zd:C:=.sq (.rg [.bx 2 T0 (kR 0),.bx 3 T1 (kR 0),.mv 4 (.b false)]) (.sq (.rg [.fa 5 T2 0 0 0,.ld 6 T5 kI,.fa 7 T3 0 0 0,.ld 8 T7 kI,.bi 9 .eql T6 T8,.mv 10 T9,.g 10 true (.fa 11 T2 0 1 1),.g 10 true (.ld 12 T11 (kL kS)),.g 10 true (.fa 13 T3 0 1 1),.g 10 true (.ld 14 T13 (kL kS)),.g 10 true (.cv (some 15) 53 [(T12,.v (kL kS)),(T14,.v (kL kS))]),.pk 16 T10 T15 (.b false),.mv 17 T16,.g 17 true (.fa 18 T2 0 2 2),.g 17 true (.ld 19 T18 (kL (kR 0))),.g 17 true (.fa 20 T3 0 2 2),.g 17 true (.ld 21 T20 (kL (kR 0))),.g 17 true (.cv (some 22) 54 [(T19,.v (kL (kR 0))),(T21,.v (kL (kR 0))),((.f 19),.fn)]),.pk 23 T17 T22 (.b false),.mv 4 T23]) .rt)
def c35_ZD:C:=.sq (.rg [.mv 6 (.b true)]) .rt
def c15_ZD:C:=.sq (.rg [.bi 18 .lss T17 T16]) (.sq (.cd T18 .skip (.ex 0)) (.sq (.bk 1 (.sq (.rg [.mv 19 T17,.ia 20 T15 T17 (kR 0),.ld 21 T20 (kR 0),.al 8 (kR 0),.mv 7 T19,.st T8 T21 (kR 0)]) (.sq (.rg [.mv 22 T1,.mv 23 T7,.ia 24 T22 T23 (kR 0),.ld 25 T24 (kR 0),.al 9 (kR 0),.st T9 T25 (kR 0)]) (.sq (.rg [.mv 26 T2,.ld 27 T8 (kR 0),.ld 28 T9 (kR 0),.cf (some 29) T26 [(T27,.v (kR 0)),(T28,.v (kR 0))],.un 30 .not T29]) (.cd T30 (.sq (.rg [.mv 6 (.b false)]) .rt) .skip))))) (.rg [.bi 31 .add T17 (.i 1),.mv 17 T31])))
def ir_ZD:C:=.sq (.rg [.mv 6 (.b false)]) (.sq (.sq (.rg [.mv 10 T0,.ln 11 false T10,.mv 12 T1,.ln 13 false T12,.bi 14 .neq T11 T13]) (.cd T14 (.sq (.rg [.mv 6 (.b false)]) .rt) .skip)) (.sq (.sq (.rg [.mv 15 T0,.ln 16 false T15,.mv 17 (.i 0)]) (.bk 0 (.lk [1,2,15,16,17] [] c15_ZD))) c35_ZD))
noncomputable def B_Zd(nf:Nat):XT:=[e_ZE nf]
noncomputable def G_Zd(nf:Nat):Nat->XT
 |0=>[]
 |kf+1=>[eF 19 [.v (kR 0),.v (kR 0)] [.v .bool] (fun t=>(fun(a:Ty) (b:Ty)=>runF (G_Zd nf kf++B_Zd nf) nf [.v (kR 0),.v (kR 0)] [.t 4 (.v .bool)] ir_Zd (a,b,())) t.1 t.2.1),
  eF 54 [.v (kL (kR 0)),.v (kL (kR 0)),.fn 19 []] [.v .bool] (fun t=>(fun(s1:List Ty) (s2:List Ty)=>runF (G_Zd nf kf++B_Zd nf) nf [.v (kL (kR 0)),.v (kL (kR 0)),.fn 19 []] [.t 6 (.v .bool)] ir_ZD (s1,s2,(()),())) t.1 t.2.1)]
noncomputable abbrev T_Zd(nf kf:Nat):XT:=G_Zd nf kf++B_Zd nf
noncomputable abbrev T_ZD(nf kf:Nat):XT:=G_Zd nf kf++B_Zd nf
noncomputable def m_Zd(nf kf:Nat)(a:Ty)(b:Ty):Option (Bool):=runF (T_Zd nf kf) nf [.v (kR 0),.v (kR 0)] [.t 4 (.v .bool)] ir_Zd (a,b,())
noncomputable def m_ZD(nf kf:Nat)(s1:List Ty)(s2:List Ty):Option (Bool):=runF (T_ZD nf kf) nf [.v (kL (kR 0)),.v (kL (kR 0)),.fn 19 []] [.t 6 (.v .bool)] ir_ZD (s1,s2,(()),())
noncomputable def X_ZD{R:Type}(nf kf:Nat):C->Env->(Xt->Env->Option R)->Option R:=xc (R:=R) (T_ZD nf kf).S nf
theorem m_Zd_eq(nf kf:Nat)(a:Ty)(b:Ty):m_Zd nf (kf+1) a b=(br ((a.kind==b.kind)==true) (cb (m_ZE nf a.labels b.labels) fun r15=>br (r15==true) (cb (m_ZD nf kf a.args b.args) fun r22=>some r22) (some false)) (some false)):=by kernel_rfl
noncomputable def e_Zd(nf:Nat):XE:=eF 19 [.v (kR 0),.v (kR 0)] [.v .bool] (fun t=>m_Zd nf nf t.1 t.2.1)
noncomputable def l14_ZD(nf kf:Nat)(m14:Nat)(s2:List Ty)(s1:List Ty)(x17_14:Int):Option (Bool):=xit [1,2,15,16,17] [] (X_ZD nf kf c15_ZD) (qB 0 (qS (X_ZD nf kf c35_ZD) (KF [.t 6 (.v .bool)]))) m14 ⟨[(1,.v (kL (kR 0)) s2),(2,.fn 19 []),(15,.v (kL (kR 0)) s1),(16,.v kI (List.length s1:Int)),(17,.v kI x17_14)],[]⟩
theorem l14_ZD_eq(nf kf:Nat)(m14:Nat)(s2:List Ty)(s1:List Ty)(x17_14:Int):l14_ZD nf (kf+1) (m14+1) s2 s1 x17_14=(br (decide (x17_14<(List.length s1:Int))) (gg (0<=x17_14∧x17_14<(List.length s1:Int))<|gg (0<=x17_14∧x17_14<(List.length s2:Int))<|cb (m_Zd nf kf (Ty.h (gt s1 x17_14 Ty.zero)) (Ty.h (gt s2 x17_14 Ty.zero))) fun r29=>br (!r29) (some false) (mark (l14_ZD nf (kf+1) m14 s2 s1 (w64 (x17_14+(1:Int)))))) (some true)):=by kernel_rfl
theorem m_ZD_eq(nf kf:Nat)(s1:List Ty)(s2:List Ty):m_ZD nf (kf+1) s1 s2=(br (!((List.length s1:Int)==(List.length s2:Int))) (some false) (mark (l14_ZD nf (kf+1) nf s2 s1 (0:Int)))):=by kernel_rfl
theorem gok_Zd(nf:Nat):∀kf:Nat,XT.ok Try.prog (G_Zd nf kf++B_Zd nf)
 |0=>by exact⟨o_ZE nf,trivial⟩
 |kf+1=>by
  have ih:=gok_Zd nf kf
  refine⟨?_,?_,(by exact⟨o_ZE nf,trivial⟩)⟩
  ·refine eF_ok fun t x h=> ?_
   obtain⟨a,b,_⟩:=t
   exact runF_ok (N:=24) ih Try.func19 (by kernel_rfl) rfl h
  ·refine eF_ok fun t x h=> ?_
   obtain⟨s1,s2,_,_⟩:=t
   exact runF_ok (N:=32) ih Try.func54 (by kernel_rfl) rfl h
theorem o_Zd(nf:Nat):conOK Try.prog 19 (e_Zd nf).con:=by
 have ih:=gok_Zd nf nf
 refine eF_ok fun t x h=> ?_
 obtain⟨a,b,_⟩:=t
 exact runF_ok (N:=24) ih Try.func19 (by kernel_rfl) rfl h
end Go.Q
