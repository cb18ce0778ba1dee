/- Types and their paths: the reference's side. -/
import Derived.Test.YteidofmblfglkaaC1
import Derived.Test.YteidofmblfglkaaProg
import Derived.KernelRfl
set_option linter.unusedVariables false
set_option linter.unusedSimpArgs false
namespace Go.Q
open Go.Proofs
set_option maxRecDepth 20000
set_option maxHeartbeats 4000000
def ir_ZQ:C:=.sq (.rg [.mv 6 (.b false)]) (.sq (.rg [.mv 7 T0,.mv 8 T1,.bi 9 .geq T7 T8,.mv 10 T9,.g 10 true (.mv 11 T0),.g 10 true (.mv 12 T2),.g 10 true (.bi 13 .leq T11 T12),.pk 14 T10 T13 (.b false),.mv 6 T14]) .rt)
noncomputable abbrev T_ZQ(nf:Nat):XT:=[]
noncomputable def m_ZQ(nf:Nat)(x:Int)(lo:Int)(hi:Int):Option (Bool):=runF (T_ZQ nf) nf [.v kI,.v kI,.v kI] [.t 6 (.v .bool)] ir_ZQ (x,lo,hi,())
theorem m_ZQ_eq(nf:Nat)(x:Int)(lo:Int)(hi:Int):m_ZQ nf x lo hi=(br ((decide (lo<=x))==true) (some (decide (x<=hi))) (some false)):=by kernel_rfl
noncomputable def e_ZQ(nf:Nat):XE:=eF 113 [.v kI,.v kI,.v kI] [.v .bool] (fun t=>m_ZQ nf t.1 t.2.1 t.2.2.1)
theorem o_ZQ(nf:Nat):conOK Try.prog 113 (e_ZQ nf).con:=by
 have ih:XT.ok Try.prog (T_ZQ nf):=by exact trivial
 refine eF_ok fun t x h=> ?_
 obtain⟨x,lo,hi,_⟩:=t
 exact runF_ok (N:=15) ih Try.func113 (by kernel_rfl) rfl h
def ir_ZR:C:=.sq (.rg [.mv 4 (.i 0)]) (.sq (.sq (.rg [.mv 5 T0,.mv 6 T1,.bi 7 .gtr T5 T6]) (.cd T7 (.sq (.rg [.mv 8 T0,.mv 4 T8]) .rt) .skip)) (.sq (.rg [.mv 9 T1,.mv 4 T9]) .rt))
noncomputable abbrev T_ZR(nf:Nat):XT:=[]
noncomputable def m_ZR(nf:Nat)(a:Int)(b:Int):Option (Int):=runF (T_ZR nf) nf [.v kI,.v kI] [.t 4 (.v kI)] ir_ZR (a,b,())
theorem m_ZR_eq(nf:Nat)(a:Int)(b:Int):m_ZR nf a b=(br (decide (b<a)) (some a) (some b)):=by kernel_rfl
noncomputable def e_ZR(nf:Nat):XE:=eF 94 [.v kI,.v kI] [.v kI] (fun t=>m_ZR nf t.1 t.2.1)
theorem o_ZR(nf:Nat):conOK Try.prog 94 (e_ZR nf).con:=by
 have ih:XT.ok Try.prog (T_ZR nf):=by exact trivial
 refine eF_ok fun t x h=> ?_
 obtain⟨a,b,_⟩:=t
 exact runF_ok (N:=10) ih Try.func94 (by kernel_rfl) rfl h
def c23_ZF:C:=.sq (.rg [.mv 2 (.b true)]) .rt
def c7_ZF:C:=.sq (.sq (.rg [.mv 4 T3,.mv 5 T0,.ln 6 false T5,.bi 7 .lss T4 T6]) (.cd T7 .skip (.ex 0))) (.sq (.bk 1 (.sq (.dr [] [.mv 10 T0,.mv 11 T3,.bi 12 .sub T11 (.i 1),.ia 13 T10 T12 kS,.ld 14 T13 kS,.mv 15 T0,.mv 16 T3,.ia 17 T15 T16 kS,.ld 18 T17 kS] [.bi 19 .geq T14 T18]) (.cd T19 (.sq (.rg [.mv 2 (.b false)]) .rt) .skip))) (.rg [.mv 8 T3,.bi 9 .add T8 (.i 1),.mv 3 T9]))
def ir_ZF:C:=.sq (.rg [.mv 2 (.b false)]) (.sq (.sq (.rg [.mv 3 (.i 1)]) (.bk 0 (.lk [0,3] [] c7_ZF))) c23_ZF)
noncomputable abbrev T_ZF(nf:Nat):XT:=[]
noncomputable def m_ZF(nf:Nat)(list:List Str):Option (Bool):=runF (T_ZF nf) nf [.v (kL kS)] [.t 2 (.v .bool)] ir_ZF (list,())
noncomputable def X_ZF{R:Type}(nf:Nat):C->Env->(Xt->Env->Option R)->Option R:=xc (R:=R) (T_ZF nf).S nf
noncomputable def l6_ZF(nf:Nat)(m6:Nat)(list:List Str)(x3_6:Int):Option (Bool):=xit [0,3] [] (X_ZF nf c7_ZF) (qB 0 (qS (X_ZF nf c23_ZF) (KF [.t 2 (.v .bool)]))) m6 ⟨[(0,.v (kL kS) list),(3,.v kI x3_6)],[]⟩
theorem l6_ZF_eq(nf:Nat)(m6:Nat)(list:List Str)(x3_6:Int):l6_ZF nf (m6+1) list x3_6=(br (decide (x3_6<(List.length list:Int))) (gg (0<=(w64 (x3_6-(1:Int)))∧(w64 (x3_6-(1:Int)))<(List.length list:Int))<|gg (0<=x3_6∧x3_6<(List.length list:Int))<|br (!(Op.bytesLess (gt list (w64 (x3_6-(1:Int))) ([]:Str)) (gt list x3_6 ([]:Str)))) (some false) (mark (l6_ZF nf m6 list (w64 (x3_6+(1:Int)))))) (some true)):=by kernel_rfl
theorem m_ZF_eq(nf:Nat)(list:List Str):m_ZF nf list=(mark (l6_ZF nf nf list (1:Int))):=by kernel_rfl
noncomputable def e_ZF(nf:Nat):XE:=eF 114 [.v (kL kS)] [.v .bool] (fun t=>m_ZF nf t.1)
theorem o_ZF(nf:Nat):conOK Try.prog 114 (e_ZF nf).con:=by
 have ih:XT.ok Try.prog (T_ZF nf):=by exact trivial
 refine eF_ok fun t x h=> ?_
 obtain⟨list,_⟩:=t
 exact runF_ok (N:=20) ih Try.func114 (by kernel_rfl) rfl h
def c25_ZK:C:=.sq (.rg [.mv 39 T0,.ln 40 true T39,.cv (some 41) 113 [(T40,.v kI),((.i 1),.v kI),((.i 4),.v kI)],.mv 42 T41,.g 42 true (.mv 43 T0),.g 42 true (.bi 44 .neq T43 (.s [105,102])),.pk 45 T42 T44 (.b false),.mv 46 T45,.g 46 true (.mv 47 T0),.g 46 true (.bi 48 .neq T47 (.s [102,111,114])),.pk 49 T46 T48 (.b false),.mv 2 T49]) .rt
def w25_ZK:C:=.kp [0] [] c25_ZK
def c24_ZK:C:=.rg [.mv 9 T3,.bi 10 .add T9 (.i 1),.mv 3 T10]
def c19_ZK:C:=.cd T38 (.sq (.rg [.mv 2 (.b false)]) .rt) .skip
def w19_ZK:C:=.kp [0,3,38] [] c19_ZK
def c17_ZK:C:=.sq (.rg [.mv 21 T4,.un 22 .not T21,.mv 23 T22,.g 23 true (.mv 24 T3),.g 23 true (.bi 25 .eql T24 (.i 0)),.g 23 true (.mv 26 T25),.g 26 false (.mv 27 T0),.g 26 false (.mv 28 T3),.g 26 false (.ix 29 T27 T28),.g 26 false (.bi 30 .lss T29 (.k .u8 48)),.g 23 true (.pk 31 T26 (.b true) T30),.g 23 true (.mv 32 T31),.g 32 false (.mv 33 T0),.g 32 false (.mv 34 T3),.g 32 false (.ix 35 T33 T34),.g 32 false (.bi 36 .gtr T35 (.k .u8 57)),.g 23 true (.pk 37 T32 (.b true) T36),.pk 38 T23 T37 (.b false)]) w19_ZK
def w17_ZK:C:=.kp [0,3,4] [] c17_ZK
def c7_ZK:C:=.sq (.sq (.rg [.mv 5 T3,.mv 6 T0,.ln 7 true T6,.bi 8 .lss T5 T7]) (.cd T8 .skip (.ex 0))) (.sq (.bk 1 (.sq (.rg [.mv 11 T0,.mv 12 T3,.ix 13 T11 T12,.bi 14 .geq T13 (.k .u8 97),.mv 15 T14,.g 15 true (.mv 16 T0),.g 15 true (.mv 17 T3),.g 15 true (.ix 18 T16 T17),.g 15 true (.bi 19 .leq T18 (.k .u8 122)),.pk 20 T15 T19 (.b false),.mv 4 T20]) w17_ZK)) c24_ZK)
def ir_ZK:C:=.sq (.rg [.mv 2 (.b false)]) (.sq (.sq (.rg [.mv 3 (.i 0)]) (.bk 0 (.lk [0,3] [] c7_ZK))) w25_ZK)
noncomputable abbrev T_ZK(nf:Nat):XT:=[e_ZQ nf]
noncomputable def m_ZK(nf:Nat)(s:Str):Option (Bool):=runF (T_ZK nf) nf [.v kS] [.t 2 (.v .bool)] ir_ZK (s,())
noncomputable def X_ZK{R:Type}(nf:Nat):C->Env->(Xt->Env->Option R)->Option R:=xc (R:=R) (T_ZK nf).S nf
noncomputable def j19_ZK(nf:Nat)(m6:Nat)(s:Str)(x3_6:Int)(x38_19:Bool):Option (Bool):=X_ZK nf c19_ZK ⟨[(0,.v kS s),(3,.v kI x3_6),(38,.v .bool x38_19)],[]⟩ (qB 1 (qS (X_ZK nf c24_ZK) (qM [0,3] [] (X_ZK nf c7_ZK) m6 (qB 0 (qS (X_ZK nf w25_ZK) (KF [.t 2 (.v .bool)]))))))
noncomputable def j17_ZK(nf:Nat)(m6:Nat)(s:Str)(x3_6:Int)(x4_17:Bool):Option (Bool):=X_ZK nf c17_ZK ⟨[(0,.v kS s),(3,.v kI x3_6),(4,.v .bool x4_17)],[]⟩ (qB 1 (qS (X_ZK nf c24_ZK) (qM [0,3] [] (X_ZK nf c7_ZK) m6 (qB 0 (qS (X_ZK nf w25_ZK) (KF [.t 2 (.v .bool)]))))))
noncomputable def l6_ZK(nf:Nat)(m6:Nat)(s:Str)(x3_6:Int):Option (Bool):=xit [0,3] [] (X_ZK nf c7_ZK) (qB 0 (qS (X_ZK nf w25_ZK) (KF [.t 2 (.v .bool)]))) m6 ⟨[(0,.v kS s),(3,.v kI x3_6)],[]⟩
noncomputable def j25_ZK(nf:Nat)(s:Str):Option (Bool):=X_ZK nf c25_ZK ⟨[(0,.v kS s)],[]⟩ (KF [.t 2 (.v .bool)])
theorem j19_ZK_eq(nf:Nat)(m6:Nat)(s:Str)(x3_6:Int)(x38_19:Bool):j19_ZK nf m6 s x3_6 x38_19=(br x38_19 (some false) (mark (l6_ZK nf m6 s (w64 (x3_6+(1:Int)))))):=by
 unfold j19_ZK l6_ZK c19_ZK w25_ZK c24_ZK
 generalize c25_ZK=x0
 revert x0
 refine id ?_
 intro x0
 kernel_rfl
theorem j17_ZK_eq(nf:Nat)(m6:Nat)(s:Str)(x3_6:Int)(x4_17:Bool):j17_ZK nf m6 s x3_6 x4_17=(br ((!x4_17)==true) (br ((x3_6==(0:Int))==false) (gg (0<=x3_6∧x3_6<(List.length s:Int))<|br ((decide (((List.getD s (Int.toNat x3_6) 0).toNat:Int)<(48:Int)))==false) (gg (0<=x3_6∧x3_6<(List.length s:Int))<|mark (j19_ZK nf m6 s x3_6 (decide ((57:Int)<((List.getD s (Int.toNat x3_6) 0).toNat:Int))))) (mark (j19_ZK nf m6 s x3_6 true))) (mark (j19_ZK nf m6 s x3_6 true))) (mark (j19_ZK nf m6 s x3_6 false))):=by
 unfold j17_ZK j19_ZK c17_ZK w25_ZK c24_ZK w19_ZK
 generalize c25_ZK=x0
 generalize c19_ZK=x1
 revert x0 x1
 refine id ?_
 intro x0 x1
 kernel_rfl
theorem l6_ZK_eq(nf:Nat)(m6:Nat)(s:Str)(x3_6:Int):l6_ZK nf (m6+1) s x3_6=(br (decide (x3_6<(List.length s:Int))) (gg (0<=x3_6∧x3_6<(List.length s:Int))<|br ((decide ((97:Int)<=((List.getD s (Int.toNat x3_6) 0).toNat:Int)))==true) (gg (0<=x3_6∧x3_6<(List.length s:Int))<|mark (j17_ZK nf m6 s x3_6 (decide (((List.getD s (Int.toNat x3_6) 0).toNat:Int)<=(122:Int))))) (mark (j17_ZK nf m6 s x3_6 false))) (mark (j25_ZK nf s))):=by
 unfold l6_ZK j17_ZK j25_ZK c7_ZK w25_ZK w17_ZK c24_ZK
 generalize c25_ZK=x0
 generalize c17_ZK=x1
 revert x0 x1
 refine id ?_
 intro x0 x1
 kernel_rfl
theorem j25_ZK_eq(nf:Nat)(s:Str):j25_ZK nf s=(cb (m_ZQ nf (List.length s:Int) (1:Int) (4:Int)) fun r41=>br (r41==true) (br ((!(s==([105,102]:Str)))==true) (some (!(s==([102,111,114]:Str)))) (some false)) (some false)):=by kernel_rfl
theorem m_ZK_eq(nf:Nat)(s:Str):m_ZK nf s=(mark (l6_ZK nf nf s (0:Int))):=by
 conv=>lhs;unfold m_ZK
 unfold l6_ZK ir_ZK w25_ZK
 generalize c25_ZK=x0
 revert x0
 refine id ?_
 intro x0
 kernel_rfl
noncomputable def e_ZK(nf:Nat):XE:=eF 112 [.v kS] [.v .bool] (fun t=>m_ZK nf t.1)
theorem o_ZK(nf:Nat):conOK Try.prog 112 (e_ZK nf).con:=by
 have ih:XT.ok Try.prog (T_ZK nf):=by exact⟨o_ZQ nf,trivial⟩
 refine eF_ok fun t x h=> ?_
 obtain⟨s,_⟩:=t
 exact runF_ok (N:=50) ih Try.func112 (by kernel_rfl) rfl h
def c23_Zag:C:=.sq (.rg [.mv 16 T0,.ln 17 false T16,.cv (some 18) 113 [(T17,.v kI),((.i 1),.v kI),((.i 4),.v kI)],.mv 19 T18,.g 19 true (.mv 20 T0),.g 19 true (.cv (some 21) 114 [(T20,.v (kL kS))]),.pk 22 T19 T21 (.b false),.mv 2 T22]) .rt
def w23_Zag:C:=.kp [0] [] c23_Zag
def c7_Zag:C:=.sq (.sq (.rg [.mv 4 T3,.mv 5 T0,.ln 6 false T5,.bi 7 .lss T4 T6]) (.cd T7 .skip (.ex 0))) (.sq (.bk 1 (.sq (.rg [.mv 10 T0,.mv 11 T3,.ia 12 T10 T11 kS,.ld 13 T12 kS,.cv (some 14) 112 [(T13,.v kS)],.un 15 .not T14]) (.cd T15 (.sq (.rg [.mv 2 (.b false)]) .rt) .skip))) (.rg [.mv 8 T3,.bi 9 .add T8 (.i 1),.mv 3 T9]))
def ir_Zag:C:=.sq (.rg [.mv 2 (.b false)]) (.sq (.sq (.rg [.mv 3 (.i 0)]) (.bk 0 (.lk [0,3] [] c7_Zag))) w23_Zag)
noncomputable abbrev T_Zag(nf:Nat):XT:=[e_ZK nf,e_ZQ nf,e_ZF nf]
noncomputable def m_Zag(nf:Nat)(list:List Str):Option (Bool):=runF (T_Zag nf) nf [.v (kL kS)] [.t 2 (.v .bool)] ir_Zag (list,())
noncomputable def X_Zag{R:Type}(nf:Nat):C->Env->(Xt->Env->Option R)->Option R:=xc (R:=R) (T_Zag nf).S nf
noncomputable def l6_Zag(nf:Nat)(m6:Nat)(list:List Str)(x3_6:Int):Option (Bool):=xit [0,3] [] (X_Zag nf c7_Zag) (qB 0 (qS (X_Zag nf w23_Zag) (KF [.t 2 (.v .bool)]))) m6 ⟨[(0,.v (kL kS) list),(3,.v kI x3_6)],[]⟩
noncomputable def j23_Zag(nf:Nat)(list:List Str):Option (Bool):=X_Zag nf c23_Zag ⟨[(0,.v (kL kS) list)],[]⟩ (KF [.t 2 (.v .bool)])
theorem l6_Zag_eq(nf:Nat)(m6:Nat)(list:List Str)(x3_6:Int):l6_Zag nf (m6+1) list x3_6=(br (decide (x3_6<(List.length list:Int))) (gg (0<=x3_6∧x3_6<(List.length list:Int))<|cb (m_ZK nf (gt list x3_6 ([]:Str))) fun r14=>br (!r14) (some false) (mark (l6_Zag nf m6 list (w64 (x3_6+(1:Int)))))) (mark (j23_Zag nf list))):=by
 unfold l6_Zag j23_Zag c7_Zag w23_Zag
 generalize c23_Zag=x0
 revert x0
 refine id ?_
 intro x0
 kernel_rfl
theorem j23_Zag_eq(nf:Nat)(list:List Str):j23_Zag nf list=(cb (m_ZQ nf (List.length list:Int) (1:Int) (4:Int)) fun r18=>br (r18==true) (cb (m_ZF nf list) fun r21=>some r21) (some false)):=by kernel_rfl
theorem m_Zag_eq(nf:Nat)(list:List Str):m_Zag nf list=(mark (l6_Zag nf nf list (0:Int))):=by
 conv=>lhs;unfold m_Zag
 unfold l6_Zag ir_Zag w23_Zag
 generalize c23_Zag=x0
 revert x0
 refine id ?_
 intro x0
 kernel_rfl
noncomputable def e_Zag(nf:Nat):XE:=eF 95 [.v (kL kS)] [.v .bool] (fun t=>m_Zag nf t.1)
theorem o_Zag(nf:Nat):conOK Try.prog 95 (e_Zag nf).con:=by
 have ih:XT.ok Try.prog (T_Zag nf):=by exact⟨o_ZK nf,o_ZQ nf,o_ZF nf,trivial⟩
 refine eF_ok fun t x h=> ?_
 obtain⟨list,_⟩:=t
 exact runF_ok (N:=23) ih Try.func95 (by kernel_rfl) rfl h
def c23_Zae:C:=.sq (.rg [.fa 20 T2 0 0 0,.ld 21 T20 kI,.mv 22 T1,.bi 23 .eql T21 T22,.mv 4 T23]) .rt
def c7_Zae:C:=.sq (.sq (.rg [.mv 6 T5,.fa 7 T2 0 2 2,.ld 8 T7 (kL (kR 0)),.ln 9 false T8,.bi 10 .lss T6 T9]) (.cd T10 .skip (.ex 0))) (.sq (.bk 1 (.sq (.rg [.fa 13 T2 0 2 2,.ld 14 T13 (kL (kR 0)),.mv 15 T5,.ia 16 T14 T15 (kR 0),.ld 17 T16 (kR 0),.mv 18 T1,.cv (some 19) 42 [(T17,.v (kR 0)),(T18,.v kI)]]) (.cd T19 (.sq (.rg [.mv 4 (.b true)]) .rt) .skip))) (.rg [.mv 11 T5,.bi 12 .add T11 (.i 1),.mv 5 T12]))
def ir_Zae:C:=.sq (.rg [.bx 2 T0 (kR 0),.mv 4 (.b false)]) (.sq (.sq (.rg [.mv 5 (.i 0)]) (.bk 0 (.lk [1,2,5] [[2]] c7_Zae))) c23_Zae)
noncomputable def B_Zae(nf:Nat):XT:=[]
noncomputable def G_Zae(nf:Nat):Nat->XT
 |0=>[]
 |kf+1=>[eF 42 [.v (kR 0),.v kI] [.v .bool] (fun t=>(fun(t:Ty) (kind:Int)=>runF (G_Zae nf kf++B_Zae nf) nf [.v (kR 0),.v kI] [.t 4 (.v .bool)] ir_Zae (t,kind,())) t.1 t.2.1)]
noncomputable abbrev T_Zae(nf kf:Nat):XT:=G_Zae nf kf++B_Zae nf
noncomputable def m_Zae(nf kf:Nat)(t:Ty)(kind:Int):Option (Bool):=runF (T_Zae nf kf) nf [.v (kR 0),.v kI] [.t 4 (.v .bool)] ir_Zae (t,kind,())
noncomputable def X_Zae{R:Type}(nf kf:Nat):C->Env->(Xt->Env->Option R)->Option R:=xc (R:=R) (T_Zae nf kf).S nf
noncomputable def l6_Zae(nf kf:Nat)(m6:Nat)(kind:Int)(t:Ty)(x5_6:Int):Option (Bool):=xit [1,2,5] [[2]] (X_Zae nf kf c7_Zae) (qB 0 (qS (X_Zae nf kf c23_Zae) (KF [.t 4 (.v .bool)]))) m6 ⟨[(1,.v kI kind),(2,.pt [2] 0),(5,.v kI x5_6)],[([2],.box [.v kI t.kind,.v (kL kS) t.labels,.v (kL (kR 0)) t.args])]⟩
theorem l6_Zae_eq(nf kf:Nat)(m6:Nat)(kind:Int)(t:Ty)(x5_6:Int):l6_Zae nf (kf+1) (m6+1) kind t x5_6=(br (decide (x5_6<(List.length t.args:Int))) (gg (0<=x5_6∧x5_6<(List.length t.args:Int))<|cb (m_Zae nf kf (gt t.args x5_6 Ty.zero) kind) fun r19=>br r19 (some true) (mark (l6_Zae nf (kf+1) m6 kind t (w64 (x5_6+(1:Int)))))) (some (t.kind==kind))):=by kernel_rfl
theorem m_Zae_eq(nf kf:Nat)(t:Ty)(kind:Int):m_Zae nf (kf+1) t kind=(mark (l6_Zae nf (kf+1) nf kind t (0:Int))):=by kernel_rfl
noncomputable def e_Zae(nf:Nat):XE:=eF 42 [.v (kR 0),.v kI] [.v .bool] (fun t=>m_Zae nf nf t.1 t.2.1)
theorem gok_Zae(nf:Nat):∀kf:Nat,XT.ok Try.prog (G_Zae nf kf++B_Zae nf)
 |0=>by exact trivial
 |kf+1=>by
  have ih:=gok_Zae nf kf
  refine⟨?_,(by exact trivial)⟩
  ·refine eF_ok fun t x h=> ?_
   obtain⟨t,kind,_⟩:=t
   exact runF_ok (N:=24) ih Try.func42 (by kernel_rfl) rfl h
theorem o_Zae(nf:Nat):conOK Try.prog 42 (e_Zae nf).con:=by
 have ih:=gok_Zae nf nf
 refine eF_ok fun t x h=> ?_
 obtain⟨t,kind,_⟩:=t
 exact runF_ok (N:=24) ih Try.func42 (by kernel_rfl) rfl h
def c19_Zah:C:=.sq (.rg [.mv 26 T1,.mv 4 T26]) .rt
def c15_Zah:C:=.sq (.bk 1 (.rg [.fa 19 T2 0 2 2,.ld 20 T19 (kL (kR 0)),.mv 21 T5,.ia 22 T20 T21 (kR 0),.ld 23 T22 (kR 0),.mv 24 T1,.cv (some 25) 62 [(T23,.v (kR 0)),(T24,.v kI)],.mv 1 T25])) (.rg [.mv 17 T5,.bi 18 .add T17 (.i 1),.mv 5 T18])
def c12_Zah:C:=.cd T16 .skip (.ex 0)
def w12_Zah:C:=.kp [1,2,5,16] [[2]] c12_Zah
def c9_Zah:C:=.sq (.sq (.rg [.mv 8 T5,.fa 9 T2 0 2 2,.ld 10 T9 (kL (kR 0)),.ln 11 false T10,.bi 12 .lss T8 T11,.mv 13 T12,.g 13 true (.mv 14 T1),.g 13 true (.bi 15 .geq T14 (.i 0)),.pk 16 T13 T15 (.b false)]) w12_Zah) c15_Zah
def ir_Zah:C:=.sq (.rg [.bx 2 T0 (kR 0),.mv 4 (.i 0)]) (.sq (.rg [.mv 6 T1,.bi 7 .sub T6 (.i 1),.mv 1 T7]) (.sq (.sq (.rg [.mv 5 (.i 0)]) (.bk 0 (.lk [1,2,5] [[2]] c9_Zah))) c19_Zah))
noncomputable def B_Zah(nf:Nat):XT:=[]
noncomputable def G_Zah(nf:Nat):Nat->XT
 |0=>[]
 |kf+1=>[eF 62 [.v (kR 0),.v kI] [.v kI] (fun t=>(fun(t:Ty) (left:Int)=>runF (G_Zah nf kf++B_Zah nf) nf [.v (kR 0),.v kI] [.t 4 (.v kI)] ir_Zah (t,left,())) t.1 t.2.1)]
noncomputable abbrev T_Zah(nf kf:Nat):XT:=G_Zah nf kf++B_Zah nf
noncomputable def m_Zah(nf kf:Nat)(t:Ty)(left:Int):Option (Int):=runF (T_Zah nf kf) nf [.v (kR 0),.v kI] [.t 4 (.v kI)] ir_Zah (t,left,())
noncomputable def X_Zah{R:Type}(nf kf:Nat):C->Env->(Xt->Env->Option R)->Option R:=xc (R:=R) (T_Zah nf kf).S nf
noncomputable def j12_Zah(nf kf:Nat)(m8:Nat)(x1_8:Int)(x5_8:Int)(t:Ty)(x16_12:Bool):Option (Int):=X_Zah nf kf c12_Zah ⟨[(1,.v kI x1_8),(2,.pt [2] 0),(5,.v kI x5_8),(16,.v .bool x16_12)],[([2],.box [.v kI t.kind,.v (kL kS) t.labels,.v (kL (kR 0)) t.args])]⟩ (qS (X_Zah nf kf c15_Zah) (qM [1,2,5] [[2]] (X_Zah nf kf c9_Zah) m8 (qB 0 (qS (X_Zah nf kf c19_Zah) (KF [.t 4 (.v kI)])))))
noncomputable def l8_Zah(nf kf:Nat)(m8:Nat)(t:Ty)(x1_8:Int)(x5_8:Int):Option (Int):=xit [1,2,5] [[2]] (X_Zah nf kf c9_Zah) (qB 0 (qS (X_Zah nf kf c19_Zah) (KF [.t 4 (.v kI)]))) m8 ⟨[(1,.v kI x1_8),(2,.pt [2] 0),(5,.v kI x5_8)],[([2],.box [.v kI t.kind,.v (kL kS) t.labels,.v (kL (kR 0)) t.args])]⟩
theorem j12_Zah_eq(nf kf:Nat)(m8:Nat)(x1_8:Int)(x5_8:Int)(t:Ty)(x16_12:Bool):j12_Zah nf (kf+1) m8 x1_8 x5_8 t x16_12=(br x16_12 (gg (0<=x5_8∧x5_8<(List.length t.args:Int))<|cb (m_Zah nf kf (gt t.args x5_8 Ty.zero) x1_8) fun r25=>mark (l8_Zah nf (kf+1) m8 t r25 (w64 (x5_8+(1:Int))))) (some x1_8)):=by kernel_rfl
theorem l8_Zah_eq(nf kf:Nat)(m8:Nat)(t:Ty)(x1_8:Int)(x5_8:Int):l8_Zah nf (kf+1) (m8+1) t x1_8 x5_8=(br ((decide (x5_8<(List.length t.args:Int)))==true) (mark (j12_Zah nf (kf+1) m8 x1_8 x5_8 t (decide ((0:Int)<=x1_8)))) (mark (j12_Zah nf (kf+1) m8 x1_8 x5_8 t false))):=by
 unfold l8_Zah j12_Zah c9_Zah c19_Zah w12_Zah c15_Zah
 generalize c12_Zah=x0
 revert x0
 refine id ?_
 intro x0
 kernel_rfl
theorem m_Zah_eq(nf kf:Nat)(t:Ty)(left:Int):m_Zah nf (kf+1) t left=(mark (l8_Zah nf (kf+1) nf t (w64 (left-(1:Int))) (0:Int))):=by kernel_rfl
noncomputable def e_Zah(nf:Nat):XE:=eF 62 [.v (kR 0),.v kI] [.v kI] (fun t=>m_Zah nf nf t.1 t.2.1)
theorem gok_Zah(nf:Nat):∀kf:Nat,XT.ok Try.prog (G_Zah nf kf++B_Zah nf)
 |0=>by exact trivial
 |kf+1=>by
  have ih:=gok_Zah nf kf
  refine⟨?_,(by exact trivial)⟩
  ·refine eF_ok fun t x h=> ?_
   obtain⟨t,left,_⟩:=t
   exact runF_ok (N:=27) ih Try.func62 (by kernel_rfl) rfl h
theorem o_Zah(nf:Nat):conOK Try.prog 62 (e_Zah nf).con:=by
 have ih:=gok_Zah nf nf
 refine eF_ok fun t x h=> ?_
 obtain⟨t,left,_⟩:=t
 exact runF_ok (N:=27) ih Try.func62 (by kernel_rfl) rfl h
def c19_ZG:C:=.sq (.rg [.mv 20 T3,.bi 21 .add T20 (.i 1),.mv 2 T21]) .rt
def c9_ZG:C:=.sq (.sq (.rg [.mv 5 T4,.fa 6 T1 0 2 2,.ld 7 T6 (kL (kR 0)),.ln 8 false T7,.bi 9 .lss T5 T8]) (.cd T9 .skip (.ex 0))) (.sq (.bk 1 (.rg [.mv 12 T3,.fa 13 T1 0 2 2,.ld 14 T13 (kL (kR 0)),.mv 15 T4,.ia 16 T14 T15 (kR 0),.ld 17 T16 (kR 0),.cv (some 18) 63 [(T17,.v (kR 0))],.cv (some 19) 94 [(T12,.v kI),(T18,.v kI)],.mv 3 T19])) (.rg [.mv 10 T4,.bi 11 .add T10 (.i 1),.mv 4 T11]))
def ir_ZG:C:=.sq (.rg [.bx 1 T0 (kR 0),.mv 2 (.i 0)]) (.sq (.rg [.mv 3 (.i 0)]) (.sq (.sq (.rg [.mv 4 (.i 0)]) (.bk 0 (.lk [1,3,4] [[1]] c9_ZG))) c19_ZG))
noncomputable def B_ZG(nf:Nat):XT:=[e_ZR nf]
noncomputable def G_ZG(nf:Nat):Nat->XT
 |0=>[]
 |kf+1=>[eF 63 [.v (kR 0)] [.v kI] (fun t=>(fun(t:Ty)=>runF (G_ZG nf kf++B_ZG nf) nf [.v (kR 0)] [.t 2 (.v kI)] ir_ZG (t,())) t.1)]
noncomputable abbrev T_ZG(nf kf:Nat):XT:=G_ZG nf kf++B_ZG nf
noncomputable def m_ZG(nf kf:Nat)(t:Ty):Option (Int):=runF (T_ZG nf kf) nf [.v (kR 0)] [.t 2 (.v kI)] ir_ZG (t,())
noncomputable def X_ZG{R:Type}(nf kf:Nat):C->Env->(Xt->Env->Option R)->Option R:=xc (R:=R) (T_ZG nf kf).S nf
noncomputable def l8_ZG(nf kf:Nat)(m8:Nat)(t:Ty)(x3_8:Int)(x4_8:Int):Option (Int):=xit [1,3,4] [[1]] (X_ZG nf kf c9_ZG) (qB 0 (qS (X_ZG nf kf c19_ZG) (KF [.t 2 (.v kI)]))) m8 ⟨[(1,.pt [1] 0),(3,.v kI x3_8),(4,.v kI x4_8)],[([1],.box [.v kI t.kind,.v (kL kS) t.labels,.v (kL (kR 0)) t.args])]⟩
theorem l8_ZG_eq(nf kf:Nat)(m8:Nat)(t:Ty)(x3_8:Int)(x4_8:Int):l8_ZG nf (kf+1) (m8+1) t x3_8 x4_8=(br (decide (x4_8<(List.length t.args:Int))) (gg (0<=x4_8∧x4_8<(List.length t.args:Int))<|cb (m_ZG nf kf (gt t.args x4_8 Ty.zero)) fun r18=>cb (m_ZR nf x3_8 r18) fun r19=>mark (l8_ZG nf (kf+1) m8 t r19 (w64 (x4_8+(1:Int))))) (some (w64 (x3_8+(1:Int))))):=by kernel_rfl
theorem m_ZG_eq(nf kf:Nat)(t:Ty):m_ZG nf (kf+1) t=(mark (l8_ZG nf (kf+1) nf t (0:Int) (0:Int))):=by kernel_rfl
noncomputable def e_ZG(nf:Nat):XE:=eF 63 [.v (kR 0)] [.v kI] (fun t=>m_ZG nf nf t.1)
theorem gok_ZG(nf:Nat):∀kf:Nat,XT.ok Try.prog (G_ZG nf kf++B_ZG nf)
 |0=>by exact⟨o_ZR nf,trivial⟩
 |kf+1=>by
  have ih:=gok_ZG nf kf
  refine⟨?_,(by exact⟨o_ZR nf,trivial⟩)⟩
  ·refine eF_ok fun t x h=> ?_
   obtain⟨t,_⟩:=t
   exact runF_ok (N:=22) ih Try.func63 (by kernel_rfl) rfl h
theorem o_ZG(nf:Nat):conOK Try.prog 63 (e_ZG nf).con:=by
 have ih:=gok_ZG nf nf
 refine eF_ok fun t x h=> ?_
 obtain⟨t,_⟩:=t
 exact runF_ok (N:=22) ih Try.func63 (by kernel_rfl) rfl h
def c62_Zac:C:=.sq (.rg [.fa 64 T1 0 1 1,.ld 65 T64 (kL kS),.ln 66 false T65,.bi 67 .eql T66 (.i 0),.mv 68 T67,.g 68 true (.fa 69 T1 0 2 2),.g 68 true (.ld 70 T69 (kL (kR 0))),.g 68 true (.ln 71 false T70),.g 68 true (.mv 72 T4),.g 68 true (.bi 73 .eql T71 T72),.pk 74 T68 T73 (.b false),.mv 2 T74]) .rt
def w62_Zac:C:=.kp [1,4] [[1]] c62_Zac
def c51_Zac:C:=.cd T57 (.rg [.mv 4 (.i 0)]) (.sq (.rg [.bi 61 .eql T56 (.i 4),.mv 60 T61]) (.cd T60 (.rg [.mv 4 (.i 1)]) (.sq (.rg [.bi 63 .eql T56 (.i 5),.mv 62 T63]) (.cd T62 (.rg [.mv 4 (.i 2)]) .skip))))
def w51_Zac:C:=.kp [1,4,56,57] [[1]] c51_Zac
def c39_Zac:C:=.sq (.rg [.mv 4 (.i (-1))]) (.sq (.sq (.rg [.fa 55 T1 0 0 0,.ld 56 T55 kI]) (.bk 2 (.sq (.sq (.rg [.bi 58 .eql T56 (.i 1),.mv 57 T58]) (.cd T57 .skip (.rg [.bi 59 .eql T56 (.i 2),.mv 57 T59]))) w51_Zac))) w62_Zac)
def c34_Zac:C:=.cd T54 (.sq (.rg [.mv 2 (.b false)]) .rt) .skip
def w34_Zac:C:=.kp [1,54] [[1]] c34_Zac
def c31_Zac:C:=.sq (.sq (.rg [.fa 39 T1 0 0 0,.ld 40 T39 kI,.bi 41 .eql T40 (.i 4),.mv 42 T41,.g 42 true (.fa 43 T1 0 2 2),.g 42 true (.ld 44 T43 (kL (kR 0))),.g 42 true (.ln 45 false T44),.g 42 true (.bi 46 .eql T45 (.i 1)),.pk 47 T42 T46 (.b false),.mv 48 T47,.g 48 true (.fa 49 T1 0 2 2),.g 48 true (.ld 50 T49 (kL (kR 0))),.g 48 true (.ia 51 T50 (.i 0) (kR 0)),.g 48 true (.ld 52 T51 (kR 0)),.g 48 true (.cv (some 53) 42 [(T52,.v (kR 0)),((.i 5),.v kI)]),.pk 54 T48 T53 (.b false)]) w34_Zac) c39_Zac
def c29_Zac:C:=.rt
def w29_Zac:C:=.kp [2] [] c29_Zac
def c23_Zac:C:=.sq (.sq (.rg [.fa 19 T1 0 0 0,.ld 20 T19 kI,.bi 21 .eql T20 (.i 3)]) (.cd T21 (.sq (.rg [.fa 22 T1 0 2 2,.ld 23 T22 (kL (kR 0)),.ln 24 false T23,.fa 25 T1 0 1 1,.ld 26 T25 (kL kS),.ln 27 false T26,.bi 28 .eql T24 T27,.mv 29 T28,.g 29 true (.fa 30 T1 0 1 1),.g 29 true (.ld 31 T30 (kL kS)),.g 29 true (.cv (some 32) 95 [(T31,.v (kL kS))]),.pk 33 T29 T32 (.b false),.mv 34 T33,.g 34 true (.ld 35 T1 (kR 0)),.g 34 true (.cv (some 36) 42 [(T35,.v (kR 0)),((.i 5),.v kI)]),.g 34 true (.un 37 .not T36),.pk 38 T34 T37 (.b false),.mv 2 T38]) w29_Zac) .skip)) c31_Zac
def w23_Zac:C:=.kp [1] [[1]] c23_Zac
def c7_Zac:C:=.sq (.sq (.rg [.mv 5 T3,.fa 6 T1 0 2 2,.ld 7 T6 (kL (kR 0)),.ln 8 false T7,.bi 9 .lss T5 T8]) (.cd T9 .skip (.ex 0))) (.sq (.bk 1 (.sq (.rg [.fa 12 T1 0 2 2,.ld 13 T12 (kL (kR 0)),.mv 14 T3,.ia 15 T13 T14 (kR 0),.ld 16 T15 (kR 0),.cv (some 17) 64 [(T16,.v (kR 0))],.un 18 .not T17]) (.cd T18 (.sq (.rg [.mv 2 (.b false)]) .rt) .skip))) (.rg [.mv 10 T3,.bi 11 .add T10 (.i 1),.mv 3 T11]))
def ir_Zac:C:=.sq (.rg [.bx 1 T0 (kR 0),.mv 2 (.b false)]) (.sq (.sq (.rg [.mv 3 (.i 0)]) (.bk 0 (.lk [1,3] [[1]] c7_Zac))) w23_Zac)
noncomputable def B_Zac(nf:Nat):XT:=[e_Zag nf,e_Zae nf]
noncomputable def G_Zac(nf:Nat):Nat->XT
 |0=>[]
 |kf+1=>[eF 64 [.v (kR 0)] [.v .bool] (fun t=>(fun(t:Ty)=>runF (G_Zac nf kf++B_Zac nf) nf [.v (kR 0)] [.t 2 (.v .bool)] ir_Zac (t,())) t.1)]
noncomputable abbrev T_Zac(nf kf:Nat):XT:=G_Zac nf kf++B_Zac nf
noncomputable def m_Zac(nf kf:Nat)(t:Ty):Option (Bool):=runF (T_Zac nf kf) nf [.v (kR 0)] [.t 2 (.v .bool)] ir_Zac (t,())
noncomputable def X_Zac{R:Type}(nf kf:Nat):C->Env->(Xt->Env->Option R)->Option R:=xc (R:=R) (T_Zac nf kf).S nf
noncomputable def l6_Zac(nf kf:Nat)(m6:Nat)(t:Ty)(x3_6:Int):Option (Bool):=xit [1,3] [[1]] (X_Zac nf kf c7_Zac) (qB 0 (qS (X_Zac nf kf w23_Zac) (KF [.t 2 (.v .bool)]))) m6 ⟨[(1,.pt [1] 0),(3,.v kI x3_6)],[([1],.box [.v kI t.kind,.v (kL kS) t.labels,.v (kL (kR 0)) t.args])]⟩
noncomputable def j29_Zac(nf kf:Nat)(x2_29:Bool):Option (Bool):=X_Zac nf kf c29_Zac ⟨[(2,.v .bool x2_29)],[]⟩ (qS (X_Zac nf kf c31_Zac) (KF [.t 2 (.v .bool)]))
noncomputable def j34_Zac(nf kf:Nat)(t:Ty)(x54_34:Bool):Option (Bool):=X_Zac nf kf c34_Zac ⟨[(1,.pt [1] 0),(54,.v .bool x54_34)],[([1],.box [.v kI t.kind,.v (kL kS) t.labels,.v (kL (kR 0)) t.args])]⟩ (qS (X_Zac nf kf c39_Zac) (KF [.t 2 (.v .bool)]))
noncomputable def j51_Zac(nf kf:Nat)(t:Ty)(x57_51:Bool):Option (Bool):=X_Zac nf kf c51_Zac ⟨[(1,.pt [1] 0),(4,.v kI (-1:Int)),(56,.v kI t.kind),(57,.v .bool x57_51)],[([1],.box [.v kI t.kind,.v (kL kS) t.labels,.v (kL (kR 0)) t.args])]⟩ (qB 2 (qS (X_Zac nf kf w62_Zac) (KF [.t 2 (.v .bool)])))
noncomputable def j62_Zac(nf kf:Nat)(t:Ty)(x4_62:Int):Option (Bool):=X_Zac nf kf c62_Zac ⟨[(1,.pt [1] 0),(4,.v kI x4_62)],[([1],.box [.v kI t.kind,.v (kL kS) t.labels,.v (kL (kR 0)) t.args])]⟩ (KF [.t 2 (.v .bool)])
noncomputable def j23_Zac(nf kf:Nat)(t:Ty):Option (Bool):=X_Zac nf kf c23_Zac ⟨[(1,.pt [1] 0)],[([1],.box [.v kI t.kind,.v (kL kS) t.labels,.v (kL (kR 0)) t.args])]⟩ (KF [.t 2 (.v .bool)])
theorem l6_Zac_eq(nf kf:Nat)(m6:Nat)(t:Ty)(x3_6:Int):l6_Zac nf (kf+1) (m6+1) t x3_6=(br (decide (x3_6<(List.length t.args:Int))) (gg (0<=x3_6∧x3_6<(List.length t.args:Int))<|cb (m_Zac nf kf (gt t.args x3_6 Ty.zero)) fun r17=>br (!r17) (some false) (mark (l6_Zac nf (kf+1) m6 t (w64 (x3_6+(1:Int)))))) (mark (j23_Zac nf (kf+1) t))):=by
 unfold l6_Zac j23_Zac c7_Zac w23_Zac
 generalize c23_Zac=x0
 revert x0
 refine id ?_
 intro x0
 kernel_rfl
theorem j29_Zac_eq(nf kf:Nat)(x2_29:Bool):j29_Zac nf (kf+1) x2_29=(some x2_29):=by
 unfold j29_Zac c29_Zac c31_Zac w34_Zac c39_Zac w51_Zac w62_Zac
 generalize c34_Zac=x0
 generalize c51_Zac=x1
 generalize c62_Zac=x2
 revert x0 x1 x2
 refine id ?_
 intro x0 x1 x2
 kernel_rfl
theorem j34_Zac_eq(nf kf:Nat)(t:Ty)(x54_34:Bool):j34_Zac nf (kf+1) t x54_34=(br x54_34 (some false) (br (t.kind==(1:Int)) (mark (j51_Zac nf (kf+1) t (t.kind==(1:Int)))) (mark (j51_Zac nf (kf+1) t (t.kind==(2:Int)))))):=by
 unfold j34_Zac j51_Zac c34_Zac c39_Zac w51_Zac w62_Zac
 generalize c51_Zac=x0
 generalize c62_Zac=x1
 revert x0 x1
 refine id ?_
 intro x0 x1
 kernel_rfl
theorem j51_Zac_eq(nf kf:Nat)(t:Ty)(x57_51:Bool):j51_Zac nf (kf+1) t x57_51=(br x57_51 (mark (j62_Zac nf (kf+1) t (0:Int))) (br (t.kind==(4:Int)) (mark (j62_Zac nf (kf+1) t (1:Int))) (br (t.kind==(5:Int)) (mark (j62_Zac nf (kf+1) t (2:Int))) (mark (j62_Zac nf (kf+1) t (-1:Int)))))):=by
 unfold j51_Zac j62_Zac c51_Zac w62_Zac
 generalize c62_Zac=x0
 revert x0
 refine id ?_
 intro x0
 kernel_rfl
theorem j62_Zac_eq(nf kf:Nat)(t:Ty)(x4_62:Int):j62_Zac nf (kf+1) t x4_62=(br (((List.length t.labels:Int)==(0:Int))==true) (some ((List.length t.args:Int)==x4_62)) (some false)):=by kernel_rfl
theorem j23_Zac_eq(nf kf:Nat)(t:Ty):j23_Zac nf (kf+1) t=(br (t.kind==(3:Int)) (br (((List.length t.args:Int)==(List.length t.labels:Int))==true) (cb (m_Zag nf t.labels) fun r32=>br (r32==true) (cb (m_Zae nf nf (Ty.h t) (5:Int)) fun r36=>mark (j29_Zac nf (kf+1) (!r36))) (mark (j29_Zac nf (kf+1) false))) (mark (j29_Zac nf (kf+1) false))) (br ((t.kind==(4:Int))==true) (br (((List.length t.args:Int)==(1:Int))==true) (gg (0<=(0:Int)∧(0:Int)<(List.length t.args:Int))<|cb (m_Zae nf nf (gt t.args (0:Int) Ty.zero) (5:Int)) fun r53=>mark (j34_Zac nf (kf+1) t r53)) (mark (j34_Zac nf (kf+1) t false))) (mark (j34_Zac nf (kf+1) t false)))):=by
 unfold j23_Zac j29_Zac j34_Zac c23_Zac w29_Zac c31_Zac w34_Zac c39_Zac w51_Zac w62_Zac
 generalize c29_Zac=x0
 generalize c34_Zac=x1
 generalize c51_Zac=x2
 generalize c62_Zac=x3
 revert x0 x1 x2 x3
 refine id ?_
 intro x0 x1 x2 x3
 kernel_rfl
theorem m_Zac_eq(nf kf:Nat)(t:Ty):m_Zac nf (kf+1) t=(mark (l6_Zac nf (kf+1) nf t (0:Int))):=by
 conv=>lhs;unfold m_Zac
 unfold l6_Zac ir_Zac w23_Zac
 generalize c23_Zac=x0
 revert x0
 refine id ?_
 intro x0
 kernel_rfl
noncomputable def e_Zac(nf:Nat):XE:=eF 64 [.v (kR 0)] [.v .bool] (fun t=>m_Zac nf nf t.1)
theorem gok_Zac(nf:Nat):∀kf:Nat,XT.ok Try.prog (G_Zac nf kf++B_Zac nf)
 |0=>by exact⟨o_Zag nf,o_Zae nf,trivial⟩
 |kf+1=>by
  have ih:=gok_Zac nf kf
  refine⟨?_,(by exact⟨o_Zag nf,o_Zae nf,trivial⟩)⟩
  ·refine eF_ok fun t x h=> ?_
   obtain⟨t,_⟩:=t
   exact runF_ok (N:=75) ih Try.func64 (by kernel_rfl) rfl h
theorem o_Zac(nf:Nat):conOK Try.prog 64 (e_Zac nf).con:=by
 have ih:=gok_Zac nf nf
 refine eF_ok fun t x h=> ?_
 obtain⟨t,_⟩:=t
 exact runF_ok (N:=75) ih Try.func64 (by kernel_rfl) rfl h
def ir_ZL:C:=.sq (.rg [.bx 1 T0 (kR 0),.mv 2 (.b false)]) (.sq (.rg [.ld 3 T1 (kR 0),.cv (some 4) 62 [(T3,.v (kR 0)),((.i 24),.v kI)],.bi 5 .geq T4 (.i 0),.mv 6 T5,.g 6 true (.ld 7 T1 (kR 0)),.g 6 true (.cv (some 8) 63 [(T7,.v (kR 0))]),.g 6 true (.bi 9 .leq T8 (.i 7)),.pk 10 T6 T9 (.b false),.mv 11 T10,.g 11 true (.ld 12 T1 (kR 0)),.g 11 true (.cv (some 13) 64 [(T12,.v (kR 0))]),.pk 14 T11 T13 (.b false),.mv 2 T14]) .rt)
noncomputable abbrev T_ZL(nf:Nat):XT:=[e_Zah nf,e_ZG nf,e_Zac nf]
noncomputable def m_ZL(nf:Nat)(t:Ty):Option (Bool):=runF (T_ZL nf) nf [.v (kR 0)] [.t 2 (.v .bool)] ir_ZL (t,())
theorem m_ZL_eq(nf:Nat)(t:Ty):m_ZL nf t=(cb (m_Zah nf nf (Ty.h t) (24:Int)) fun r4=>br ((decide ((0:Int)<=r4))==true) (cb (m_ZG nf nf (Ty.h t)) fun r8=>br ((decide (r8<=(7:Int)))==true) (cb (m_Zac nf nf (Ty.h t)) fun r13=>some r13) (some false)) (some false)):=by kernel_rfl
noncomputable def e_ZL(nf:Nat):XE:=eF 28 [.v (kR 0)] [.v .bool] (fun t=>m_ZL nf t.1)
theorem o_ZL(nf:Nat):conOK Try.prog 28 (e_ZL nf).con:=by
 have ih:XT.ok Try.prog (T_ZL nf):=by exact⟨o_Zah nf,o_ZG nf,o_Zac nf,trivial⟩
 refine eF_ok fun t x h=> ?_
 obtain⟨t,_⟩:=t
 exact runF_ok (N:=15) ih Try.func28 (by kernel_rfl) rfl h
def c25_ZM:C:=.sq (.rg [.mv 25 T5,.cs 26 T25,.mv 4 T26]) .rt
def c24_ZM:C:=.rg [.mv 12 T6,.bi 13 .add T12 (.i 1),.mv 6 T13]
def c23_ZM:C:=.rg [.mv 19 T5,.mv 20 T0,.mv 21 T6,.ia 22 T20 T21 kS,.ld 23 T22 kS,.sa 24 [5] T19 T23,.mv 5 T24]
def w23_ZM:C:=.gt 5 true (.int .u8) (.kp [0,1,5,6] [[5]] c23_ZM)
def c9_ZM:C:=.sq (.sq (.rg [.mv 8 T6,.mv 9 T0,.ln 10 false T9,.bi 11 .lss T8 T10]) (.cd T11 .skip (.ex 0))) (.sq (.bk 1 (.sq (.sq (.rg [.mv 14 T6,.bi 15 .gtr T14 (.i 0)]) (.cd T15 (.gt 5 true (.int .u8) (.rg [.mv 16 T5,.mv 17 T1,.sa 18 [5] T16 T17,.mv 5 T18])) .skip)) w23_ZM)) c24_ZM)
def ir_ZM:C:=.sq (.rg [.mv 4 (.s [])]) (.sq (.rg [.bs 7 true (.int .u8) [],.mv 5 T7]) (.sq (.sq (.rg [.mv 6 (.i 0)]) (.bk 0 (.gt 5 true (.int .u8) (.lk [0,1,5,6] [[5]] c9_ZM)))) c25_ZM))
noncomputable abbrev T_ZM(nf:Nat):XT:=[]
noncomputable def m_ZM(nf:Nat)(list:List Str)(sep:Str):Option (Str):=runF (T_ZM nf) nf [.v (kL kS),.v kS] [.t 4 (.v kS)] ir_ZM (list,sep,())
noncomputable def X_ZM{R:Type}(nf:Nat):C->Env->(Xt->Env->Option R)->Option R:=xc (R:=R) (T_ZM nf).S nf
noncomputable def j23_ZM(nf:Nat)(m8:Nat)(list:List Str)(sep:Str)(x6_8:Int)(y5_23:List Int):Option (Str):=X_ZM nf c23_ZM ⟨[(0,.v (kL kS) list),(1,.v kS sep),(5,.sl [5]),(6,.v kI x6_8)],[([5],.row true false (.int .u8) y5_23)]⟩ (qB 1 (qS (X_ZM nf c24_ZM) (qM [0,1,5,6] [[5]] (X_ZM nf c9_ZM) m8 (qB 0 (qS (X_ZM nf c25_ZM) (KF [.t 4 (.v kS)]))))))
noncomputable def l8_ZM(nf:Nat)(m8:Nat)(list:List Str)(sep:Str)(x6_8:Int)(y5_8:List Int):Option (Str):=xit [0,1,5,6] [[5]] (X_ZM nf c9_ZM) (qB 0 (qS (X_ZM nf c25_ZM) (KF [.t 4 (.v kS)]))) m8 ⟨[(0,.v (kL kS) list),(1,.v kS sep),(5,.sl [5]),(6,.v kI x6_8)],[([5],.row true false (.int .u8) y5_8)]⟩
theorem j23_ZM_eq(nf:Nat)(m8:Nat)(list:List Str)(sep:Str)(x6_8:Int)(y5_23:List Int):j23_ZM nf m8 list sep x6_8 y5_23=(gg (0<=x6_8∧x6_8<(List.length list:Int))<|gg (List.length y5_23+List.length (gt list x6_8 ([]:Str))<=33554432)<|mark (l8_ZM nf m8 list sep (w64 (x6_8+(1:Int))) (y5_23++intsOf (gt list x6_8 ([]:Str))))):=by kernel_rfl
theorem l8_ZM_eq(nf:Nat)(m8:Nat)(list:List Str)(sep:Str)(x6_8:Int)(y5_8:List Int):l8_ZM nf (m8+1) list sep x6_8 y5_8=(br (decide (x6_8<(List.length list:Int))) (br (decide ((0:Int)<x6_8)) (gg (List.length y5_8+List.length sep<=33554432)<|mark (j23_ZM nf m8 list sep x6_8 (y5_8++intsOf sep))) (mark (j23_ZM nf m8 list sep x6_8 y5_8))) (some (bytesOf y5_8))):=by
 unfold l8_ZM j23_ZM c9_ZM c25_ZM w23_ZM c24_ZM
 generalize c23_ZM=x0
 revert x0
 refine id ?_
 intro x0
 kernel_rfl
theorem m_ZM_eq(nf:Nat)(list:List Str)(sep:Str):m_ZM nf list sep=(mark (l8_ZM nf nf list sep (0:Int) ([]:List Int))):=by kernel_rfl
noncomputable def e_ZM(nf:Nat):XE:=eF 56 [.v (kL kS),.v kS] [.v kS] (fun t=>m_ZM nf t.1 t.2.1)
theorem o_ZM(nf:Nat):conOK Try.prog 56 (e_ZM nf).con:=by
 have ih:XT.ok Try.prog (T_ZM nf):=by exact trivial
 refine eF_ok fun t x h=> ?_
 obtain⟨list,sep,_⟩:=t
 exact runF_ok (N:=27) ih Try.func56 (by kernel_rfl) rfl h
end Go.Q
