import Derived.Test.YtmkelbchboiliaaGreatInE
import Derived.Test.YtmkelbchboiliaaGreatQe
import Derived.Test.YtmkelbchboiliaaGreatProg
import Derived.KernelRfl
set_option linter.unusedVariables false
set_option linter.unusedSimpArgs false
namespace Go.Q
open Go.Proofs
set_option maxRecDepth 20000
set_option maxHeartbeats 4000000
def c35_Zam:C:=.sq (.rg [.mv 27 T1,.mv 4 T27]) .rt
def c17_Zam:C:=.sq (.sq (.rg [.mv 12 T5,.mv 13 T0,.ln 14 false T13,.bi 15 .lss T12 T14]) (.cd T15 .skip (.ex 0))) (.sq (.bk 1 (.sq (.rg [.mv 18 T1,.mv 19 T0,.mv 20 T5,.ia 21 T19 T20 kS,.ld 22 T21 kS,.ln 23 true T22,.bi 24 .sub T18 T23,.mv 1 T24]) (.sq (.rg [.mv 25 T1,.bi 26 .lss T25 (.i 0)]) (.cd T26 (.sq (.rg [.mv 4 (.i (-1))]) .rt) .skip)))) (.rg [.mv 16 T5,.bi 17 .add T16 (.i 1),.mv 5 T17]))
def ir_Zam:C:=.sq (.rg [.mv 4 (.i 0)]) (.sq (.rg [.mv 6 T1,.mv 7 T0,.ln 8 false T7,.bi 9 .sub T6 T8,.mv 1 T9]) (.sq (.sq (.rg [.mv 10 T1,.bi 11 .lss T10 (.i 0)]) (.cd T11 (.sq (.rg [.mv 4 (.i (-1))]) .rt) .skip)) (.sq (.sq (.rg [.mv 5 (.i 0)]) (.bk 0 (.lk [0,1,5] [] c17_Zam))) c35_Zam)))
noncomputable abbrev T_Zam(nf:Nat):XT:=[]
noncomputable def m_Zam(nf:Nat)(a:List Str)(left:Int):Option (Int):=runF (T_Zam nf) nf [.v (kL kS),.v kI] [.t 4 (.v kI)] ir_Zam (a,left,())
noncomputable def X_Zam{R:Type}(nf:Nat):C->Env->(Xt->Env->Option R)->Option R:=xc (R:=R) (T_Zam nf).S nf
noncomputable def l16_Zam(nf:Nat)(m16:Nat)(a:List Str)(x1_16:Int)(x5_16:Int):Option (Int):=xit [0,1,5] [] (X_Zam nf c17_Zam) (qB 0 (qS (X_Zam nf c35_Zam) (KF [.t 4 (.v kI)]))) m16 ⟨[(0,.v (kL kS) a),(1,.v kI x1_16),(5,.v kI x5_16)],[]⟩
theorem l16_Zam_eq(nf:Nat)(m16:Nat)(a:List Str)(x1_16:Int)(x5_16:Int):l16_Zam nf (m16+1) a x1_16 x5_16=(br (decide (x5_16<(List.length a:Int))) (gg (0<=x5_16∧x5_16<(List.length a:Int))<|br (decide ((w64 (x1_16-(List.length (gt a x5_16 ([]:Str)):Int)))<(0:Int))) (some (-1:Int)) (mark (l16_Zam nf m16 a (w64 (x1_16-(List.length (gt a x5_16 ([]:Str)):Int))) (w64 (x5_16+(1:Int)))))) (some x1_16)):=by kernel_rfl
theorem m_Zam_eq(nf:Nat)(a:List Str)(left:Int):m_Zam nf a left=(br (decide ((w64 (left-(List.length a:Int)))<(0:Int))) (some (-1:Int)) (mark (l16_Zam nf nf a (w64 (left-(List.length a:Int))) (0:Int)))):=by kernel_rfl
noncomputable def e_Zam(nf:Nat):XE:=eF 47 [.v (kL kS),.v kI] [.v kI] (fun t=>m_Zam nf t.1 t.2.1)
theorem o_Zam(nf:Nat):conOK Tryz.prog 47 (e_Zam nf).con:=by
 have ih:XT.ok Tryz.prog (T_Zam nf):=by exact trivial
 refine eF_ok fun t x h=> ?_
 obtain⟨a,left,_⟩:=t
 exact runF_ok (N:=28) ih Tryz.func47 (by kernel_rfl) rfl h
def c35_Zas:C:=.sq (.rg [.mv 26 T1,.mv 4 T26]) .rt
def c17_Zas:C:=.sq (.sq (.rg [.mv 12 T5,.mv 13 T0,.ln 14 false T13,.bi 15 .lss T12 T14]) (.cd T15 .skip (.ex 0))) (.sq (.bk 1 (.sq (.rg [.mv 18 T0,.mv 19 T5,.ia 20 T18 T19 (kR 0),.ld 21 T20 (kR 0),.mv 22 T1,.cv (some 23) 15 [(T21,.v (kR 0)),(T22,.v kI)],.mv 1 T23]) (.sq (.rg [.mv 24 T1,.bi 25 .lss T24 (.i 0)]) (.cd T25 (.sq (.rg [.mv 4 (.i (-1))]) .rt) .skip)))) (.rg [.mv 16 T5,.bi 17 .add T16 (.i 1),.mv 5 T17]))
def ir_Zas:C:=.sq (.rg [.mv 4 (.i 0)]) (.sq (.rg [.mv 6 T1,.mv 7 T0,.ln 8 false T7,.bi 9 .sub T6 T8,.mv 1 T9]) (.sq (.sq (.rg [.mv 10 T1,.bi 11 .lss T10 (.i 0)]) (.cd T11 (.sq (.rg [.mv 4 (.i (-1))]) .rt) .skip)) (.sq (.sq (.rg [.mv 5 (.i 0)]) (.bk 0 (.lk [0,1,5] [] c17_Zas))) c35_Zas)))
def ir_Zar:C:=.sq (.rg [.bx 2 T0 (kR 0),.mv 4 (.i 0)]) (.sq (.rg [.fa 5 T2 0 1 1,.ld 6 T5 (kL kS),.mv 7 T1,.cv (some 8) 47 [(T6,.v (kL kS)),(T7,.v kI)],.mv 1 T8]) (.sq (.sq (.rg [.mv 9 T1,.bi 10 .lss T9 (.i 0)]) (.cd T10 (.sq (.rg [.mv 4 (.i (-1))]) .rt) .skip)) (.sq (.rg [.fa 11 T2 0 2 2,.ld 12 T11 (kL (kR 0)),.mv 13 T1,.cv (some 14) 49 [(T12,.v (kL (kR 0))),(T13,.v kI)],.mv 1 T14]) (.sq (.sq (.rg [.mv 15 T1,.bi 16 .lss T15 (.i 0)]) (.cd T16 (.sq (.rg [.mv 4 (.i (-1))]) .rt) .skip)) (.sq (.rg [.mv 17 T1,.mv 4 T17]) .rt)))))
noncomputable def B_Zas(nf:Nat):XT:=[e_Zam nf]
noncomputable def G_Zas(nf:Nat):Nat->XT
 |0=>[]
 |kf+1=>[eF 49 [.v (kL (kR 0)),.v kI] [.v kI] (fun t=>(fun(a:List Ty) (left:Int)=>runF (G_Zas nf kf++B_Zas nf) nf [.v (kL (kR 0)),.v kI] [.t 4 (.v kI)] ir_Zas (a,left,())) t.1 t.2.1),
  eF 15 [.v (kR 0),.v kI] [.v kI] (fun t=>(fun(a:Ty) (left:Int)=>runF (G_Zas nf kf++B_Zas nf) nf [.v (kR 0),.v kI] [.t 4 (.v kI)] ir_Zar (a,left,())) t.1 t.2.1)]
noncomputable abbrev T_Zas(nf kf:Nat):XT:=G_Zas nf kf++B_Zas nf
noncomputable abbrev T_Zar(nf kf:Nat):XT:=G_Zas nf kf++B_Zas nf
noncomputable def m_Zas(nf kf:Nat)(a:List Ty)(left:Int):Option (Int):=runF (T_Zas nf kf) nf [.v (kL (kR 0)),.v kI] [.t 4 (.v kI)] ir_Zas (a,left,())
noncomputable def X_Zas{R:Type}(nf kf:Nat):C->Env->(Xt->Env->Option R)->Option R:=xc (R:=R) (T_Zas nf kf).S nf
noncomputable def m_Zar(nf kf:Nat)(a:Ty)(left:Int):Option (Int):=runF (T_Zar nf kf) nf [.v (kR 0),.v kI] [.t 4 (.v kI)] ir_Zar (a,left,())
noncomputable def l16_Zas(nf kf:Nat)(m16:Nat)(a:List Ty)(x1_16:Int)(x5_16:Int):Option (Int):=xit [0,1,5] [] (X_Zas nf kf c17_Zas) (qB 0 (qS (X_Zas nf kf c35_Zas) (KF [.t 4 (.v kI)]))) m16 ⟨[(0,.v (kL (kR 0)) a),(1,.v kI x1_16),(5,.v kI x5_16)],[]⟩
theorem l16_Zas_eq(nf kf:Nat)(m16:Nat)(a:List Ty)(x1_16:Int)(x5_16:Int):l16_Zas nf (kf+1) (m16+1) a x1_16 x5_16=(br (decide (x5_16<(List.length a:Int))) (gg (0<=x5_16∧x5_16<(List.length a:Int))<|cb (m_Zar nf kf (gt a x5_16 Ty.zero) x1_16) fun r23=>br (decide (r23<(0:Int))) (some (-1:Int)) (mark (l16_Zas nf (kf+1) m16 a r23 (w64 (x5_16+(1:Int)))))) (some x1_16)):=by kernel_rfl
theorem m_Zas_eq(nf kf:Nat)(a:List Ty)(left:Int):m_Zas nf (kf+1) a left=(br (decide ((w64 (left-(List.length a:Int)))<(0:Int))) (some (-1:Int)) (mark (l16_Zas nf (kf+1) nf a (w64 (left-(List.length a:Int))) (0:Int)))):=by kernel_rfl
theorem m_Zar_eq(nf kf:Nat)(a:Ty)(left:Int):m_Zar nf (kf+1) a left=(cb (m_Zam nf a.labels left) fun r8=>br (decide (r8<(0:Int))) (some (-1:Int)) (cb (m_Zas nf kf a.args r8) fun r14=>br (decide (r14<(0:Int))) (some (-1:Int)) (some r14))):=by kernel_rfl
noncomputable def e_Zar(nf:Nat):XE:=eF 15 [.v (kR 0),.v kI] [.v kI] (fun t=>m_Zar nf nf t.1 t.2.1)
theorem gok_Zas(nf:Nat):∀kf:Nat,XT.ok Tryz.prog (G_Zas nf kf++B_Zas nf)
 |0=>by exact⟨o_Zam nf,trivial⟩
 |kf+1=>by
  have ih:=gok_Zas nf kf
  refine⟨?_,?_,(by exact⟨o_Zam nf,trivial⟩)⟩
  ·refine eF_ok fun t x h=> ?_
   obtain⟨a,left,_⟩:=t
   exact runF_ok (N:=27) ih Tryz.func49 (by kernel_rfl) rfl h
  ·refine eF_ok fun t x h=> ?_
   obtain⟨a,left,_⟩:=t
   exact runF_ok (N:=18) ih Tryz.func15 (by kernel_rfl) rfl h
theorem o_Zar(nf:Nat):conOK Tryz.prog 15 (e_Zar nf).con:=by
 have ih:=gok_Zas nf nf
 refine eF_ok fun t x h=> ?_
 obtain⟨a,left,_⟩:=t
 exact runF_ok (N:=18) ih Tryz.func15 (by kernel_rfl) rfl h
def ir_Zan:C:=.sq (.rg [.bx 2 T0 (kR 4),.mv 4 (.i 0)]) (.sq (.rg [.mv 5 T1,.fa 6 T2 4 0 0,.ld 7 T6 kS,.ln 8 true T7,.bi 9 .sub T5 T8,.mv 1 T9]) (.sq (.sq (.rg [.mv 10 T1,.bi 11 .lss T10 (.i 0)]) (.cd T11 (.sq (.rg [.mv 4 (.i (-1))]) .rt) .skip)) (.sq (.rg [.fa 12 T2 4 1 1,.ld 13 T12 (kR 0),.mv 14 T1,.cv (some 15) 15 [(T13,.v (kR 0)),(T14,.v kI)],.mv 1 T15]) (.sq (.sq (.rg [.mv 16 T1,.bi 17 .lss T16 (.i 0)]) (.cd T17 (.sq (.rg [.mv 4 (.i (-1))]) .rt) .skip)) (.sq (.rg [.mv 18 T1,.mv 4 T18]) .rt)))))
noncomputable abbrev T_Zan(nf:Nat):XT:=[e_Zar nf]
noncomputable def m_Zan(nf:Nat)(a:TDecl)(left:Int):Option (Int):=runF (T_Zan nf) nf [.v (kR 4),.v kI] [.t 4 (.v kI)] ir_Zan (a,left,())
theorem m_Zan_eq(nf:Nat)(a:TDecl)(left:Int):m_Zan nf a left=(br (decide ((w64 (left-(List.length a.name:Int)))<(0:Int))) (some (-1:Int)) (cb (m_Zar nf nf (Ty.h a.row) (w64 (left-(List.length a.name:Int)))) fun r15=>br (decide (r15<(0:Int))) (some (-1:Int)) (some r15))):=by kernel_rfl
noncomputable def e_Zan(nf:Nat):XE:=eF 69 [.v (kR 4),.v kI] [.v kI] (fun t=>m_Zan nf t.1 t.2.1)
theorem o_Zan(nf:Nat):conOK Tryz.prog 69 (e_Zan nf).con:=by
 have ih:XT.ok Tryz.prog (T_Zan nf):=by exact⟨o_Zar nf,trivial⟩
 refine eF_ok fun t x h=> ?_
 obtain⟨a,left,_⟩:=t
 exact runF_ok (N:=19) ih Tryz.func69 (by kernel_rfl) rfl h
def c35_Zao:C:=.sq (.rg [.mv 26 T1,.mv 4 T26]) .rt
def c17_Zao:C:=.sq (.sq (.rg [.mv 12 T5,.mv 13 T0,.ln 14 false T13,.bi 15 .lss T12 T14]) (.cd T15 .skip (.ex 0))) (.sq (.bk 1 (.sq (.rg [.mv 18 T0,.mv 19 T5,.ia 20 T18 T19 (kR 4),.ld 21 T20 (kR 4),.mv 22 T1,.cv (some 23) 69 [(T21,.v (kR 4)),(T22,.v kI)],.mv 1 T23]) (.sq (.rg [.mv 24 T1,.bi 25 .lss T24 (.i 0)]) (.cd T25 (.sq (.rg [.mv 4 (.i (-1))]) .rt) .skip)))) (.rg [.mv 16 T5,.bi 17 .add T16 (.i 1),.mv 5 T17]))
def ir_Zao:C:=.sq (.rg [.mv 4 (.i 0)]) (.sq (.rg [.mv 6 T1,.mv 7 T0,.ln 8 false T7,.bi 9 .sub T6 T8,.mv 1 T9]) (.sq (.sq (.rg [.mv 10 T1,.bi 11 .lss T10 (.i 0)]) (.cd T11 (.sq (.rg [.mv 4 (.i (-1))]) .rt) .skip)) (.sq (.sq (.rg [.mv 5 (.i 0)]) (.bk 0 (.lk [0,1,5] [] c17_Zao))) c35_Zao)))
noncomputable abbrev T_Zao(nf:Nat):XT:=[e_Zan nf]
noncomputable def m_Zao(nf:Nat)(a:List TDecl)(left:Int):Option (Int):=runF (T_Zao nf) nf [.v (kL (kR 4)),.v kI] [.t 4 (.v kI)] ir_Zao (a,left,())
noncomputable def X_Zao{R:Type}(nf:Nat):C->Env->(Xt->Env->Option R)->Option R:=xc (R:=R) (T_Zao nf).S nf
noncomputable def l16_Zao(nf:Nat)(m16:Nat)(a:List TDecl)(x1_16:Int)(x5_16:Int):Option (Int):=xit [0,1,5] [] (X_Zao nf c17_Zao) (qB 0 (qS (X_Zao nf c35_Zao) (KF [.t 4 (.v kI)]))) m16 ⟨[(0,.v (kL (kR 4)) a),(1,.v kI x1_16),(5,.v kI x5_16)],[]⟩
theorem l16_Zao_eq(nf:Nat)(m16:Nat)(a:List TDecl)(x1_16:Int)(x5_16:Int):l16_Zao nf (m16+1) a x1_16 x5_16=(br (decide (x5_16<(List.length a:Int))) (gg (0<=x5_16∧x5_16<(List.length a:Int))<|cb (m_Zan nf (gt a x5_16 TDecl.zero) x1_16) fun r23=>br (decide (r23<(0:Int))) (some (-1:Int)) (mark (l16_Zao nf m16 a r23 (w64 (x5_16+(1:Int)))))) (some x1_16)):=by kernel_rfl
theorem m_Zao_eq(nf:Nat)(a:List TDecl)(left:Int):m_Zao nf a left=(br (decide ((w64 (left-(List.length a:Int)))<(0:Int))) (some (-1:Int)) (mark (l16_Zao nf nf a (w64 (left-(List.length a:Int))) (0:Int)))):=by kernel_rfl
noncomputable def e_Zao(nf:Nat):XE:=eF 27 [.v (kL (kR 4)),.v kI] [.v kI] (fun t=>m_Zao nf t.1 t.2.1)
theorem o_Zao(nf:Nat):conOK Tryz.prog 27 (e_Zao nf).con:=by
 have ih:XT.ok Tryz.prog (T_Zao nf):=by exact⟨o_Zan nf,trivial⟩
 refine eF_ok fun t x h=> ?_
 obtain⟨a,left,_⟩:=t
 exact runF_ok (N:=27) ih Tryz.func27 (by kernel_rfl) rfl h
def ir_Zal:C:=.sq (.rg [.bx 2 T0 (kR 5),.mv 4 (.i 0)]) (.sq (.rg [.fa 5 T2 5 0 0,.ld 6 T5 (kL (kR 4)),.mv 7 T1,.cv (some 8) 27 [(T6,.v (kL (kR 4))),(T7,.v kI)],.mv 1 T8]) (.sq (.sq (.rg [.mv 9 T1,.bi 10 .lss T9 (.i 0)]) (.cd T10 (.sq (.rg [.mv 4 (.i (-1))]) .rt) .skip)) (.sq (.rg [.mv 11 T1,.mv 4 T11]) .rt)))
noncomputable abbrev T_Zal(nf:Nat):XT:=[e_Zao nf]
noncomputable def m_Zal(nf:Nat)(a:Schema)(left:Int):Option (Int):=runF (T_Zal nf) nf [.v (kR 5),.v kI] [.t 4 (.v kI)] ir_Zal (a,left,())
theorem m_Zal_eq(nf:Nat)(a:Schema)(left:Int):m_Zal nf a left=(cb (m_Zao nf a.tables left) fun r8=>br (decide (r8<(0:Int))) (some (-1:Int)) (some r8)):=by kernel_rfl
noncomputable def e_Zal(nf:Nat):XE:=eF 6 [.v (kR 5),.v kI] [.v kI] (fun t=>m_Zal nf t.1 t.2.1)
theorem o_Zal(nf:Nat):conOK Tryz.prog 6 (e_Zal nf).con:=by
 have ih:XT.ok Tryz.prog (T_Zal nf):=by exact⟨o_Zao nf,trivial⟩
 refine eF_ok fun t x h=> ?_
 obtain⟨a,left,_⟩:=t
 exact runF_ok (N:=12) ih Tryz.func6 (by kernel_rfl) rfl h
def c35_Zaq:C:=.sq (.rg [.mv 26 T1,.mv 4 T26]) .rt
def c17_Zaq:C:=.sq (.sq (.rg [.mv 12 T5,.mv 13 T0,.ln 14 false T13,.bi 15 .lss T12 T14]) (.cd T15 .skip (.ex 0))) (.sq (.bk 1 (.sq (.rg [.mv 18 T0,.mv 19 T5,.ia 20 T18 T19 (kR 2),.ld 21 T20 (kR 2),.mv 22 T1,.cv (some 23) 28 [(T21,.v (kR 2)),(T22,.v kI)],.mv 1 T23]) (.sq (.rg [.mv 24 T1,.bi 25 .lss T24 (.i 0)]) (.cd T25 (.sq (.rg [.mv 4 (.i (-1))]) .rt) .skip)))) (.rg [.mv 16 T5,.bi 17 .add T16 (.i 1),.mv 5 T17]))
def ir_Zaq:C:=.sq (.rg [.mv 4 (.i 0)]) (.sq (.rg [.mv 6 T1,.mv 7 T0,.ln 8 false T7,.bi 9 .sub T6 T8,.mv 1 T9]) (.sq (.sq (.rg [.mv 10 T1,.bi 11 .lss T10 (.i 0)]) (.cd T11 (.sq (.rg [.mv 4 (.i (-1))]) .rt) .skip)) (.sq (.sq (.rg [.mv 5 (.i 0)]) (.bk 0 (.lk [0,1,5] [] c17_Zaq))) c35_Zaq)))
def ir_Zap:C:=.sq (.rg [.bx 2 T0 (kR 2),.mv 4 (.i 0)]) (.sq (.rg [.mv 5 T1,.fa 6 T2 2 1 1,.ld 7 T6 kS,.ln 8 true T7,.bi 9 .sub T5 T8,.mv 1 T9]) (.sq (.sq (.rg [.mv 10 T1,.bi 11 .lss T10 (.i 0)]) (.cd T11 (.sq (.rg [.mv 4 (.i (-1))]) .rt) .skip)) (.sq (.rg [.fa 12 T2 2 3 3,.ld 13 T12 (kR 0),.mv 14 T1,.cv (some 15) 15 [(T13,.v (kR 0)),(T14,.v kI)],.mv 1 T15]) (.sq (.sq (.rg [.mv 16 T1,.bi 17 .lss T16 (.i 0)]) (.cd T17 (.sq (.rg [.mv 4 (.i (-1))]) .rt) .skip)) (.sq (.rg [.fa 18 T2 2 4 6,.ld 19 T18 (kL kS),.mv 20 T1,.cv (some 21) 47 [(T19,.v (kL kS)),(T20,.v kI)],.mv 1 T21]) (.sq (.sq (.rg [.mv 22 T1,.bi 23 .lss T22 (.i 0)]) (.cd T23 (.sq (.rg [.mv 4 (.i (-1))]) .rt) .skip)) (.sq (.rg [.fa 24 T2 2 5 7,.ld 25 T24 (kL (kR 2)),.mv 26 T1,.cv (some 27) 29 [(T25,.v (kL (kR 2))),(T26,.v kI)],.mv 1 T27]) (.sq (.sq (.rg [.mv 28 T1,.bi 29 .lss T28 (.i 0)]) (.cd T29 (.sq (.rg [.mv 4 (.i (-1))]) .rt) .skip)) (.sq (.rg [.mv 30 T1,.mv 4 T30]) .rt)))))))))
noncomputable def B_Zaq(nf:Nat):XT:=[e_Zar nf,e_Zam nf]
noncomputable def G_Zaq(nf:Nat):Nat->XT
 |0=>[]
 |kf+1=>[eF 29 [.v (kL (kR 2)),.v kI] [.v kI] (fun t=>(fun(a:List Tm) (left:Int)=>runF (G_Zaq nf kf++B_Zaq nf) nf [.v (kL (kR 2)),.v kI] [.t 4 (.v kI)] ir_Zaq (a,left,())) t.1 t.2.1),
  eF 28 [.v (kR 2),.v kI] [.v kI] (fun t=>(fun(a:Tm) (left:Int)=>runF (G_Zaq nf kf++B_Zaq nf) nf [.v (kR 2),.v kI] [.t 4 (.v kI)] ir_Zap (a,left,())) t.1 t.2.1)]
noncomputable abbrev T_Zaq(nf kf:Nat):XT:=G_Zaq nf kf++B_Zaq nf
noncomputable abbrev T_Zap(nf kf:Nat):XT:=G_Zaq nf kf++B_Zaq nf
noncomputable def m_Zaq(nf kf:Nat)(a:List Tm)(left:Int):Option (Int):=runF (T_Zaq nf kf) nf [.v (kL (kR 2)),.v kI] [.t 4 (.v kI)] ir_Zaq (a,left,())
noncomputable def X_Zaq{R:Type}(nf kf:Nat):C->Env->(Xt->Env->Option R)->Option R:=xc (R:=R) (T_Zaq nf kf).S nf
noncomputable def m_Zap(nf kf:Nat)(a:Tm)(left:Int):Option (Int):=runF (T_Zap nf kf) nf [.v (kR 2),.v kI] [.t 4 (.v kI)] ir_Zap (a,left,())
noncomputable def l16_Zaq(nf kf:Nat)(m16:Nat)(a:List Tm)(x1_16:Int)(x5_16:Int):Option (Int):=xit [0,1,5] [] (X_Zaq nf kf c17_Zaq) (qB 0 (qS (X_Zaq nf kf c35_Zaq) (KF [.t 4 (.v kI)]))) m16 ⟨[(0,.v (kL (kR 2)) a),(1,.v kI x1_16),(5,.v kI x5_16)],[]⟩
theorem l16_Zaq_eq(nf kf:Nat)(m16:Nat)(a:List Tm)(x1_16:Int)(x5_16:Int):l16_Zaq nf (kf+1) (m16+1) a x1_16 x5_16=(br (decide (x5_16<(List.length a:Int))) (gg (0<=x5_16∧x5_16<(List.length a:Int))<|cb (m_Zap nf kf (gt a x5_16 Tm.zero) x1_16) fun r23=>br (decide (r23<(0:Int))) (some (-1:Int)) (mark (l16_Zaq nf (kf+1) m16 a r23 (w64 (x5_16+(1:Int)))))) (some x1_16)):=by kernel_rfl
theorem m_Zaq_eq(nf kf:Nat)(a:List Tm)(left:Int):m_Zaq nf (kf+1) a left=(br (decide ((w64 (left-(List.length a:Int)))<(0:Int))) (some (-1:Int)) (mark (l16_Zaq nf (kf+1) nf a (w64 (left-(List.length a:Int))) (0:Int)))):=by kernel_rfl
noncomputable def e_Zaq(nf:Nat):XE:=eF 29 [.v (kL (kR 2)),.v kI] [.v kI] (fun t=>m_Zaq nf nf t.1 t.2.1)
theorem m_Zap_eq(nf kf:Nat)(a:Tm)(left:Int):m_Zap nf (kf+1) a left=(br (decide ((w64 (left-(List.length a.name:Int)))<(0:Int))) (some (-1:Int)) (cb (m_Zar nf nf (Ty.h a.type) (w64 (left-(List.length a.name:Int)))) fun r15=>br (decide (r15<(0:Int))) (some (-1:Int)) (cb (m_Zam nf a.labels r15) fun r21=>br (decide (r21<(0:Int))) (some (-1:Int)) (cb (m_Zaq nf kf a.args r21) fun r27=>br (decide (r27<(0:Int))) (some (-1:Int)) (some r27))))):=by kernel_rfl
noncomputable def e_Zap(nf:Nat):XE:=eF 28 [.v (kR 2),.v kI] [.v kI] (fun t=>m_Zap nf nf t.1 t.2.1)
theorem gok_Zaq(nf:Nat):∀kf:Nat,XT.ok Tryz.prog (G_Zaq nf kf++B_Zaq nf)
 |0=>by exact⟨o_Zar nf,o_Zam nf,trivial⟩
 |kf+1=>by
  have ih:=gok_Zaq nf kf
  refine⟨?_,?_,(by exact⟨o_Zar nf,o_Zam nf,trivial⟩)⟩
  ·refine eF_ok fun t x h=> ?_
   obtain⟨a,left,_⟩:=t
   exact runF_ok (N:=27) ih Tryz.func29 (by kernel_rfl) rfl h
  ·refine eF_ok fun t x h=> ?_
   obtain⟨a,left,_⟩:=t
   exact runF_ok (N:=31) ih Tryz.func28 (by kernel_rfl) rfl h
theorem o_Zaq(nf:Nat):conOK Tryz.prog 29 (e_Zaq nf).con:=by
 have ih:=gok_Zaq nf nf
 refine eF_ok fun t x h=> ?_
 obtain⟨a,left,_⟩:=t
 exact runF_ok (N:=27) ih Tryz.func29 (by kernel_rfl) rfl h
theorem o_Zap(nf:Nat):conOK Tryz.prog 28 (e_Zap nf).con:=by
 have ih:=gok_Zaq nf nf
 refine eF_ok fun t x h=> ?_
 obtain⟨a,left,_⟩:=t
 exact runF_ok (N:=31) ih Tryz.func28 (by kernel_rfl) rfl h
def c35_Zak:C:=.sq (.rg [.mv 26 T1,.mv 4 T26]) .rt
def c17_Zak:C:=.sq (.sq (.rg [.mv 12 T5,.mv 13 T0,.ln 14 false T13,.bi 15 .lss T12 T14]) (.cd T15 .skip (.ex 0))) (.sq (.bk 1 (.sq (.rg [.mv 18 T0,.mv 19 T5,.ia 20 T18 T19 (kR 17),.ld 21 T20 (kR 17),.mv 22 T1,.cv (some 23) 7 [(T21,.v (kR 17)),(T22,.v kI)],.mv 1 T23]) (.sq (.rg [.mv 24 T1,.bi 25 .lss T24 (.i 0)]) (.cd T25 (.sq (.rg [.mv 4 (.i (-1))]) .rt) .skip)))) (.rg [.mv 16 T5,.bi 17 .add T16 (.i 1),.mv 5 T17]))
def ir_Zak:C:=.sq (.rg [.mv 4 (.i 0)]) (.sq (.rg [.mv 6 T1,.mv 7 T0,.ln 8 false T7,.bi 9 .sub T6 T8,.mv 1 T9]) (.sq (.sq (.rg [.mv 10 T1,.bi 11 .lss T10 (.i 0)]) (.cd T11 (.sq (.rg [.mv 4 (.i (-1))]) .rt) .skip)) (.sq (.sq (.rg [.mv 5 (.i 0)]) (.bk 0 (.lk [0,1,5] [] c17_Zak))) c35_Zak)))
def ir_Zaj:C:=.sq (.rg [.bx 2 T0 (kR 17),.mv 4 (.i 0)]) (.sq (.rg [.mv 5 T1,.fa 6 T2 17 1 1,.ld 7 T6 kS,.ln 8 true T7,.bi 9 .sub T5 T8,.mv 1 T9]) (.sq (.sq (.rg [.mv 10 T1,.bi 11 .lss T10 (.i 0)]) (.cd T11 (.sq (.rg [.mv 4 (.i (-1))]) .rt) .skip)) (.sq (.rg [.mv 12 T1,.fa 13 T2 17 2 2,.ld 14 T13 kS,.ln 15 true T14,.bi 16 .sub T12 T15,.mv 1 T16]) (.sq (.sq (.rg [.mv 17 T1,.bi 18 .lss T17 (.i 0)]) (.cd T18 (.sq (.rg [.mv 4 (.i (-1))]) .rt) .skip)) (.sq (.rg [.fa 19 T2 17 3 3,.ld 20 T19 (kR 2),.mv 21 T1,.cv (some 22) 28 [(T20,.v (kR 2)),(T21,.v kI)],.mv 1 T22]) (.sq (.sq (.rg [.mv 23 T1,.bi 24 .lss T23 (.i 0)]) (.cd T24 (.sq (.rg [.mv 4 (.i (-1))]) .rt) .skip)) (.sq (.rg [.fa 25 T2 17 4 11,.ld 26 T25 (kL (kR 2)),.mv 27 T1,.cv (some 28) 29 [(T26,.v (kL (kR 2))),(T27,.v kI)],.mv 1 T28]) (.sq (.sq (.rg [.mv 29 T1,.bi 30 .lss T29 (.i 0)]) (.cd T30 (.sq (.rg [.mv 4 (.i (-1))]) .rt) .skip)) (.sq (.rg [.fa 31 T2 17 5 12,.ld 32 T31 (kL (kR 17)),.mv 33 T1,.cv (some 34) 30 [(T32,.v (kL (kR 17))),(T33,.v kI)],.mv 1 T34]) (.sq (.sq (.rg [.mv 35 T1,.bi 36 .lss T35 (.i 0)]) (.cd T36 (.sq (.rg [.mv 4 (.i (-1))]) .rt) .skip)) (.sq (.rg [.mv 37 T1,.mv 4 T37]) .rt)))))))))))
noncomputable def B_Zak(nf:Nat):XT:=[e_Zap nf,e_Zaq nf]
noncomputable def G_Zak(nf:Nat):Nat->XT
 |0=>[]
 |kf+1=>[eF 30 [.v (kL (kR 17)),.v kI] [.v kI] (fun t=>(fun(a:List Plan) (left:Int)=>runF (G_Zak nf kf++B_Zak nf) nf [.v (kL (kR 17)),.v kI] [.t 4 (.v kI)] ir_Zak (a,left,())) t.1 t.2.1),
  eF 7 [.v (kR 17),.v kI] [.v kI] (fun t=>(fun(a:Plan) (left:Int)=>runF (G_Zak nf kf++B_Zak nf) nf [.v (kR 17),.v kI] [.t 4 (.v kI)] ir_Zaj (a,left,())) t.1 t.2.1)]
noncomputable abbrev T_Zak(nf kf:Nat):XT:=G_Zak nf kf++B_Zak nf
noncomputable abbrev T_Zaj(nf kf:Nat):XT:=G_Zak nf kf++B_Zak nf
noncomputable def m_Zak(nf kf:Nat)(a:List Plan)(left:Int):Option (Int):=runF (T_Zak nf kf) nf [.v (kL (kR 17)),.v kI] [.t 4 (.v kI)] ir_Zak (a,left,())
noncomputable def X_Zak{R:Type}(nf kf:Nat):C->Env->(Xt->Env->Option R)->Option R:=xc (R:=R) (T_Zak nf kf).S nf
noncomputable def m_Zaj(nf kf:Nat)(a:Plan)(left:Int):Option (Int):=runF (T_Zaj nf kf) nf [.v (kR 17),.v kI] [.t 4 (.v kI)] ir_Zaj (a,left,())
noncomputable def l16_Zak(nf kf:Nat)(m16:Nat)(a:List Plan)(x1_16:Int)(x5_16:Int):Option (Int):=xit [0,1,5] [] (X_Zak nf kf c17_Zak) (qB 0 (qS (X_Zak nf kf c35_Zak) (KF [.t 4 (.v kI)]))) m16 ⟨[(0,.v (kL (kR 17)) a),(1,.v kI x1_16),(5,.v kI x5_16)],[]⟩
theorem l16_Zak_eq(nf kf:Nat)(m16:Nat)(a:List Plan)(x1_16:Int)(x5_16:Int):l16_Zak nf (kf+1) (m16+1) a x1_16 x5_16=(br (decide (x5_16<(List.length a:Int))) (gg (0<=x5_16∧x5_16<(List.length a:Int))<|cb (m_Zaj nf kf (gt a x5_16 Plan.zero) x1_16) fun r23=>br (decide (r23<(0:Int))) (some (-1:Int)) (mark (l16_Zak nf (kf+1) m16 a r23 (w64 (x5_16+(1:Int)))))) (some x1_16)):=by kernel_rfl
theorem m_Zak_eq(nf kf:Nat)(a:List Plan)(left:Int):m_Zak nf (kf+1) a left=(br (decide ((w64 (left-(List.length a:Int)))<(0:Int))) (some (-1:Int)) (mark (l16_Zak nf (kf+1) nf a (w64 (left-(List.length a:Int))) (0:Int)))):=by kernel_rfl
theorem m_Zaj_eq(nf kf:Nat)(a:Plan)(left:Int):m_Zaj nf (kf+1) a left=(br (decide ((w64 (left-(List.length a.var:Int)))<(0:Int))) (some (-1:Int)) (br (decide ((w64 ((w64 (left-(List.length a.var:Int)))-(List.length a.table:Int)))<(0:Int))) (some (-1:Int)) (cb (m_Zap nf nf (Tm.h a.cond) (w64 ((w64 (left-(List.length a.var:Int)))-(List.length a.table:Int)))) fun r22=>br (decide (r22<(0:Int))) (some (-1:Int)) (cb (m_Zaq nf nf a.keys r22) fun r28=>br (decide (r28<(0:Int))) (some (-1:Int)) (cb (m_Zak nf kf a.args r28) fun r34=>br (decide (r34<(0:Int))) (some (-1:Int)) (some r34)))))):=by kernel_rfl
noncomputable def e_Zaj(nf:Nat):XE:=eF 7 [.v (kR 17),.v kI] [.v kI] (fun t=>m_Zaj nf nf t.1 t.2.1)
theorem gok_Zak(nf:Nat):∀kf:Nat,XT.ok Tryz.prog (G_Zak nf kf++B_Zak nf)
 |0=>by exact⟨o_Zap nf,o_Zaq nf,trivial⟩
 |kf+1=>by
  have ih:=gok_Zak nf kf
  refine⟨?_,?_,(by exact⟨o_Zap nf,o_Zaq nf,trivial⟩)⟩
  ·refine eF_ok fun t x h=> ?_
   obtain⟨a,left,_⟩:=t
   exact runF_ok (N:=27) ih Tryz.func30 (by kernel_rfl) rfl h
  ·refine eF_ok fun t x h=> ?_
   obtain⟨a,left,_⟩:=t
   exact runF_ok (N:=38) ih Tryz.func7 (by kernel_rfl) rfl h
theorem o_Zaj(nf:Nat):conOK Tryz.prog 7 (e_Zaj nf).con:=by
 have ih:=gok_Zak nf nf
 refine eF_ok fun t x h=> ?_
 obtain⟨a,left,_⟩:=t
 exact runF_ok (N:=38) ih Tryz.func7 (by kernel_rfl) rfl h
def c19_Zaw:C:=.sq (.rg [.mv 21 T3,.mv 2 T21]) .rt
def c9_Zaw:C:=.sq (.sq (.rg [.mv 8 T4,.mv 9 T0,.ln 10 false T9,.bi 11 .lss T8 T10]) (.cd T11 .skip (.ex 0))) (.sq (.bk 1 (.rg [.mv 14 T3,.mv 15 T4,.mv 16 T0,.mv 17 T4,.ia 18 T16 T17 kS,.ld 19 T18 kS,.ia 20 T14 T15 kS,.st T20 T19 kS])) (.rg [.mv 12 T4,.bi 13 .add T12 (.i 1),.mv 4 T13]))
def ir_Zaw:C:=.sq (.rg [.mv 2 (.nl kS)]) (.sq (.rg [.mv 5 T0,.ln 6 false T5,.mk 7 true kS T6,.mv 3 T7]) (.sq (.sq (.rg [.mv 4 (.i 0)]) (.bk 0 (.lk [0,3,4] [[7]] c9_Zaw))) c19_Zaw))
noncomputable abbrev T_Zaw(nf:Nat):XT:=[]
noncomputable def m_Zaw(nf:Nat)(a:List Str):Option (List Str):=runF (T_Zaw nf) nf [.v (kL kS)] [.t 2 (.o (kL kS))] ir_Zaw (a,())
noncomputable def X_Zaw{R:Type}(nf:Nat):C->Env->(Xt->Env->Option R)->Option R:=xc (R:=R) (T_Zaw nf).S nf
noncomputable def l8_Zaw(nf:Nat)(m8:Nat)(a:List Str)(x4_8:Int)(y7_8:List Str):Option (List Str):=xit [0,3,4] [[7]] (X_Zaw nf c9_Zaw) (qB 0 (qS (X_Zaw nf c19_Zaw) (KF [.t 2 (.o (kL kS))]))) m8 ⟨[(0,.v (kL kS) a),(3,.sl [7]),(4,.v kI x4_8)],[([7],.row true false kS y7_8)]⟩
theorem l8_Zaw_eq(nf:Nat)(m8:Nat)(a:List Str)(x4_8:Int)(y7_8:List Str):l8_Zaw nf (m8+1) a x4_8 y7_8=(br (decide (x4_8<(List.length a:Int))) (gg (0<=x4_8∧x4_8<(List.length a:Int))<|gg (0<=x4_8∧x4_8<(List.length y7_8:Int))<|gg (0<=x4_8∧x4_8<(List.length y7_8:Int))<|mark (l8_Zaw nf m8 a (w64 (x4_8+(1:Int))) (List.set y7_8 (Int.toNat x4_8) (gt a x4_8 ([]:Str))))) (some y7_8)):=by kernel_rfl
theorem m_Zaw_eq(nf:Nat)(a:List Str):m_Zaw nf a=(gg (0<=(List.length a:Int)∧(List.length a:Int)<=2147483647)<|mark (l8_Zaw nf nf a (0:Int) (List.replicate (Int.toNat (List.length a:Int)) ([]:Str)))):=by kernel_rfl
noncomputable def e_Zaw(nf:Nat):XE:=eF 53 [.v (kL kS)] [.o (kL kS)] (fun t=>m_Zaw nf t.1)
theorem o_Zaw(nf:Nat):conOK Tryz.prog 53 (e_Zaw nf).con:=by
 have ih:XT.ok Tryz.prog (T_Zaw nf):=by exact trivial
 refine eF_ok fun t x h=> ?_
 obtain⟨a,_⟩:=t
 exact runF_ok (N:=22) ih Tryz.func53 (by kernel_rfl) rfl h
def c19_ZaC:C:=.sq (.rg [.mv 22 T3,.mv 2 T22]) .rt
def c9_ZaC:C:=.sq (.sq (.rg [.mv 8 T4,.mv 9 T0,.ln 10 false T9,.bi 11 .lss T8 T10]) (.cd T11 .skip (.ex 0))) (.sq (.bk 1 (.rg [.mv 14 T3,.mv 15 T4,.mv 16 T0,.mv 17 T4,.ia 18 T16 T17 (kR 0),.ld 19 T18 (kR 0),.ca (some 20) 18 [(T19,.v (kR 0))],.ia 21 T14 T15 (kR 0),.st T21 T20 (kR 0)])) (.rg [.mv 12 T4,.bi 13 .add T12 (.i 1),.mv 4 T13]))
def ir_ZaC:C:=.sq (.rg [.mv 2 (.nl (kR 0))]) (.sq (.rg [.mv 5 T0,.ln 6 false T5,.mk 7 true (kR 0) T6,.mv 3 T7]) (.sq (.sq (.rg [.mv 4 (.i 0)]) (.bk 0 (.lk [0,3,4] [[7]] c9_ZaC))) c19_ZaC))
def ir_ZaB:C:=.sq (.rg [.bx 1 T0 (kR 0),.al 2 (kR 0)]) (.sq (.rg [.al 3 (kR 0)]) (.sq (.rg [.fa 4 T1 0 0 0,.ld 5 T4 kI,.fa 6 T3 0 0 0,.st T6 T5 kI]) (.sq (.rg [.fa 7 T1 0 1 1,.ld 8 T7 (kL kS),.ca (some 9) 53 [(T8,.v (kL kS))],.fa 10 T3 0 1 1,.st T10 T9 (kL kS)]) (.sq (.rg [.fa 11 T1 0 2 2,.ld 12 T11 (kL (kR 0)),.ca (some 13) 55 [(T12,.v (kL (kR 0)))],.fa 14 T3 0 2 2,.st T14 T13 (kL (kR 0))]) (.sq (.rg [.ld 15 T3 (kR 0),.st T2 T15 (kR 0)]) .rt)))))
noncomputable def B_ZaC(nf:Nat):XT:=[e_Zaw nf]
noncomputable def G_ZaC(nf:Nat):Nat->XT
 |0=>[]
 |kf+1=>[eF 55 [.v (kL (kR 0))] [.o (kL (kR 0))] (fun t=>(fun(a:List Ty)=>runF (G_ZaC nf kf++B_ZaC nf) nf [.v (kL (kR 0))] [.t 2 (.o (kL (kR 0)))] ir_ZaC (a,())) t.1),
  eF 18 [.v (kR 0)] [.o (kR 0)] (fun t=>(fun(a:Ty)=>runF (G_ZaC nf kf++B_ZaC nf) nf [.v (kR 0)] [.c 2 (.o (kR 0))] ir_ZaB (a,())) t.1)]
noncomputable abbrev T_ZaC(nf kf:Nat):XT:=G_ZaC nf kf++B_ZaC nf
noncomputable abbrev T_ZaB(nf kf:Nat):XT:=G_ZaC nf kf++B_ZaC nf
noncomputable def m_ZaC(nf kf:Nat)(a:List Ty):Option (List Ty):=runF (T_ZaC nf kf) nf [.v (kL (kR 0))] [.t 2 (.o (kL (kR 0)))] ir_ZaC (a,())
noncomputable def X_ZaC{R:Type}(nf kf:Nat):C->Env->(Xt->Env->Option R)->Option R:=xc (R:=R) (T_ZaC nf kf).S nf
noncomputable def m_ZaB(nf kf:Nat)(a:Ty):Option (Ty):=runF (T_ZaB nf kf) nf [.v (kR 0)] [.c 2 (.o (kR 0))] ir_ZaB (a,())
noncomputable def l8_ZaC(nf kf:Nat)(m8:Nat)(a:List Ty)(x4_8:Int)(y7_8:List Ty):Option (List Ty):=xit [0,3,4] [[7]] (X_ZaC nf kf c9_ZaC) (qB 0 (qS (X_ZaC nf kf c19_ZaC) (KF [.t 2 (.o (kL (kR 0)))]))) m8 ⟨[(0,.v (kL (kR 0)) a),(3,.sl [7]),(4,.v kI x4_8)],[([7],.row true false (kR 0) y7_8)]⟩
theorem l8_ZaC_eq(nf kf:Nat)(m8:Nat)(a:List Ty)(x4_8:Int)(y7_8:List Ty):l8_ZaC nf (kf+1) (m8+1) a x4_8 y7_8=(br (decide (x4_8<(List.length a:Int))) (gg (0<=x4_8∧x4_8<(List.length a:Int))<|cb (m_ZaB nf kf (gt a x4_8 Ty.zero)) fun r20=>gg (0<=x4_8∧x4_8<(List.length y7_8:Int))<|gg (0<=x4_8∧x4_8<(List.length y7_8:Int))<|mark (l8_ZaC nf (kf+1) m8 a (w64 (x4_8+(1:Int))) (List.set y7_8 (Int.toNat x4_8) (Ty.h r20)))) (some y7_8)):=by kernel_rfl
theorem m_ZaC_eq(nf kf:Nat)(a:List Ty):m_ZaC nf (kf+1) a=(gg (0<=(List.length a:Int)∧(List.length a:Int)<=2147483647)<|mark (l8_ZaC nf (kf+1) nf a (0:Int) (List.replicate (Int.toNat (List.length a:Int)) Ty.zero))):=by kernel_rfl
theorem m_ZaB_eq(nf kf:Nat)(a:Ty):m_ZaB nf (kf+1) a=(cb (m_Zaw nf a.labels) fun r9=>cb (m_ZaC nf kf a.args) fun r13=>some (Ty.mk a.kind r9 r13)):=by kernel_rfl
noncomputable def e_ZaB(nf:Nat):XE:=eF 18 [.v (kR 0)] [.o (kR 0)] (fun t=>m_ZaB nf nf t.1)
theorem gok_ZaC(nf:Nat):∀kf:Nat,XT.ok Tryz.prog (G_ZaC nf kf++B_ZaC nf)
 |0=>by exact⟨o_Zaw nf,trivial⟩
 |kf+1=>by
  have ih:=gok_ZaC nf kf
  refine⟨?_,?_,(by exact⟨o_Zaw nf,trivial⟩)⟩
  ·refine eF_ok fun t x h=> ?_
   obtain⟨a,_⟩:=t
   exact runF_ok (N:=23) ih Tryz.func55 (by kernel_rfl) rfl h
  ·refine eF_ok fun t x h=> ?_
   obtain⟨a,_⟩:=t
   exact runF_ok (N:=16) ih Tryz.func18 (by kernel_rfl) rfl h
theorem o_ZaB(nf:Nat):conOK Tryz.prog 18 (e_ZaB nf).con:=by
 have ih:=gok_ZaC nf nf
 refine eF_ok fun t x h=> ?_
 obtain⟨a,_⟩:=t
 exact runF_ok (N:=16) ih Tryz.func18 (by kernel_rfl) rfl h
def ir_Zax:C:=.sq (.rg [.bx 1 T0 (kR 4),.al 2 (kR 4)]) (.sq (.rg [.al 3 (kR 4)]) (.sq (.rg [.fa 4 T1 4 0 0,.ld 5 T4 kS,.fa 6 T3 4 0 0,.st T6 T5 kS]) (.sq (.rg [.fa 7 T1 4 1 1,.ld 8 T7 (kR 0),.ca (some 9) 18 [(T8,.v (kR 0))],.fa 10 T3 4 1 1,.st T10 T9 (kR 0)]) (.sq (.rg [.ld 11 T3 (kR 4),.st T2 T11 (kR 4)]) .rt))))
noncomputable abbrev T_Zax(nf:Nat):XT:=[e_ZaB nf]
noncomputable def m_Zax(nf:Nat)(a:TDecl):Option (TDecl):=runF (T_Zax nf) nf [.v (kR 4)] [.c 2 (.o (kR 4))] ir_Zax (a,())
theorem m_Zax_eq(nf:Nat)(a:TDecl):m_Zax nf a=(cb (m_ZaB nf nf (Ty.h a.row)) fun r9=>some (TDecl.mk a.name (Ty.h r9))):=by kernel_rfl
noncomputable def e_Zax(nf:Nat):XE:=eF 78 [.v (kR 4)] [.o (kR 4)] (fun t=>m_Zax nf t.1)
theorem o_Zax(nf:Nat):conOK Tryz.prog 78 (e_Zax nf).con:=by
 have ih:XT.ok Tryz.prog (T_Zax nf):=by exact⟨o_ZaB nf,trivial⟩
 refine eF_ok fun t x h=> ?_
 obtain⟨a,_⟩:=t
 exact runF_ok (N:=12) ih Tryz.func78 (by kernel_rfl) rfl h
def c19_Zay:C:=.sq (.rg [.mv 22 T3,.mv 2 T22]) .rt
def c9_Zay:C:=.sq (.sq (.rg [.mv 8 T4,.mv 9 T0,.ln 10 false T9,.bi 11 .lss T8 T10]) (.cd T11 .skip (.ex 0))) (.sq (.bk 1 (.rg [.mv 14 T3,.mv 15 T4,.mv 16 T0,.mv 17 T4,.ia 18 T16 T17 (kR 4),.ld 19 T18 (kR 4),.ca (some 20) 78 [(T19,.v (kR 4))],.ia 21 T14 T15 (kR 4),.st T21 T20 (kR 4)])) (.rg [.mv 12 T4,.bi 13 .add T12 (.i 1),.mv 4 T13]))
def ir_Zay:C:=.sq (.rg [.mv 2 (.nl (kR 4))]) (.sq (.rg [.mv 5 T0,.ln 6 false T5,.mk 7 true (kR 4) T6,.mv 3 T7]) (.sq (.sq (.rg [.mv 4 (.i 0)]) (.bk 0 (.lk [0,3,4] [[7]] c9_Zay))) c19_Zay))
noncomputable abbrev T_Zay(nf:Nat):XT:=[e_Zax nf]
noncomputable def m_Zay(nf:Nat)(a:List TDecl):Option (List TDecl):=runF (T_Zay nf) nf [.v (kL (kR 4))] [.t 2 (.o (kL (kR 4)))] ir_Zay (a,())
noncomputable def X_Zay{R:Type}(nf:Nat):C->Env->(Xt->Env->Option R)->Option R:=xc (R:=R) (T_Zay nf).S nf
noncomputable def l8_Zay(nf:Nat)(m8:Nat)(a:List TDecl)(x4_8:Int)(y7_8:List TDecl):Option (List TDecl):=xit [0,3,4] [[7]] (X_Zay nf c9_Zay) (qB 0 (qS (X_Zay nf c19_Zay) (KF [.t 2 (.o (kL (kR 4)))]))) m8 ⟨[(0,.v (kL (kR 4)) a),(3,.sl [7]),(4,.v kI x4_8)],[([7],.row true false (kR 4) y7_8)]⟩
theorem l8_Zay_eq(nf:Nat)(m8:Nat)(a:List TDecl)(x4_8:Int)(y7_8:List TDecl):l8_Zay nf (m8+1) a x4_8 y7_8=(br (decide (x4_8<(List.length a:Int))) (gg (0<=x4_8∧x4_8<(List.length a:Int))<|cb (m_Zax nf (gt a x4_8 TDecl.zero)) fun r20=>gg (0<=x4_8∧x4_8<(List.length y7_8:Int))<|gg (0<=x4_8∧x4_8<(List.length y7_8:Int))<|mark (l8_Zay nf m8 a (w64 (x4_8+(1:Int))) (List.set y7_8 (Int.toNat x4_8) (TDecl.h r20)))) (some y7_8)):=by kernel_rfl
theorem m_Zay_eq(nf:Nat)(a:List TDecl):m_Zay nf a=(gg (0<=(List.length a:Int)∧(List.length a:Int)<=2147483647)<|mark (l8_Zay nf nf a (0:Int) (List.replicate (Int.toNat (List.length a:Int)) TDecl.zero))):=by kernel_rfl
noncomputable def e_Zay(nf:Nat):XE:=eF 35 [.v (kL (kR 4))] [.o (kL (kR 4))] (fun t=>m_Zay nf t.1)
theorem o_Zay(nf:Nat):conOK Tryz.prog 35 (e_Zay nf).con:=by
 have ih:XT.ok Tryz.prog (T_Zay nf):=by exact⟨o_Zax nf,trivial⟩
 refine eF_ok fun t x h=> ?_
 obtain⟨a,_⟩:=t
 exact runF_ok (N:=23) ih Tryz.func35 (by kernel_rfl) rfl h
def ir_Zav:C:=.sq (.rg [.bx 1 T0 (kR 5),.al 2 (kR 5)]) (.sq (.rg [.al 3 (kR 5)]) (.sq (.rg [.fa 4 T1 5 0 0,.ld 5 T4 (kL (kR 4)),.ca (some 6) 35 [(T5,.v (kL (kR 4)))],.fa 7 T3 5 0 0,.st T7 T6 (kL (kR 4))]) (.sq (.rg [.ld 8 T3 (kR 5),.st T2 T8 (kR 5)]) .rt)))
noncomputable abbrev T_Zav(nf:Nat):XT:=[e_Zay nf]
noncomputable def m_Zav(nf:Nat)(a:Schema):Option (Schema):=runF (T_Zav nf) nf [.v (kR 5)] [.c 2 (.o (kR 5))] ir_Zav (a,())
theorem m_Zav_eq(nf:Nat)(a:Schema):m_Zav nf a=(cb (m_Zay nf a.tables) fun r6=>some (Schema.mk r6)):=by kernel_rfl
noncomputable def e_Zav(nf:Nat):XE:=eF 9 [.v (kR 5)] [.o (kR 5)] (fun t=>m_Zav nf t.1)
theorem o_Zav(nf:Nat):conOK Tryz.prog 9 (e_Zav nf).con:=by
 have ih:XT.ok Tryz.prog (T_Zav nf):=by exact⟨o_Zay nf,trivial⟩
 refine eF_ok fun t x h=> ?_
 obtain⟨a,_⟩:=t
 exact runF_ok (N:=9) ih Tryz.func9 (by kernel_rfl) rfl h
def c19_ZaA:C:=.sq (.rg [.mv 22 T3,.mv 2 T22]) .rt
def c9_ZaA:C:=.sq (.sq (.rg [.mv 8 T4,.mv 9 T0,.ln 10 false T9,.bi 11 .lss T8 T10]) (.cd T11 .skip (.ex 0))) (.sq (.bk 1 (.rg [.mv 14 T3,.mv 15 T4,.mv 16 T0,.mv 17 T4,.ia 18 T16 T17 (kR 2),.ld 19 T18 (kR 2),.ca (some 20) 36 [(T19,.v (kR 2))],.ia 21 T14 T15 (kR 2),.st T21 T20 (kR 2)])) (.rg [.mv 12 T4,.bi 13 .add T12 (.i 1),.mv 4 T13]))
def ir_ZaA:C:=.sq (.rg [.mv 2 (.nl (kR 2))]) (.sq (.rg [.mv 5 T0,.ln 6 false T5,.mk 7 true (kR 2) T6,.mv 3 T7]) (.sq (.sq (.rg [.mv 4 (.i 0)]) (.bk 0 (.lk [0,3,4] [[7]] c9_ZaA))) c19_ZaA))
def ir_Zaz:C:=.sq (.rg [.bx 1 T0 (kR 2),.al 2 (kR 2)]) (.sq (.rg [.al 3 (kR 2)]) (.sq (.rg [.fa 4 T1 2 0 0,.ld 5 T4 kI,.fa 6 T3 2 0 0,.st T6 T5 kI]) (.sq (.rg [.fa 7 T1 2 1 1,.ld 8 T7 kS,.fa 9 T3 2 1 1,.st T9 T8 kS]) (.sq (.rg [.fa 10 T1 2 2 2,.ld 11 T10 kI,.fa 12 T3 2 2 2,.st T12 T11 kI]) (.sq (.rg [.fa 13 T1 2 3 3,.ld 14 T13 (kR 0),.ca (some 15) 18 [(T14,.v (kR 0))],.fa 16 T3 2 3 3,.st T16 T15 (kR 0)]) (.sq (.rg [.fa 17 T1 2 4 6,.ld 18 T17 (kL kS),.ca (some 19) 53 [(T18,.v (kL kS))],.fa 20 T3 2 4 6,.st T20 T19 (kL kS)]) (.sq (.rg [.fa 21 T1 2 5 7,.ld 22 T21 (kL (kR 2)),.ca (some 23) 37 [(T22,.v (kL (kR 2)))],.fa 24 T3 2 5 7,.st T24 T23 (kL (kR 2))]) (.sq (.rg [.ld 25 T3 (kR 2),.st T2 T25 (kR 2)]) .rt))))))))
noncomputable def B_ZaA(nf:Nat):XT:=[e_ZaB nf,e_Zaw nf]
noncomputable def G_ZaA(nf:Nat):Nat->XT
 |0=>[]
 |kf+1=>[eF 37 [.v (kL (kR 2))] [.o (kL (kR 2))] (fun t=>(fun(a:List Tm)=>runF (G_ZaA nf kf++B_ZaA nf) nf [.v (kL (kR 2))] [.t 2 (.o (kL (kR 2)))] ir_ZaA (a,())) t.1),
  eF 36 [.v (kR 2)] [.o (kR 2)] (fun t=>(fun(a:Tm)=>runF (G_ZaA nf kf++B_ZaA nf) nf [.v (kR 2)] [.c 2 (.o (kR 2))] ir_Zaz (a,())) t.1)]
noncomputable abbrev T_ZaA(nf kf:Nat):XT:=G_ZaA nf kf++B_ZaA nf
noncomputable abbrev T_Zaz(nf kf:Nat):XT:=G_ZaA nf kf++B_ZaA nf
noncomputable def m_ZaA(nf kf:Nat)(a:List Tm):Option (List Tm):=runF (T_ZaA nf kf) nf [.v (kL (kR 2))] [.t 2 (.o (kL (kR 2)))] ir_ZaA (a,())
noncomputable def X_ZaA{R:Type}(nf kf:Nat):C->Env->(Xt->Env->Option R)->Option R:=xc (R:=R) (T_ZaA nf kf).S nf
noncomputable def m_Zaz(nf kf:Nat)(a:Tm):Option (Tm):=runF (T_Zaz nf kf) nf [.v (kR 2)] [.c 2 (.o (kR 2))] ir_Zaz (a,())
noncomputable def l8_ZaA(nf kf:Nat)(m8:Nat)(a:List Tm)(x4_8:Int)(y7_8:List Tm):Option (List Tm):=xit [0,3,4] [[7]] (X_ZaA nf kf c9_ZaA) (qB 0 (qS (X_ZaA nf kf c19_ZaA) (KF [.t 2 (.o (kL (kR 2)))]))) m8 ⟨[(0,.v (kL (kR 2)) a),(3,.sl [7]),(4,.v kI x4_8)],[([7],.row true false (kR 2) y7_8)]⟩
theorem l8_ZaA_eq(nf kf:Nat)(m8:Nat)(a:List Tm)(x4_8:Int)(y7_8:List Tm):l8_ZaA nf (kf+1) (m8+1) a x4_8 y7_8=(br (decide (x4_8<(List.length a:Int))) (gg (0<=x4_8∧x4_8<(List.length a:Int))<|cb (m_Zaz nf kf (gt a x4_8 Tm.zero)) fun r20=>gg (0<=x4_8∧x4_8<(List.length y7_8:Int))<|gg (0<=x4_8∧x4_8<(List.length y7_8:Int))<|mark (l8_ZaA nf (kf+1) m8 a (w64 (x4_8+(1:Int))) (List.set y7_8 (Int.toNat x4_8) (Tm.h r20)))) (some y7_8)):=by kernel_rfl
theorem m_ZaA_eq(nf kf:Nat)(a:List Tm):m_ZaA nf (kf+1) a=(gg (0<=(List.length a:Int)∧(List.length a:Int)<=2147483647)<|mark (l8_ZaA nf (kf+1) nf a (0:Int) (List.replicate (Int.toNat (List.length a:Int)) Tm.zero))):=by kernel_rfl
noncomputable def e_ZaA(nf:Nat):XE:=eF 37 [.v (kL (kR 2))] [.o (kL (kR 2))] (fun t=>m_ZaA nf nf t.1)
theorem m_Zaz_eq(nf kf:Nat)(a:Tm):m_Zaz nf (kf+1) a=(cb (m_ZaB nf nf (Ty.h a.type)) fun r15=>cb (m_Zaw nf a.labels) fun r19=>cb (m_ZaA nf kf a.args) fun r23=>some (Tm.mk a.kind a.name a.n (Ty.h r15) r19 r23)):=by kernel_rfl
noncomputable def e_Zaz(nf:Nat):XE:=eF 36 [.v (kR 2)] [.o (kR 2)] (fun t=>m_Zaz nf nf t.1)
theorem gok_ZaA(nf:Nat):∀kf:Nat,XT.ok Tryz.prog (G_ZaA nf kf++B_ZaA nf)
 |0=>by exact⟨o_ZaB nf,o_Zaw nf,trivial⟩
 |kf+1=>by
  have ih:=gok_ZaA nf kf
  refine⟨?_,?_,(by exact⟨o_ZaB nf,o_Zaw nf,trivial⟩)⟩
  ·refine eF_ok fun t x h=> ?_
   obtain⟨a,_⟩:=t
   exact runF_ok (N:=23) ih Tryz.func37 (by kernel_rfl) rfl h
  ·refine eF_ok fun t x h=> ?_
   obtain⟨a,_⟩:=t
   exact runF_ok (N:=26) ih Tryz.func36 (by kernel_rfl) rfl h
theorem o_ZaA(nf:Nat):conOK Tryz.prog 37 (e_ZaA nf).con:=by
 have ih:=gok_ZaA nf nf
 refine eF_ok fun t x h=> ?_
 obtain⟨a,_⟩:=t
 exact runF_ok (N:=23) ih Tryz.func37 (by kernel_rfl) rfl h
theorem o_Zaz(nf:Nat):conOK Tryz.prog 36 (e_Zaz nf).con:=by
 have ih:=gok_ZaA nf nf
 refine eF_ok fun t x h=> ?_
 obtain⟨a,_⟩:=t
 exact runF_ok (N:=26) ih Tryz.func36 (by kernel_rfl) rfl h
def c19_Zau:C:=.sq (.rg [.mv 22 T3,.mv 2 T22]) .rt
def c9_Zau:C:=.sq (.sq (.rg [.mv 8 T4,.mv 9 T0,.ln 10 false T9,.bi 11 .lss T8 T10]) (.cd T11 .skip (.ex 0))) (.sq (.bk 1 (.rg [.mv 14 T3,.mv 15 T4,.mv 16 T0,.mv 17 T4,.ia 18 T16 T17 (kR 17),.ld 19 T18 (kR 17),.ca (some 20) 10 [(T19,.v (kR 17))],.ia 21 T14 T15 (kR 17),.st T21 T20 (kR 17)])) (.rg [.mv 12 T4,.bi 13 .add T12 (.i 1),.mv 4 T13]))
def ir_Zau:C:=.sq (.rg [.mv 2 (.nl (kR 17))]) (.sq (.rg [.mv 5 T0,.ln 6 false T5,.mk 7 true (kR 17) T6,.mv 3 T7]) (.sq (.sq (.rg [.mv 4 (.i 0)]) (.bk 0 (.lk [0,3,4] [[7]] c9_Zau))) c19_Zau))
def ir_Zat:C:=.sq (.rg [.bx 1 T0 (kR 17),.al 2 (kR 17)]) (.sq (.rg [.al 3 (kR 17)]) (.sq (.rg [.fa 4 T1 17 0 0,.ld 5 T4 kI,.fa 6 T3 17 0 0,.st T6 T5 kI]) (.sq (.rg [.fa 7 T1 17 1 1,.ld 8 T7 kS,.fa 9 T3 17 1 1,.st T9 T8 kS]) (.sq (.rg [.fa 10 T1 17 2 2,.ld 11 T10 kS,.fa 12 T3 17 2 2,.st T12 T11 kS]) (.sq (.rg [.fa 13 T1 17 3 3,.ld 14 T13 (kR 2),.ca (some 15) 36 [(T14,.v (kR 2))],.fa 16 T3 17 3 3,.st T16 T15 (kR 2)]) (.sq (.rg [.fa 17 T1 17 4 11,.ld 18 T17 (kL (kR 2)),.ca (some 19) 37 [(T18,.v (kL (kR 2)))],.fa 20 T3 17 4 11,.st T20 T19 (kL (kR 2))]) (.sq (.rg [.fa 21 T1 17 5 12,.ld 22 T21 (kL (kR 17)),.ca (some 23) 38 [(T22,.v (kL (kR 17)))],.fa 24 T3 17 5 12,.st T24 T23 (kL (kR 17))]) (.sq (.rg [.ld 25 T3 (kR 17),.st T2 T25 (kR 17)]) .rt))))))))
noncomputable def B_Zau(nf:Nat):XT:=[e_Zaz nf,e_ZaA nf]
noncomputable def G_Zau(nf:Nat):Nat->XT
 |0=>[]
 |kf+1=>[eF 38 [.v (kL (kR 17))] [.o (kL (kR 17))] (fun t=>(fun(a:List Plan)=>runF (G_Zau nf kf++B_Zau nf) nf [.v (kL (kR 17))] [.t 2 (.o (kL (kR 17)))] ir_Zau (a,())) t.1),
  eF 10 [.v (kR 17)] [.o (kR 17)] (fun t=>(fun(a:Plan)=>runF (G_Zau nf kf++B_Zau nf) nf [.v (kR 17)] [.c 2 (.o (kR 17))] ir_Zat (a,())) t.1)]
noncomputable abbrev T_Zau(nf kf:Nat):XT:=G_Zau nf kf++B_Zau nf
noncomputable abbrev T_Zat(nf kf:Nat):XT:=G_Zau nf kf++B_Zau nf
noncomputable def m_Zau(nf kf:Nat)(a:List Plan):Option (List Plan):=runF (T_Zau nf kf) nf [.v (kL (kR 17))] [.t 2 (.o (kL (kR 17)))] ir_Zau (a,())
noncomputable def X_Zau{R:Type}(nf kf:Nat):C->Env->(Xt->Env->Option R)->Option R:=xc (R:=R) (T_Zau nf kf).S nf
noncomputable def m_Zat(nf kf:Nat)(a:Plan):Option (Plan):=runF (T_Zat nf kf) nf [.v (kR 17)] [.c 2 (.o (kR 17))] ir_Zat (a,())
noncomputable def l8_Zau(nf kf:Nat)(m8:Nat)(a:List Plan)(x4_8:Int)(y7_8:List Plan):Option (List Plan):=xit [0,3,4] [[7]] (X_Zau nf kf c9_Zau) (qB 0 (qS (X_Zau nf kf c19_Zau) (KF [.t 2 (.o (kL (kR 17)))]))) m8 ⟨[(0,.v (kL (kR 17)) a),(3,.sl [7]),(4,.v kI x4_8)],[([7],.row true false (kR 17) y7_8)]⟩
theorem l8_Zau_eq(nf kf:Nat)(m8:Nat)(a:List Plan)(x4_8:Int)(y7_8:List Plan):l8_Zau nf (kf+1) (m8+1) a x4_8 y7_8=(br (decide (x4_8<(List.length a:Int))) (gg (0<=x4_8∧x4_8<(List.length a:Int))<|cb (m_Zat nf kf (gt a x4_8 Plan.zero)) fun r20=>gg (0<=x4_8∧x4_8<(List.length y7_8:Int))<|gg (0<=x4_8∧x4_8<(List.length y7_8:Int))<|mark (l8_Zau nf (kf+1) m8 a (w64 (x4_8+(1:Int))) (List.set y7_8 (Int.toNat x4_8) (Plan.h r20)))) (some y7_8)):=by kernel_rfl
theorem m_Zau_eq(nf kf:Nat)(a:List Plan):m_Zau nf (kf+1) a=(gg (0<=(List.length a:Int)∧(List.length a:Int)<=2147483647)<|mark (l8_Zau nf (kf+1) nf a (0:Int) (List.replicate (Int.toNat (List.length a:Int)) Plan.zero))):=by kernel_rfl
theorem m_Zat_eq(nf kf:Nat)(a:Plan):m_Zat nf (kf+1) a=(cb (m_Zaz nf nf (Tm.h a.cond)) fun r15=>cb (m_ZaA nf nf a.keys) fun r19=>cb (m_Zau nf kf a.args) fun r23=>some (Plan.mk a.kind a.var a.table (Tm.h r15) r19 r23)):=by kernel_rfl
noncomputable def e_Zat(nf:Nat):XE:=eF 10 [.v (kR 17)] [.o (kR 17)] (fun t=>m_Zat nf nf t.1)
theorem gok_Zau(nf:Nat):∀kf:Nat,XT.ok Tryz.prog (G_Zau nf kf++B_Zau nf)
 |0=>by exact⟨o_Zaz nf,o_ZaA nf,trivial⟩
 |kf+1=>by
  have ih:=gok_Zau nf kf
  refine⟨?_,?_,(by exact⟨o_Zaz nf,o_ZaA nf,trivial⟩)⟩
  ·refine eF_ok fun t x h=> ?_
   obtain⟨a,_⟩:=t
   exact runF_ok (N:=23) ih Tryz.func38 (by kernel_rfl) rfl h
  ·refine eF_ok fun t x h=> ?_
   obtain⟨a,_⟩:=t
   exact runF_ok (N:=26) ih Tryz.func10 (by kernel_rfl) rfl h
theorem o_Zat(nf:Nat):conOK Tryz.prog 10 (e_Zat nf).con:=by
 have ih:=gok_Zau nf nf
 refine eF_ok fun t x h=> ?_
 obtain⟨a,_⟩:=t
 exact runF_ok (N:=26) ih Tryz.func10 (by kernel_rfl) rfl h
def c31_Zac:C:=.sq (.rg [.mv 4 (.b true)]) .rt
def c15_Zac:C:=.sq (.sq (.rg [.mv 11 T5,.mv 12 T0,.ln 13 false T12,.bi 14 .lss T11 T13]) (.cd T14 .skip (.ex 0))) (.sq (.bk 1 (.sq (.dr [] [.mv 17 T0,.mv 18 T5,.ia 19 T17 T18 kS,.ld 20 T19 kS,.mv 21 T1,.mv 22 T5,.ia 23 T21 T22 kS,.ld 24 T23 kS] [.bi 25 .neq T20 T24]) (.cd T25 (.sq (.rg [.mv 4 (.b false)]) .rt) .skip))) (.rg [.mv 15 T5,.bi 16 .add T15 (.i 1),.mv 5 T16]))
def ir_Zac:C:=.sq (.rg [.mv 4 (.b false)]) (.sq (.sq (.rg [.mv 6 T0,.ln 7 false T6,.mv 8 T1,.ln 9 false T8,.bi 10 .neq T7 T9]) (.cd T10 (.sq (.rg [.mv 4 (.b false)]) .rt) .skip)) (.sq (.sq (.rg [.mv 5 (.i 0)]) (.bk 0 (.lk [0,1,5] [] c15_Zac))) c31_Zac))
noncomputable abbrev T_Zac(nf:Nat):XT:=[]
noncomputable def m_Zac(nf:Nat)(a:List Str)(b:List Str):Option (Bool):=runF (T_Zac nf) nf [.v (kL kS),.v (kL kS)] [.t 4 (.v .bool)] ir_Zac (a,b,())
noncomputable def X_Zac{R:Type}(nf:Nat):C->Env->(Xt->Env->Option R)->Option R:=xc (R:=R) (T_Zac nf).S nf
noncomputable def l14_Zac(nf:Nat)(m14:Nat)(a:List Str)(b:List Str)(x5_14:Int):Option (Bool):=xit [0,1,5] [] (X_Zac nf c15_Zac) (qB 0 (qS (X_Zac nf c31_Zac) (KF [.t 4 (.v .bool)]))) m14 ⟨[(0,.v (kL kS) a),(1,.v (kL kS) b),(5,.v kI x5_14)],[]⟩
theorem l14_Zac_eq(nf:Nat)(m14:Nat)(a:List Str)(b:List Str)(x5_14:Int):l14_Zac nf (m14+1) a b x5_14=(br (decide (x5_14<(List.length a:Int))) (gg (0<=x5_14∧x5_14<(List.length a:Int))<|gg (0<=x5_14∧x5_14<(List.length b:Int))<|br (!((gt a x5_14 ([]:Str))==(gt b x5_14 ([]:Str)))) (some false) (mark (l14_Zac nf m14 a b (w64 (x5_14+(1:Int)))))) (some true)):=by kernel_rfl
theorem m_Zac_eq(nf:Nat)(a:List Str)(b:List Str):m_Zac nf a b=(br (!((List.length a:Int)==(List.length b:Int))) (some false) (mark (l14_Zac nf nf a b (0:Int)))):=by kernel_rfl
noncomputable def e_Zac(nf:Nat):XE:=eF 61 [.v (kL kS),.v (kL kS)] [.v .bool] (fun t=>m_Zac nf t.1 t.2.1)
theorem o_Zac(nf:Nat):conOK Tryz.prog 61 (e_Zac nf).con:=by
 have ih:XT.ok Tryz.prog (T_Zac nf):=by exact trivial
 refine eF_ok fun t x h=> ?_
 obtain⟨a,b,_⟩:=t
 exact runF_ok (N:=26) ih Tryz.func61 (by kernel_rfl) rfl h
def c31_Zai:C:=.sq (.rg [.mv 4 (.b true)]) .rt
def c15_Zai:C:=.sq (.sq (.rg [.mv 11 T5,.mv 12 T0,.ln 13 false T12,.bi 14 .lss T11 T13]) (.cd T14 .skip (.ex 0))) (.sq (.bk 1 (.sq (.dr [] [.mv 17 T0,.mv 18 T5,.ia 19 T17 T18 (kR 0),.ld 20 T19 (kR 0),.mv 21 T1,.mv 22 T5,.ia 23 T21 T22 (kR 0),.ld 24 T23 (kR 0)] [.cv (some 25) 21 [(T20,.v (kR 0)),(T24,.v (kR 0))],.un 26 .not T25]) (.cd T26 (.sq (.rg [.mv 4 (.b false)]) .rt) .skip))) (.rg [.mv 15 T5,.bi 16 .add T15 (.i 1),.mv 5 T16]))
def ir_Zai:C:=.sq (.rg [.mv 4 (.b false)]) (.sq (.sq (.rg [.mv 6 T0,.ln 7 false T6,.mv 8 T1,.ln 9 false T8,.bi 10 .neq T7 T9]) (.cd T10 (.sq (.rg [.mv 4 (.b false)]) .rt) .skip)) (.sq (.sq (.rg [.mv 5 (.i 0)]) (.bk 0 (.lk [0,1,5] [] c15_Zai))) c31_Zai))
def ir_Zah:C:=.sq (.rg [.bx 2 T0 (kR 0),.bx 3 T1 (kR 0),.mv 4 (.b false)]) (.sq (.sq (.rg [.fa 5 T2 0 0 0,.ld 6 T5 kI,.fa 7 T3 0 0 0,.ld 8 T7 kI,.bi 9 .neq T6 T8]) (.cd T9 (.sq (.rg [.mv 4 (.b false)]) .rt) .skip)) (.sq (.sq (.rg [.fa 10 T2 0 1 1,.ld 11 T10 (kL kS),.fa 12 T3 0 1 1,.ld 13 T12 (kL kS),.cv (some 14) 61 [(T11,.v (kL kS)),(T13,.v (kL kS))],.un 15 .not T14]) (.cd T15 (.sq (.rg [.mv 4 (.b false)]) .rt) .skip)) (.sq (.sq (.rg [.fa 16 T2 0 2 2,.ld 17 T16 (kL (kR 0)),.fa 18 T3 0 2 2,.ld 19 T18 (kL (kR 0)),.cv (some 20) 63 [(T17,.v (kL (kR 0))),(T19,.v (kL (kR 0)))],.un 21 .not T20]) (.cd T21 (.sq (.rg [.mv 4 (.b false)]) .rt) .skip)) (.sq (.rg [.mv 4 (.b true)]) .rt))))
noncomputable def B_Zai(nf:Nat):XT:=[e_Zac nf]
noncomputable def G_Zai(nf:Nat):Nat->XT
 |0=>[]
 |kf+1=>[eF 63 [.v (kL (kR 0)),.v (kL (kR 0))] [.v .bool] (fun t=>(fun(a:List Ty) (b:List Ty)=>runF (G_Zai nf kf++B_Zai nf) nf [.v (kL (kR 0)),.v (kL (kR 0))] [.t 4 (.v .bool)] ir_Zai (a,b,())) t.1 t.2.1),
  eF 21 [.v (kR 0),.v (kR 0)] [.v .bool] (fun t=>(fun(a:Ty) (b:Ty)=>runF (G_Zai nf kf++B_Zai nf) nf [.v (kR 0),.v (kR 0)] [.t 4 (.v .bool)] ir_Zah (a,b,())) t.1 t.2.1)]
noncomputable abbrev T_Zai(nf kf:Nat):XT:=G_Zai nf kf++B_Zai nf
noncomputable abbrev T_Zah(nf kf:Nat):XT:=G_Zai nf kf++B_Zai nf
noncomputable def m_Zai(nf kf:Nat)(a:List Ty)(b:List Ty):Option (Bool):=runF (T_Zai nf kf) nf [.v (kL (kR 0)),.v (kL (kR 0))] [.t 4 (.v .bool)] ir_Zai (a,b,())
noncomputable def X_Zai{R:Type}(nf kf:Nat):C->Env->(Xt->Env->Option R)->Option R:=xc (R:=R) (T_Zai nf kf).S nf
noncomputable def m_Zah(nf kf:Nat)(a:Ty)(b:Ty):Option (Bool):=runF (T_Zah nf kf) nf [.v (kR 0),.v (kR 0)] [.t 4 (.v .bool)] ir_Zah (a,b,())
noncomputable def l14_Zai(nf kf:Nat)(m14:Nat)(a:List Ty)(b:List Ty)(x5_14:Int):Option (Bool):=xit [0,1,5] [] (X_Zai nf kf c15_Zai) (qB 0 (qS (X_Zai nf kf c31_Zai) (KF [.t 4 (.v .bool)]))) m14 ⟨[(0,.v (kL (kR 0)) a),(1,.v (kL (kR 0)) b),(5,.v kI x5_14)],[]⟩
theorem l14_Zai_eq(nf kf:Nat)(m14:Nat)(a:List Ty)(b:List Ty)(x5_14:Int):l14_Zai nf (kf+1) (m14+1) a b x5_14=(br (decide (x5_14<(List.length a:Int))) (gg (0<=x5_14∧x5_14<(List.length a:Int))<|gg (0<=x5_14∧x5_14<(List.length b:Int))<|cb (m_Zah nf kf (gt a x5_14 Ty.zero) (gt b x5_14 Ty.zero)) fun r25=>br (!r25) (some false) (mark (l14_Zai nf (kf+1) m14 a b (w64 (x5_14+(1:Int)))))) (some true)):=by kernel_rfl
theorem m_Zai_eq(nf kf:Nat)(a:List Ty)(b:List Ty):m_Zai nf (kf+1) a b=(br (!((List.length a:Int)==(List.length b:Int))) (some false) (mark (l14_Zai nf (kf+1) nf a b (0:Int)))):=by kernel_rfl
theorem m_Zah_eq(nf kf:Nat)(a:Ty)(b:Ty):m_Zah nf (kf+1) a b=(br (!(a.kind==b.kind)) (some false) (cb (m_Zac nf a.labels b.labels) fun r14=>br (!r14) (some false) (cb (m_Zai nf kf a.args b.args) fun r20=>br (!r20) (some false) (some true)))):=by kernel_rfl
noncomputable def e_Zah(nf:Nat):XE:=eF 21 [.v (kR 0),.v (kR 0)] [.v .bool] (fun t=>m_Zah nf nf t.1 t.2.1)
theorem gok_Zai(nf:Nat):∀kf:Nat,XT.ok Tryz.prog (G_Zai nf kf++B_Zai nf)
 |0=>by exact⟨o_Zac nf,trivial⟩
 |kf+1=>by
  have ih:=gok_Zai nf kf
  refine⟨?_,?_,(by exact⟨o_Zac nf,trivial⟩)⟩
  ·refine eF_ok fun t x h=> ?_
   obtain⟨a,b,_⟩:=t
   exact runF_ok (N:=27) ih Tryz.func63 (by kernel_rfl) rfl h
  ·refine eF_ok fun t x h=> ?_
   obtain⟨a,b,_⟩:=t
   exact runF_ok (N:=22) ih Tryz.func21 (by kernel_rfl) rfl h
theorem o_Zah(nf:Nat):conOK Tryz.prog 21 (e_Zah nf).con:=by
 have ih:=gok_Zai nf nf
 refine eF_ok fun t x h=> ?_
 obtain⟨a,b,_⟩:=t
 exact runF_ok (N:=22) ih Tryz.func21 (by kernel_rfl) rfl h
def ir_Zad:C:=.sq (.rg [.bx 2 T0 (kR 4),.bx 3 T1 (kR 4),.mv 4 (.b false)]) (.sq (.sq (.rg [.fa 5 T2 4 0 0,.ld 6 T5 kS,.fa 7 T3 4 0 0,.ld 8 T7 kS,.bi 9 .neq T6 T8]) (.cd T9 (.sq (.rg [.mv 4 (.b false)]) .rt) .skip)) (.sq (.sq (.rg [.fa 10 T2 4 1 1,.ld 11 T10 (kR 0),.fa 12 T3 4 1 1,.ld 13 T12 (kR 0),.cv (some 14) 21 [(T11,.v (kR 0)),(T13,.v (kR 0))],.un 15 .not T14]) (.cd T15 (.sq (.rg [.mv 4 (.b false)]) .rt) .skip)) (.sq (.rg [.mv 4 (.b true)]) .rt)))
noncomputable abbrev T_Zad(nf:Nat):XT:=[e_Zah nf]
noncomputable def m_Zad(nf:Nat)(a:TDecl)(b:TDecl):Option (Bool):=runF (T_Zad nf) nf [.v (kR 4),.v (kR 4)] [.t 4 (.v .bool)] ir_Zad (a,b,())
theorem m_Zad_eq(nf:Nat)(a:TDecl)(b:TDecl):m_Zad nf a b=(br (!(a.name==b.name)) (some false) (cb (m_Zah nf nf (Ty.h a.row) (Ty.h b.row)) fun r14=>br (!r14) (some false) (some true))):=by kernel_rfl
noncomputable def e_Zad(nf:Nat):XE:=eF 85 [.v (kR 4),.v (kR 4)] [.v .bool] (fun t=>m_Zad nf t.1 t.2.1)
theorem o_Zad(nf:Nat):conOK Tryz.prog 85 (e_Zad nf).con:=by
 have ih:XT.ok Tryz.prog (T_Zad nf):=by exact⟨o_Zah nf,trivial⟩
 refine eF_ok fun t x h=> ?_
 obtain⟨a,b,_⟩:=t
 exact runF_ok (N:=16) ih Tryz.func85 (by kernel_rfl) rfl h
def c31_Zae:C:=.sq (.rg [.mv 4 (.b true)]) .rt
def c15_Zae:C:=.sq (.sq (.rg [.mv 11 T5,.mv 12 T0,.ln 13 false T12,.bi 14 .lss T11 T13]) (.cd T14 .skip (.ex 0))) (.sq (.bk 1 (.sq (.dr [] [.mv 17 T0,.mv 18 T5,.ia 19 T17 T18 (kR 4),.ld 20 T19 (kR 4),.mv 21 T1,.mv 22 T5,.ia 23 T21 T22 (kR 4),.ld 24 T23 (kR 4)] [.cv (some 25) 85 [(T20,.v (kR 4)),(T24,.v (kR 4))],.un 26 .not T25]) (.cd T26 (.sq (.rg [.mv 4 (.b false)]) .rt) .skip))) (.rg [.mv 15 T5,.bi 16 .add T15 (.i 1),.mv 5 T16]))
def ir_Zae:C:=.sq (.rg [.mv 4 (.b false)]) (.sq (.sq (.rg [.mv 6 T0,.ln 7 false T6,.mv 8 T1,.ln 9 false T8,.bi 10 .neq T7 T9]) (.cd T10 (.sq (.rg [.mv 4 (.b false)]) .rt) .skip)) (.sq (.sq (.rg [.mv 5 (.i 0)]) (.bk 0 (.lk [0,1,5] [] c15_Zae))) c31_Zae))
noncomputable abbrev T_Zae(nf:Nat):XT:=[e_Zad nf]
noncomputable def m_Zae(nf:Nat)(a:List TDecl)(b:List TDecl):Option (Bool):=runF (T_Zae nf) nf [.v (kL (kR 4)),.v (kL (kR 4))] [.t 4 (.v .bool)] ir_Zae (a,b,())
noncomputable def X_Zae{R:Type}(nf:Nat):C->Env->(Xt->Env->Option R)->Option R:=xc (R:=R) (T_Zae nf).S nf
noncomputable def l14_Zae(nf:Nat)(m14:Nat)(a:List TDecl)(b:List TDecl)(x5_14:Int):Option (Bool):=xit [0,1,5] [] (X_Zae nf c15_Zae) (qB 0 (qS (X_Zae nf c31_Zae) (KF [.t 4 (.v .bool)]))) m14 ⟨[(0,.v (kL (kR 4)) a),(1,.v (kL (kR 4)) b),(5,.v kI x5_14)],[]⟩
theorem l14_Zae_eq(nf:Nat)(m14:Nat)(a:List TDecl)(b:List TDecl)(x5_14:Int):l14_Zae nf (m14+1) a b x5_14=(br (decide (x5_14<(List.length a:Int))) (gg (0<=x5_14∧x5_14<(List.length a:Int))<|gg (0<=x5_14∧x5_14<(List.length b:Int))<|cb (m_Zad nf (gt a x5_14 TDecl.zero) (gt b x5_14 TDecl.zero)) fun r25=>br (!r25) (some false) (mark (l14_Zae nf m14 a b (w64 (x5_14+(1:Int)))))) (some true)):=by kernel_rfl
theorem m_Zae_eq(nf:Nat)(a:List TDecl)(b:List TDecl):m_Zae nf a b=(br (!((List.length a:Int)==(List.length b:Int))) (some false) (mark (l14_Zae nf nf a b (0:Int)))):=by kernel_rfl
noncomputable def e_Zae(nf:Nat):XE:=eF 43 [.v (kL (kR 4)),.v (kL (kR 4))] [.v .bool] (fun t=>m_Zae nf t.1 t.2.1)
theorem o_Zae(nf:Nat):conOK Tryz.prog 43 (e_Zae nf).con:=by
 have ih:XT.ok Tryz.prog (T_Zae nf):=by exact⟨o_Zad nf,trivial⟩
 refine eF_ok fun t x h=> ?_
 obtain⟨a,b,_⟩:=t
 exact runF_ok (N:=27) ih Tryz.func43 (by kernel_rfl) rfl h
def ir_Zab:C:=.sq (.rg [.bx 2 T0 (kR 5),.bx 3 T1 (kR 5),.mv 4 (.b false)]) (.sq (.sq (.rg [.fa 5 T2 5 0 0,.ld 6 T5 (kL (kR 4)),.fa 7 T3 5 0 0,.ld 8 T7 (kL (kR 4)),.cv (some 9) 43 [(T6,.v (kL (kR 4))),(T8,.v (kL (kR 4)))],.un 10 .not T9]) (.cd T10 (.sq (.rg [.mv 4 (.b false)]) .rt) .skip)) (.sq (.rg [.mv 4 (.b true)]) .rt))
noncomputable abbrev T_Zab(nf:Nat):XT:=[e_Zae nf]
noncomputable def m_Zab(nf:Nat)(a:Schema)(b:Schema):Option (Bool):=runF (T_Zab nf) nf [.v (kR 5),.v (kR 5)] [.t 4 (.v .bool)] ir_Zab (a,b,())
theorem m_Zab_eq(nf:Nat)(a:Schema)(b:Schema):m_Zab nf a b=(cb (m_Zae nf a.tables b.tables) fun r9=>br (!r9) (some false) (some true)):=by kernel_rfl
noncomputable def e_Zab(nf:Nat):XE:=eF 12 [.v (kR 5),.v (kR 5)] [.v .bool] (fun t=>m_Zab nf t.1 t.2.1)
theorem o_Zab(nf:Nat):conOK Tryz.prog 12 (e_Zab nf).con:=by
 have ih:XT.ok Tryz.prog (T_Zab nf):=by exact⟨o_Zae nf,trivial⟩
 refine eF_ok fun t x h=> ?_
 obtain⟨a,b,_⟩:=t
 exact runF_ok (N:=11) ih Tryz.func12 (by kernel_rfl) rfl h
def c31_Zag:C:=.sq (.rg [.mv 4 (.b true)]) .rt
def c15_Zag:C:=.sq (.sq (.rg [.mv 11 T5,.mv 12 T0,.ln 13 false T12,.bi 14 .lss T11 T13]) (.cd T14 .skip (.ex 0))) (.sq (.bk 1 (.sq (.dr [] [.mv 17 T0,.mv 18 T5,.ia 19 T17 T18 (kR 2),.ld 20 T19 (kR 2),.mv 21 T1,.mv 22 T5,.ia 23 T21 T22 (kR 2),.ld 24 T23 (kR 2)] [.cv (some 25) 44 [(T20,.v (kR 2)),(T24,.v (kR 2))],.un 26 .not T25]) (.cd T26 (.sq (.rg [.mv 4 (.b false)]) .rt) .skip))) (.rg [.mv 15 T5,.bi 16 .add T15 (.i 1),.mv 5 T16]))
def ir_Zag:C:=.sq (.rg [.mv 4 (.b false)]) (.sq (.sq (.rg [.mv 6 T0,.ln 7 false T6,.mv 8 T1,.ln 9 false T8,.bi 10 .neq T7 T9]) (.cd T10 (.sq (.rg [.mv 4 (.b false)]) .rt) .skip)) (.sq (.sq (.rg [.mv 5 (.i 0)]) (.bk 0 (.lk [0,1,5] [] c15_Zag))) c31_Zag))
def ir_Zaf:C:=.sq (.rg [.bx 2 T0 (kR 2),.bx 3 T1 (kR 2),.mv 4 (.b false)]) (.sq (.sq (.rg [.fa 5 T2 2 0 0,.ld 6 T5 kI,.fa 7 T3 2 0 0,.ld 8 T7 kI,.bi 9 .neq T6 T8]) (.cd T9 (.sq (.rg [.mv 4 (.b false)]) .rt) .skip)) (.sq (.sq (.rg [.fa 10 T2 2 1 1,.ld 11 T10 kS,.fa 12 T3 2 1 1,.ld 13 T12 kS,.bi 14 .neq T11 T13]) (.cd T14 (.sq (.rg [.mv 4 (.b false)]) .rt) .skip)) (.sq (.sq (.rg [.fa 15 T2 2 2 2,.ld 16 T15 kI,.fa 17 T3 2 2 2,.ld 18 T17 kI,.bi 19 .neq T16 T18]) (.cd T19 (.sq (.rg [.mv 4 (.b false)]) .rt) .skip)) (.sq (.sq (.rg [.fa 20 T2 2 3 3,.ld 21 T20 (kR 0),.fa 22 T3 2 3 3,.ld 23 T22 (kR 0),.cv (some 24) 21 [(T21,.v (kR 0)),(T23,.v (kR 0))],.un 25 .not T24]) (.cd T25 (.sq (.rg [.mv 4 (.b false)]) .rt) .skip)) (.sq (.sq (.rg [.fa 26 T2 2 4 6,.ld 27 T26 (kL kS),.fa 28 T3 2 4 6,.ld 29 T28 (kL kS),.cv (some 30) 61 [(T27,.v (kL kS)),(T29,.v (kL kS))],.un 31 .not T30]) (.cd T31 (.sq (.rg [.mv 4 (.b false)]) .rt) .skip)) (.sq (.sq (.rg [.fa 32 T2 2 5 7,.ld 33 T32 (kL (kR 2)),.fa 34 T3 2 5 7,.ld 35 T34 (kL (kR 2)),.cv (some 36) 45 [(T33,.v (kL (kR 2))),(T35,.v (kL (kR 2)))],.un 37 .not T36]) (.cd T37 (.sq (.rg [.mv 4 (.b false)]) .rt) .skip)) (.sq (.rg [.mv 4 (.b true)]) .rt)))))))
noncomputable def B_Zag(nf:Nat):XT:=[e_Zah nf,e_Zac nf]
noncomputable def G_Zag(nf:Nat):Nat->XT
 |0=>[]
 |kf+1=>[eF 45 [.v (kL (kR 2)),.v (kL (kR 2))] [.v .bool] (fun t=>(fun(a:List Tm) (b:List Tm)=>runF (G_Zag nf kf++B_Zag nf) nf [.v (kL (kR 2)),.v (kL (kR 2))] [.t 4 (.v .bool)] ir_Zag (a,b,())) t.1 t.2.1),
  eF 44 [.v (kR 2),.v (kR 2)] [.v .bool] (fun t=>(fun(a:Tm) (b:Tm)=>runF (G_Zag nf kf++B_Zag nf) nf [.v (kR 2),.v (kR 2)] [.t 4 (.v .bool)] ir_Zaf (a,b,())) t.1 t.2.1)]
noncomputable abbrev T_Zag(nf kf:Nat):XT:=G_Zag nf kf++B_Zag nf
noncomputable abbrev T_Zaf(nf kf:Nat):XT:=G_Zag nf kf++B_Zag nf
noncomputable def m_Zag(nf kf:Nat)(a:List Tm)(b:List Tm):Option (Bool):=runF (T_Zag nf kf) nf [.v (kL (kR 2)),.v (kL (kR 2))] [.t 4 (.v .bool)] ir_Zag (a,b,())
noncomputable def X_Zag{R:Type}(nf kf:Nat):C->Env->(Xt->Env->Option R)->Option R:=xc (R:=R) (T_Zag nf kf).S nf
noncomputable def m_Zaf(nf kf:Nat)(a:Tm)(b:Tm):Option (Bool):=runF (T_Zaf nf kf) nf [.v (kR 2),.v (kR 2)] [.t 4 (.v .bool)] ir_Zaf (a,b,())
noncomputable def l14_Zag(nf kf:Nat)(m14:Nat)(a:List Tm)(b:List Tm)(x5_14:Int):Option (Bool):=xit [0,1,5] [] (X_Zag nf kf c15_Zag) (qB 0 (qS (X_Zag nf kf c31_Zag) (KF [.t 4 (.v .bool)]))) m14 ⟨[(0,.v (kL (kR 2)) a),(1,.v (kL (kR 2)) b),(5,.v kI x5_14)],[]⟩
theorem l14_Zag_eq(nf kf:Nat)(m14:Nat)(a:List Tm)(b:List Tm)(x5_14:Int):l14_Zag nf (kf+1) (m14+1) a b x5_14=(br (decide (x5_14<(List.length a:Int))) (gg (0<=x5_14∧x5_14<(List.length a:Int))<|gg (0<=x5_14∧x5_14<(List.length b:Int))<|cb (m_Zaf nf kf (gt a x5_14 Tm.zero) (gt b x5_14 Tm.zero)) fun r25=>br (!r25) (some false) (mark (l14_Zag nf (kf+1) m14 a b (w64 (x5_14+(1:Int)))))) (some true)):=by kernel_rfl
theorem m_Zag_eq(nf kf:Nat)(a:List Tm)(b:List Tm):m_Zag nf (kf+1) a b=(br (!((List.length a:Int)==(List.length b:Int))) (some false) (mark (l14_Zag nf (kf+1) nf a b (0:Int)))):=by kernel_rfl
noncomputable def e_Zag(nf:Nat):XE:=eF 45 [.v (kL (kR 2)),.v (kL (kR 2))] [.v .bool] (fun t=>m_Zag nf nf t.1 t.2.1)
theorem m_Zaf_eq(nf kf:Nat)(a:Tm)(b:Tm):m_Zaf nf (kf+1) a b=(br (!(a.kind==b.kind)) (some false) (br (!(a.name==b.name)) (some false) (br (!(a.n==b.n)) (some false) (cb (m_Zah nf nf (Ty.h a.type) (Ty.h b.type)) fun r24=>br (!r24) (some false) (cb (m_Zac nf a.labels b.labels) fun r30=>br (!r30) (some false) (cb (m_Zag nf kf a.args b.args) fun r36=>br (!r36) (some false) (some true))))))):=by kernel_rfl
noncomputable def e_Zaf(nf:Nat):XE:=eF 44 [.v (kR 2),.v (kR 2)] [.v .bool] (fun t=>m_Zaf nf nf t.1 t.2.1)
theorem gok_Zag(nf:Nat):∀kf:Nat,XT.ok Tryz.prog (G_Zag nf kf++B_Zag nf)
 |0=>by exact⟨o_Zah nf,o_Zac nf,trivial⟩
 |kf+1=>by
  have ih:=gok_Zag nf kf
  refine⟨?_,?_,(by exact⟨o_Zah nf,o_Zac nf,trivial⟩)⟩
  ·refine eF_ok fun t x h=> ?_
   obtain⟨a,b,_⟩:=t
   exact runF_ok (N:=27) ih Tryz.func45 (by kernel_rfl) rfl h
  ·refine eF_ok fun t x h=> ?_
   obtain⟨a,b,_⟩:=t
   exact runF_ok (N:=38) ih Tryz.func44 (by kernel_rfl) rfl h
theorem o_Zag(nf:Nat):conOK Tryz.prog 45 (e_Zag nf).con:=by
 have ih:=gok_Zag nf nf
 refine eF_ok fun t x h=> ?_
 obtain⟨a,b,_⟩:=t
 exact runF_ok (N:=27) ih Tryz.func45 (by kernel_rfl) rfl h
theorem o_Zaf(nf:Nat):conOK Tryz.prog 44 (e_Zaf nf).con:=by
 have ih:=gok_Zag nf nf
 refine eF_ok fun t x h=> ?_
 obtain⟨a,b,_⟩:=t
 exact runF_ok (N:=38) ih Tryz.func44 (by kernel_rfl) rfl h
def c31_Zaa:C:=.sq (.rg [.mv 4 (.b true)]) .rt
def c15_Zaa:C:=.sq (.sq (.rg [.mv 11 T5,.mv 12 T0,.ln 13 false T12,.bi 14 .lss T11 T13]) (.cd T14 .skip (.ex 0))) (.sq (.bk 1 (.sq (.dr [] [.mv 17 T0,.mv 18 T5,.ia 19 T17 T18 (kR 17),.ld 20 T19 (kR 17),.mv 21 T1,.mv 22 T5,.ia 23 T21 T22 (kR 17),.ld 24 T23 (kR 17)] [.cv (some 25) 13 [(T20,.v (kR 17)),(T24,.v (kR 17))],.un 26 .not T25]) (.cd T26 (.sq (.rg [.mv 4 (.b false)]) .rt) .skip))) (.rg [.mv 15 T5,.bi 16 .add T15 (.i 1),.mv 5 T16]))
def ir_Zaa:C:=.sq (.rg [.mv 4 (.b false)]) (.sq (.sq (.rg [.mv 6 T0,.ln 7 false T6,.mv 8 T1,.ln 9 false T8,.bi 10 .neq T7 T9]) (.cd T10 (.sq (.rg [.mv 4 (.b false)]) .rt) .skip)) (.sq (.sq (.rg [.mv 5 (.i 0)]) (.bk 0 (.lk [0,1,5] [] c15_Zaa))) c31_Zaa))
def ir_ZZ:C:=.sq (.rg [.bx 2 T0 (kR 17),.bx 3 T1 (kR 17),.mv 4 (.b false)]) (.sq (.sq (.rg [.fa 5 T2 17 0 0,.ld 6 T5 kI,.fa 7 T3 17 0 0,.ld 8 T7 kI,.bi 9 .neq T6 T8]) (.cd T9 (.sq (.rg [.mv 4 (.b false)]) .rt) .skip)) (.sq (.sq (.rg [.fa 10 T2 17 1 1,.ld 11 T10 kS,.fa 12 T3 17 1 1,.ld 13 T12 kS,.bi 14 .neq T11 T13]) (.cd T14 (.sq (.rg [.mv 4 (.b false)]) .rt) .skip)) (.sq (.sq (.rg [.fa 15 T2 17 2 2,.ld 16 T15 kS,.fa 17 T3 17 2 2,.ld 18 T17 kS,.bi 19 .neq T16 T18]) (.cd T19 (.sq (.rg [.mv 4 (.b false)]) .rt) .skip)) (.sq (.sq (.rg [.fa 20 T2 17 3 3,.ld 21 T20 (kR 2),.fa 22 T3 17 3 3,.ld 23 T22 (kR 2),.cv (some 24) 44 [(T21,.v (kR 2)),(T23,.v (kR 2))],.un 25 .not T24]) (.cd T25 (.sq (.rg [.mv 4 (.b false)]) .rt) .skip)) (.sq (.sq (.rg [.fa 26 T2 17 4 11,.ld 27 T26 (kL (kR 2)),.fa 28 T3 17 4 11,.ld 29 T28 (kL (kR 2)),.cv (some 30) 45 [(T27,.v (kL (kR 2))),(T29,.v (kL (kR 2)))],.un 31 .not T30]) (.cd T31 (.sq (.rg [.mv 4 (.b false)]) .rt) .skip)) (.sq (.sq (.rg [.fa 32 T2 17 5 12,.ld 33 T32 (kL (kR 17)),.fa 34 T3 17 5 12,.ld 35 T34 (kL (kR 17)),.cv (some 36) 46 [(T33,.v (kL (kR 17))),(T35,.v (kL (kR 17)))],.un 37 .not T36]) (.cd T37 (.sq (.rg [.mv 4 (.b false)]) .rt) .skip)) (.sq (.rg [.mv 4 (.b true)]) .rt)))))))
noncomputable def B_Zaa(nf:Nat):XT:=[e_Zaf nf,e_Zag nf]
noncomputable def G_Zaa(nf:Nat):Nat->XT
 |0=>[]
 |kf+1=>[eF 46 [.v (kL (kR 17)),.v (kL (kR 17))] [.v .bool] (fun t=>(fun(a:List Plan) (b:List Plan)=>runF (G_Zaa nf kf++B_Zaa nf) nf [.v (kL (kR 17)),.v (kL (kR 17))] [.t 4 (.v .bool)] ir_Zaa (a,b,())) t.1 t.2.1),
  eF 13 [.v (kR 17),.v (kR 17)] [.v .bool] (fun t=>(fun(a:Plan) (b:Plan)=>runF (G_Zaa nf kf++B_Zaa nf) nf [.v (kR 17),.v (kR 17)] [.t 4 (.v .bool)] ir_ZZ (a,b,())) t.1 t.2.1)]
noncomputable abbrev T_Zaa(nf kf:Nat):XT:=G_Zaa nf kf++B_Zaa nf
noncomputable abbrev T_ZZ(nf kf:Nat):XT:=G_Zaa nf kf++B_Zaa nf
noncomputable def m_Zaa(nf kf:Nat)(a:List Plan)(b:List Plan):Option (Bool):=runF (T_Zaa nf kf) nf [.v (kL (kR 17)),.v (kL (kR 17))] [.t 4 (.v .bool)] ir_Zaa (a,b,())
noncomputable def X_Zaa{R:Type}(nf kf:Nat):C->Env->(Xt->Env->Option R)->Option R:=xc (R:=R) (T_Zaa nf kf).S nf
noncomputable def m_ZZ(nf kf:Nat)(a:Plan)(b:Plan):Option (Bool):=runF (T_ZZ nf kf) nf [.v (kR 17),.v (kR 17)] [.t 4 (.v .bool)] ir_ZZ (a,b,())
noncomputable def l14_Zaa(nf kf:Nat)(m14:Nat)(a:List Plan)(b:List Plan)(x5_14:Int):Option (Bool):=xit [0,1,5] [] (X_Zaa nf kf c15_Zaa) (qB 0 (qS (X_Zaa nf kf c31_Zaa) (KF [.t 4 (.v .bool)]))) m14 ⟨[(0,.v (kL (kR 17)) a),(1,.v (kL (kR 17)) b),(5,.v kI x5_14)],[]⟩
theorem l14_Zaa_eq(nf kf:Nat)(m14:Nat)(a:List Plan)(b:List Plan)(x5_14:Int):l14_Zaa nf (kf+1) (m14+1) a b x5_14=(br (decide (x5_14<(List.length a:Int))) (gg (0<=x5_14∧x5_14<(List.length a:Int))<|gg (0<=x5_14∧x5_14<(List.length b:Int))<|cb (m_ZZ nf kf (gt a x5_14 Plan.zero) (gt b x5_14 Plan.zero)) fun r25=>br (!r25) (some false) (mark (l14_Zaa nf (kf+1) m14 a b (w64 (x5_14+(1:Int)))))) (some true)):=by kernel_rfl
theorem m_Zaa_eq(nf kf:Nat)(a:List Plan)(b:List Plan):m_Zaa nf (kf+1) a b=(br (!((List.length a:Int)==(List.length b:Int))) (some false) (mark (l14_Zaa nf (kf+1) nf a b (0:Int)))):=by kernel_rfl
theorem m_ZZ_eq(nf kf:Nat)(a:Plan)(b:Plan):m_ZZ nf (kf+1) a b=(br (!(a.kind==b.kind)) (some false) (br (!(a.var==b.var)) (some false) (br (!(a.table==b.table)) (some false) (cb (m_Zaf nf nf (Tm.h a.cond) (Tm.h b.cond)) fun r24=>br (!r24) (some false) (cb (m_Zag nf nf a.keys b.keys) fun r30=>br (!r30) (some false) (cb (m_Zaa nf kf a.args b.args) fun r36=>br (!r36) (some false) (some true))))))):=by kernel_rfl
noncomputable def e_ZZ(nf:Nat):XE:=eF 13 [.v (kR 17),.v (kR 17)] [.v .bool] (fun t=>m_ZZ nf nf t.1 t.2.1)
theorem gok_Zaa(nf:Nat):∀kf:Nat,XT.ok Tryz.prog (G_Zaa nf kf++B_Zaa nf)
 |0=>by exact⟨o_Zaf nf,o_Zag nf,trivial⟩
 |kf+1=>by
  have ih:=gok_Zaa nf kf
  refine⟨?_,?_,(by exact⟨o_Zaf nf,o_Zag nf,trivial⟩)⟩
  ·refine eF_ok fun t x h=> ?_
   obtain⟨a,b,_⟩:=t
   exact runF_ok (N:=27) ih Tryz.func46 (by kernel_rfl) rfl h
  ·refine eF_ok fun t x h=> ?_
   obtain⟨a,b,_⟩:=t
   exact runF_ok (N:=38) ih Tryz.func13 (by kernel_rfl) rfl h
theorem o_ZZ(nf:Nat):conOK Tryz.prog 13 (e_ZZ nf).con:=by
 have ih:=gok_Zaa nf nf
 refine eF_ok fun t x h=> ?_
 obtain⟨a,b,_⟩:=t
 exact runF_ok (N:=38) ih Tryz.func13 (by kernel_rfl) rfl h
end Go.Q
