import Derived.Test.YtmkelbchboiliaaGreatInE
import Derived.Test.YtmkelbchboiliaaGreatQe
import Derived.Test.YtmkelbchboiliaaGreatProg
import Derived.KernelRfl
set_option linter.unusedVariables false
set_option linter.unusedSimpArgs false
namespace Go.Q
open Go.Proofs
set_option maxRecDepth 20000
set_option maxHeartbeats 4000000
def c35_Zau:C:=.sq (.rg [.mv 27 T1,.mv 4 T27]) .rt
def c17_Zau:C:=.sq (.sq (.rg [.mv 12 T5,.mv 13 T0,.ln 14 false T13,.bi 15 .lss T12 T14]) (.cd T15 .skip (.ex 0))) (.sq (.bk 1 (.sq (.rg [.mv 18 T1,.mv 19 T0,.mv 20 T5,.ia 21 T19 T20 kS,.ld 22 T21 kS,.ln 23 true T22,.bi 24 .sub T18 T23,.mv 1 T24]) (.sq (.rg [.mv 25 T1,.bi 26 .lss T25 (.i 0)]) (.cd T26 (.sq (.rg [.mv 4 (.i (-1))]) .rt) .skip)))) (.rg [.mv 16 T5,.bi 17 .add T16 (.i 1),.mv 5 T17]))
def ir_Zau:C:=.sq (.rg [.mv 4 (.i 0)]) (.sq (.rg [.mv 6 T1,.mv 7 T0,.ln 8 false T7,.bi 9 .sub T6 T8,.mv 1 T9]) (.sq (.sq (.rg [.mv 10 T1,.bi 11 .lss T10 (.i 0)]) (.cd T11 (.sq (.rg [.mv 4 (.i (-1))]) .rt) .skip)) (.sq (.sq (.rg [.mv 5 (.i 0)]) (.bk 0 (.lk [0,1,5] [] c17_Zau))) c35_Zau)))
noncomputable abbrev T_Zau(nf:Nat):XT:=[]
noncomputable def m_Zau(nf:Nat)(a:List Str)(left:Int):Option (Int):=runF (T_Zau nf) nf [.v (kL kS),.v kI] [.t 4 (.v kI)] ir_Zau (a,left,())
noncomputable def X_Zau{R:Type}(nf:Nat):C->Env->(Xt->Env->Option R)->Option R:=xc (R:=R) (T_Zau nf).S nf
noncomputable def l16_Zau(nf:Nat)(m16:Nat)(a:List Str)(x1_16:Int)(x5_16:Int):Option (Int):=xit [0,1,5] [] (X_Zau nf c17_Zau) (qB 0 (qS (X_Zau nf c35_Zau) (KF [.t 4 (.v kI)]))) m16 ⟨[(0,.v (kL kS) a),(1,.v kI x1_16),(5,.v kI x5_16)],[]⟩
theorem l16_Zau_eq(nf:Nat)(m16:Nat)(a:List Str)(x1_16:Int)(x5_16:Int):l16_Zau nf (m16+1) a x1_16 x5_16=(br (decide (x5_16<(List.length a:Int))) (gg (0<=x5_16∧x5_16<(List.length a:Int))<|br (decide ((w64 (x1_16-(List.length (gt a x5_16 ([]:Str)):Int)))<(0:Int))) (some (-1:Int)) (mark (l16_Zau nf m16 a (w64 (x1_16-(List.length (gt a x5_16 ([]:Str)):Int))) (w64 (x5_16+(1:Int)))))) (some x1_16)):=by kernel_rfl
theorem m_Zau_eq(nf:Nat)(a:List Str)(left:Int):m_Zau nf a left=(br (decide ((w64 (left-(List.length a:Int)))<(0:Int))) (some (-1:Int)) (mark (l16_Zau nf nf a (w64 (left-(List.length a:Int))) (0:Int)))):=by kernel_rfl
noncomputable def e_Zau(nf:Nat):XE:=eF 47 [.v (kL kS),.v kI] [.v kI] (fun t=>m_Zau nf t.1 t.2.1)
theorem o_Zau(nf:Nat):conOK Tryz.prog 47 (e_Zau nf).con:=by
 have ih:XT.ok Tryz.prog (T_Zau nf):=by exact trivial
 refine eF_ok fun t x h=> ?_
 obtain⟨a,left,_⟩:=t
 exact runF_ok (N:=28) ih Tryz.func47 (by kernel_rfl) rfl h
def c35_ZaA:C:=.sq (.rg [.mv 26 T1,.mv 4 T26]) .rt
def c17_ZaA:C:=.sq (.sq (.rg [.mv 12 T5,.mv 13 T0,.ln 14 false T13,.bi 15 .lss T12 T14]) (.cd T15 .skip (.ex 0))) (.sq (.bk 1 (.sq (.rg [.mv 18 T0,.mv 19 T5,.ia 20 T18 T19 (kR 0),.ld 21 T20 (kR 0),.mv 22 T1,.cv (some 23) 15 [(T21,.v (kR 0)),(T22,.v kI)],.mv 1 T23]) (.sq (.rg [.mv 24 T1,.bi 25 .lss T24 (.i 0)]) (.cd T25 (.sq (.rg [.mv 4 (.i (-1))]) .rt) .skip)))) (.rg [.mv 16 T5,.bi 17 .add T16 (.i 1),.mv 5 T17]))
def ir_ZaA:C:=.sq (.rg [.mv 4 (.i 0)]) (.sq (.rg [.mv 6 T1,.mv 7 T0,.ln 8 false T7,.bi 9 .sub T6 T8,.mv 1 T9]) (.sq (.sq (.rg [.mv 10 T1,.bi 11 .lss T10 (.i 0)]) (.cd T11 (.sq (.rg [.mv 4 (.i (-1))]) .rt) .skip)) (.sq (.sq (.rg [.mv 5 (.i 0)]) (.bk 0 (.lk [0,1,5] [] c17_ZaA))) c35_ZaA)))
def ir_Zaz:C:=.sq (.rg [.bx 2 T0 (kR 0),.mv 4 (.i 0)]) (.sq (.rg [.fa 5 T2 0 1 1,.ld 6 T5 (kL kS),.mv 7 T1,.cv (some 8) 47 [(T6,.v (kL kS)),(T7,.v kI)],.mv 1 T8]) (.sq (.sq (.rg [.mv 9 T1,.bi 10 .lss T9 (.i 0)]) (.cd T10 (.sq (.rg [.mv 4 (.i (-1))]) .rt) .skip)) (.sq (.rg [.fa 11 T2 0 2 2,.ld 12 T11 (kL (kR 0)),.mv 13 T1,.cv (some 14) 49 [(T12,.v (kL (kR 0))),(T13,.v kI)],.mv 1 T14]) (.sq (.sq (.rg [.mv 15 T1,.bi 16 .lss T15 (.i 0)]) (.cd T16 (.sq (.rg [.mv 4 (.i (-1))]) .rt) .skip)) (.sq (.rg [.mv 17 T1,.mv 4 T17]) .rt)))))
noncomputable def B_ZaA(nf:Nat):XT:=[e_Zau nf]
noncomputable def G_ZaA(nf:Nat):Nat->XT
 |0=>[]
 |kf+1=>[eF 49 [.v (kL (kR 0)),.v kI] [.v kI] (fun t=>(fun(a:List Ty) (left:Int)=>runF (G_ZaA nf kf++B_ZaA nf) nf [.v (kL (kR 0)),.v kI] [.t 4 (.v kI)] ir_ZaA (a,left,())) t.1 t.2.1),
  eF 15 [.v (kR 0),.v kI] [.v kI] (fun t=>(fun(a:Ty) (left:Int)=>runF (G_ZaA nf kf++B_ZaA nf) nf [.v (kR 0),.v kI] [.t 4 (.v kI)] ir_Zaz (a,left,())) t.1 t.2.1)]
noncomputable abbrev T_ZaA(nf kf:Nat):XT:=G_ZaA nf kf++B_ZaA nf
noncomputable abbrev T_Zaz(nf kf:Nat):XT:=G_ZaA nf kf++B_ZaA nf
noncomputable def m_ZaA(nf kf:Nat)(a:List Ty)(left:Int):Option (Int):=runF (T_ZaA nf kf) nf [.v (kL (kR 0)),.v kI] [.t 4 (.v kI)] ir_ZaA (a,left,())
noncomputable def X_ZaA{R:Type}(nf kf:Nat):C->Env->(Xt->Env->Option R)->Option R:=xc (R:=R) (T_ZaA nf kf).S nf
noncomputable def m_Zaz(nf kf:Nat)(a:Ty)(left:Int):Option (Int):=runF (T_Zaz nf kf) nf [.v (kR 0),.v kI] [.t 4 (.v kI)] ir_Zaz (a,left,())
noncomputable def l16_ZaA(nf kf:Nat)(m16:Nat)(a:List Ty)(x1_16:Int)(x5_16:Int):Option (Int):=xit [0,1,5] [] (X_ZaA nf kf c17_ZaA) (qB 0 (qS (X_ZaA nf kf c35_ZaA) (KF [.t 4 (.v kI)]))) m16 ⟨[(0,.v (kL (kR 0)) a),(1,.v kI x1_16),(5,.v kI x5_16)],[]⟩
theorem l16_ZaA_eq(nf kf:Nat)(m16:Nat)(a:List Ty)(x1_16:Int)(x5_16:Int):l16_ZaA nf (kf+1) (m16+1) a x1_16 x5_16=(br (decide (x5_16<(List.length a:Int))) (gg (0<=x5_16∧x5_16<(List.length a:Int))<|cb (m_Zaz nf kf (gt a x5_16 Ty.zero) x1_16) fun r23=>br (decide (r23<(0:Int))) (some (-1:Int)) (mark (l16_ZaA nf (kf+1) m16 a r23 (w64 (x5_16+(1:Int)))))) (some x1_16)):=by kernel_rfl
theorem m_ZaA_eq(nf kf:Nat)(a:List Ty)(left:Int):m_ZaA nf (kf+1) a left=(br (decide ((w64 (left-(List.length a:Int)))<(0:Int))) (some (-1:Int)) (mark (l16_ZaA nf (kf+1) nf a (w64 (left-(List.length a:Int))) (0:Int)))):=by kernel_rfl
theorem m_Zaz_eq(nf kf:Nat)(a:Ty)(left:Int):m_Zaz nf (kf+1) a left=(cb (m_Zau nf a.labels left) fun r8=>br (decide (r8<(0:Int))) (some (-1:Int)) (cb (m_ZaA nf kf a.args r8) fun r14=>br (decide (r14<(0:Int))) (some (-1:Int)) (some r14))):=by kernel_rfl
noncomputable def e_Zaz(nf:Nat):XE:=eF 15 [.v (kR 0),.v kI] [.v kI] (fun t=>m_Zaz nf nf t.1 t.2.1)
theorem gok_ZaA(nf:Nat):∀kf:Nat,XT.ok Tryz.prog (G_ZaA nf kf++B_ZaA nf)
 |0=>by exact⟨o_Zau nf,trivial⟩
 |kf+1=>by
  have ih:=gok_ZaA nf kf
  refine⟨?_,?_,(by exact⟨o_Zau nf,trivial⟩)⟩
  ·refine eF_ok fun t x h=> ?_
   obtain⟨a,left,_⟩:=t
   exact runF_ok (N:=27) ih Tryz.func49 (by kernel_rfl) rfl h
  ·refine eF_ok fun t x h=> ?_
   obtain⟨a,left,_⟩:=t
   exact runF_ok (N:=18) ih Tryz.func15 (by kernel_rfl) rfl h
theorem o_Zaz(nf:Nat):conOK Tryz.prog 15 (e_Zaz nf).con:=by
 have ih:=gok_ZaA nf nf
 refine eF_ok fun t x h=> ?_
 obtain⟨a,left,_⟩:=t
 exact runF_ok (N:=18) ih Tryz.func15 (by kernel_rfl) rfl h
def ir_Zav:C:=.sq (.rg [.bx 2 T0 (kR 4),.mv 4 (.i 0)]) (.sq (.rg [.mv 5 T1,.fa 6 T2 4 0 0,.ld 7 T6 kS,.ln 8 true T7,.bi 9 .sub T5 T8,.mv 1 T9]) (.sq (.sq (.rg [.mv 10 T1,.bi 11 .lss T10 (.i 0)]) (.cd T11 (.sq (.rg [.mv 4 (.i (-1))]) .rt) .skip)) (.sq (.rg [.fa 12 T2 4 1 1,.ld 13 T12 (kR 0),.mv 14 T1,.cv (some 15) 15 [(T13,.v (kR 0)),(T14,.v kI)],.mv 1 T15]) (.sq (.sq (.rg [.mv 16 T1,.bi 17 .lss T16 (.i 0)]) (.cd T17 (.sq (.rg [.mv 4 (.i (-1))]) .rt) .skip)) (.sq (.rg [.mv 18 T1,.mv 4 T18]) .rt)))))
noncomputable abbrev T_Zav(nf:Nat):XT:=[e_Zaz nf]
noncomputable def m_Zav(nf:Nat)(a:TDecl)(left:Int):Option (Int):=runF (T_Zav nf) nf [.v (kR 4),.v kI] [.t 4 (.v kI)] ir_Zav (a,left,())
theorem m_Zav_eq(nf:Nat)(a:TDecl)(left:Int):m_Zav nf a left=(br (decide ((w64 (left-(List.length a.name:Int)))<(0:Int))) (some (-1:Int)) (cb (m_Zaz nf nf (Ty.h a.row) (w64 (left-(List.length a.name:Int)))) fun r15=>br (decide (r15<(0:Int))) (some (-1:Int)) (some r15))):=by kernel_rfl
noncomputable def e_Zav(nf:Nat):XE:=eF 69 [.v (kR 4),.v kI] [.v kI] (fun t=>m_Zav nf t.1 t.2.1)
theorem o_Zav(nf:Nat):conOK Tryz.prog 69 (e_Zav nf).con:=by
 have ih:XT.ok Tryz.prog (T_Zav nf):=by exact⟨o_Zaz nf,trivial⟩
 refine eF_ok fun t x h=> ?_
 obtain⟨a,left,_⟩:=t
 exact runF_ok (N:=19) ih Tryz.func69 (by kernel_rfl) rfl h
def c35_Zaw:C:=.sq (.rg [.mv 26 T1,.mv 4 T26]) .rt
def c17_Zaw:C:=.sq (.sq (.rg [.mv 12 T5,.mv 13 T0,.ln 14 false T13,.bi 15 .lss T12 T14]) (.cd T15 .skip (.ex 0))) (.sq (.bk 1 (.sq (.rg [.mv 18 T0,.mv 19 T5,.ia 20 T18 T19 (kR 4),.ld 21 T20 (kR 4),.mv 22 T1,.cv (some 23) 69 [(T21,.v (kR 4)),(T22,.v kI)],.mv 1 T23]) (.sq (.rg [.mv 24 T1,.bi 25 .lss T24 (.i 0)]) (.cd T25 (.sq (.rg [.mv 4 (.i (-1))]) .rt) .skip)))) (.rg [.mv 16 T5,.bi 17 .add T16 (.i 1),.mv 5 T17]))
def ir_Zaw:C:=.sq (.rg [.mv 4 (.i 0)]) (.sq (.rg [.mv 6 T1,.mv 7 T0,.ln 8 false T7,.bi 9 .sub T6 T8,.mv 1 T9]) (.sq (.sq (.rg [.mv 10 T1,.bi 11 .lss T10 (.i 0)]) (.cd T11 (.sq (.rg [.mv 4 (.i (-1))]) .rt) .skip)) (.sq (.sq (.rg [.mv 5 (.i 0)]) (.bk 0 (.lk [0,1,5] [] c17_Zaw))) c35_Zaw)))
noncomputable abbrev T_Zaw(nf:Nat):XT:=[e_Zav nf]
noncomputable def m_Zaw(nf:Nat)(a:List TDecl)(left:Int):Option (Int):=runF (T_Zaw nf) nf [.v (kL (kR 4)),.v kI] [.t 4 (.v kI)] ir_Zaw (a,left,())
noncomputable def X_Zaw{R:Type}(nf:Nat):C->Env->(Xt->Env->Option R)->Option R:=xc (R:=R) (T_Zaw nf).S nf
noncomputable def l16_Zaw(nf:Nat)(m16:Nat)(a:List TDecl)(x1_16:Int)(x5_16:Int):Option (Int):=xit [0,1,5] [] (X_Zaw nf c17_Zaw) (qB 0 (qS (X_Zaw nf c35_Zaw) (KF [.t 4 (.v kI)]))) m16 ⟨[(0,.v (kL (kR 4)) a),(1,.v kI x1_16),(5,.v kI x5_16)],[]⟩
theorem l16_Zaw_eq(nf:Nat)(m16:Nat)(a:List TDecl)(x1_16:Int)(x5_16:Int):l16_Zaw nf (m16+1) a x1_16 x5_16=(br (decide (x5_16<(List.length a:Int))) (gg (0<=x5_16∧x5_16<(List.length a:Int))<|cb (m_Zav nf (gt a x5_16 TDecl.zero) x1_16) fun r23=>br (decide (r23<(0:Int))) (some (-1:Int)) (mark (l16_Zaw nf m16 a r23 (w64 (x5_16+(1:Int)))))) (some x1_16)):=by kernel_rfl
theorem m_Zaw_eq(nf:Nat)(a:List TDecl)(left:Int):m_Zaw nf a left=(br (decide ((w64 (left-(List.length a:Int)))<(0:Int))) (some (-1:Int)) (mark (l16_Zaw nf nf a (w64 (left-(List.length a:Int))) (0:Int)))):=by kernel_rfl
noncomputable def e_Zaw(nf:Nat):XE:=eF 27 [.v (kL (kR 4)),.v kI] [.v kI] (fun t=>m_Zaw nf t.1 t.2.1)
theorem o_Zaw(nf:Nat):conOK Tryz.prog 27 (e_Zaw nf).con:=by
 have ih:XT.ok Tryz.prog (T_Zaw nf):=by exact⟨o_Zav nf,trivial⟩
 refine eF_ok fun t x h=> ?_
 obtain⟨a,left,_⟩:=t
 exact runF_ok (N:=27) ih Tryz.func27 (by kernel_rfl) rfl h
def ir_Zat:C:=.sq (.rg [.bx 2 T0 (kR 5),.mv 4 (.i 0)]) (.sq (.rg [.fa 5 T2 5 0 0,.ld 6 T5 (kL (kR 4)),.mv 7 T1,.cv (some 8) 27 [(T6,.v (kL (kR 4))),(T7,.v kI)],.mv 1 T8]) (.sq (.sq (.rg [.mv 9 T1,.bi 10 .lss T9 (.i 0)]) (.cd T10 (.sq (.rg [.mv 4 (.i (-1))]) .rt) .skip)) (.sq (.rg [.mv 11 T1,.mv 4 T11]) .rt)))
noncomputable abbrev T_Zat(nf:Nat):XT:=[e_Zaw nf]
noncomputable def m_Zat(nf:Nat)(a:Schema)(left:Int):Option (Int):=runF (T_Zat nf) nf [.v (kR 5),.v kI] [.t 4 (.v kI)] ir_Zat (a,left,())
theorem m_Zat_eq(nf:Nat)(a:Schema)(left:Int):m_Zat nf a left=(cb (m_Zaw nf a.tables left) fun r8=>br (decide (r8<(0:Int))) (some (-1:Int)) (some r8)):=by kernel_rfl
noncomputable def e_Zat(nf:Nat):XE:=eF 6 [.v (kR 5),.v kI] [.v kI] (fun t=>m_Zat nf t.1 t.2.1)
theorem o_Zat(nf:Nat):conOK Tryz.prog 6 (e_Zat nf).con:=by
 have ih:XT.ok Tryz.prog (T_Zat nf):=by exact⟨o_Zaw nf,trivial⟩
 refine eF_ok fun t x h=> ?_
 obtain⟨a,left,_⟩:=t
 exact runF_ok (N:=12) ih Tryz.func6 (by kernel_rfl) rfl h
def c35_Zay:C:=.sq (.rg [.mv 26 T1,.mv 4 T26]) .rt
def c17_Zay:C:=.sq (.sq (.rg [.mv 12 T5,.mv 13 T0,.ln 14 false T13,.bi 15 .lss T12 T14]) (.cd T15 .skip (.ex 0))) (.sq (.bk 1 (.sq (.rg [.mv 18 T0,.mv 19 T5,.ia 20 T18 T19 (kR 2),.ld 21 T20 (kR 2),.mv 22 T1,.cv (some 23) 28 [(T21,.v (kR 2)),(T22,.v kI)],.mv 1 T23]) (.sq (.rg [.mv 24 T1,.bi 25 .lss T24 (.i 0)]) (.cd T25 (.sq (.rg [.mv 4 (.i (-1))]) .rt) .skip)))) (.rg [.mv 16 T5,.bi 17 .add T16 (.i 1),.mv 5 T17]))
def ir_Zay:C:=.sq (.rg [.mv 4 (.i 0)]) (.sq (.rg [.mv 6 T1,.mv 7 T0,.ln 8 false T7,.bi 9 .sub T6 T8,.mv 1 T9]) (.sq (.sq (.rg [.mv 10 T1,.bi 11 .lss T10 (.i 0)]) (.cd T11 (.sq (.rg [.mv 4 (.i (-1))]) .rt) .skip)) (.sq (.sq (.rg [.mv 5 (.i 0)]) (.bk 0 (.lk [0,1,5] [] c17_Zay))) c35_Zay)))
def ir_Zax:C:=.sq (.rg [.bx 2 T0 (kR 2),.mv 4 (.i 0)]) (.sq (.rg [.mv 5 T1,.fa 6 T2 2 1 1,.ld 7 T6 kS,.ln 8 true T7,.bi 9 .sub T5 T8,.mv 1 T9]) (.sq (.sq (.rg [.mv 10 T1,.bi 11 .lss T10 (.i 0)]) (.cd T11 (.sq (.rg [.mv 4 (.i (-1))]) .rt) .skip)) (.sq (.rg [.fa 12 T2 2 3 3,.ld 13 T12 (kR 0),.mv 14 T1,.cv (some 15) 15 [(T13,.v (kR 0)),(T14,.v kI)],.mv 1 T15]) (.sq (.sq (.rg [.mv 16 T1,.bi 17 .lss T16 (.i 0)]) (.cd T17 (.sq (.rg [.mv 4 (.i (-1))]) .rt) .skip)) (.sq (.rg [.fa 18 T2 2 4 6,.ld 19 T18 (kL kS),.mv 20 T1,.cv (some 21) 47 [(T19,.v (kL kS)),(T20,.v kI)],.mv 1 T21]) (.sq (.sq (.rg [.mv 22 T1,.bi 23 .lss T22 (.i 0)]) (.cd T23 (.sq (.rg [.mv 4 (.i (-1))]) .rt) .skip)) (.sq (.rg [.fa 24 T2 2 5 7,.ld 25 T24 (kL (kR 2)),.mv 26 T1,.cv (some 27) 29 [(T25,.v (kL (kR 2))),(T26,.v kI)],.mv 1 T27]) (.sq (.sq (.rg [.mv 28 T1,.bi 29 .lss T28 (.i 0)]) (.cd T29 (.sq (.rg [.mv 4 (.i (-1))]) .rt) .skip)) (.sq (.rg [.mv 30 T1,.mv 4 T30]) .rt)))))))))
noncomputable def B_Zay(nf:Nat):XT:=[e_Zaz nf,e_Zau nf]
noncomputable def G_Zay(nf:Nat):Nat->XT
 |0=>[]
 |kf+1=>[eF 29 [.v (kL (kR 2)),.v kI] [.v kI] (fun t=>(fun(a:List Tm) (left:Int)=>runF (G_Zay nf kf++B_Zay nf) nf [.v (kL (kR 2)),.v kI] [.t 4 (.v kI)] ir_Zay (a,left,())) t.1 t.2.1),
  eF 28 [.v (kR 2),.v kI] [.v kI] (fun t=>(fun(a:Tm) (left:Int)=>runF (G_Zay nf kf++B_Zay nf) nf [.v (kR 2),.v kI] [.t 4 (.v kI)] ir_Zax (a,left,())) t.1 t.2.1)]
noncomputable abbrev T_Zay(nf kf:Nat):XT:=G_Zay nf kf++B_Zay nf
noncomputable abbrev T_Zax(nf kf:Nat):XT:=G_Zay nf kf++B_Zay nf
noncomputable def m_Zay(nf kf:Nat)(a:List Tm)(left:Int):Option (Int):=runF (T_Zay nf kf) nf [.v (kL (kR 2)),.v kI] [.t 4 (.v kI)] ir_Zay (a,left,())
noncomputable def X_Zay{R:Type}(nf kf:Nat):C->Env->(Xt->Env->Option R)->Option R:=xc (R:=R) (T_Zay nf kf).S nf
noncomputable def m_Zax(nf kf:Nat)(a:Tm)(left:Int):Option (Int):=runF (T_Zax nf kf) nf [.v (kR 2),.v kI] [.t 4 (.v kI)] ir_Zax (a,left,())
noncomputable def l16_Zay(nf kf:Nat)(m16:Nat)(a:List Tm)(x1_16:Int)(x5_16:Int):Option (Int):=xit [0,1,5] [] (X_Zay nf kf c17_Zay) (qB 0 (qS (X_Zay nf kf c35_Zay) (KF [.t 4 (.v kI)]))) m16 ⟨[(0,.v (kL (kR 2)) a),(1,.v kI x1_16),(5,.v kI x5_16)],[]⟩
theorem l16_Zay_eq(nf kf:Nat)(m16:Nat)(a:List Tm)(x1_16:Int)(x5_16:Int):l16_Zay nf (kf+1) (m16+1) a x1_16 x5_16=(br (decide (x5_16<(List.length a:Int))) (gg (0<=x5_16∧x5_16<(List.length a:Int))<|cb (m_Zax nf kf (gt a x5_16 Tm.zero) x1_16) fun r23=>br (decide (r23<(0:Int))) (some (-1:Int)) (mark (l16_Zay nf (kf+1) m16 a r23 (w64 (x5_16+(1:Int)))))) (some x1_16)):=by kernel_rfl
theorem m_Zay_eq(nf kf:Nat)(a:List Tm)(left:Int):m_Zay nf (kf+1) a left=(br (decide ((w64 (left-(List.length a:Int)))<(0:Int))) (some (-1:Int)) (mark (l16_Zay nf (kf+1) nf a (w64 (left-(List.length a:Int))) (0:Int)))):=by kernel_rfl
noncomputable def e_Zay(nf:Nat):XE:=eF 29 [.v (kL (kR 2)),.v kI] [.v kI] (fun t=>m_Zay nf nf t.1 t.2.1)
theorem m_Zax_eq(nf kf:Nat)(a:Tm)(left:Int):m_Zax nf (kf+1) a left=(br (decide ((w64 (left-(List.length a.name:Int)))<(0:Int))) (some (-1:Int)) (cb (m_Zaz nf nf (Ty.h a.type) (w64 (left-(List.length a.name:Int)))) fun r15=>br (decide (r15<(0:Int))) (some (-1:Int)) (cb (m_Zau nf a.labels r15) fun r21=>br (decide (r21<(0:Int))) (some (-1:Int)) (cb (m_Zay nf kf a.args r21) fun r27=>br (decide (r27<(0:Int))) (some (-1:Int)) (some r27))))):=by kernel_rfl
noncomputable def e_Zax(nf:Nat):XE:=eF 28 [.v (kR 2),.v kI] [.v kI] (fun t=>m_Zax nf nf t.1 t.2.1)
theorem gok_Zay(nf:Nat):∀kf:Nat,XT.ok Tryz.prog (G_Zay nf kf++B_Zay nf)
 |0=>by exact⟨o_Zaz nf,o_Zau nf,trivial⟩
 |kf+1=>by
  have ih:=gok_Zay nf kf
  refine⟨?_,?_,(by exact⟨o_Zaz nf,o_Zau nf,trivial⟩)⟩
  ·refine eF_ok fun t x h=> ?_
   obtain⟨a,left,_⟩:=t
   exact runF_ok (N:=27) ih Tryz.func29 (by kernel_rfl) rfl h
  ·refine eF_ok fun t x h=> ?_
   obtain⟨a,left,_⟩:=t
   exact runF_ok (N:=31) ih Tryz.func28 (by kernel_rfl) rfl h
theorem o_Zay(nf:Nat):conOK Tryz.prog 29 (e_Zay nf).con:=by
 have ih:=gok_Zay nf nf
 refine eF_ok fun t x h=> ?_
 obtain⟨a,left,_⟩:=t
 exact runF_ok (N:=27) ih Tryz.func29 (by kernel_rfl) rfl h
theorem o_Zax(nf:Nat):conOK Tryz.prog 28 (e_Zax nf).con:=by
 have ih:=gok_Zay nf nf
 refine eF_ok fun t x h=> ?_
 obtain⟨a,left,_⟩:=t
 exact runF_ok (N:=31) ih Tryz.func28 (by kernel_rfl) rfl h
def c19_ZaH:C:=.sq (.rg [.mv 21 T3,.mv 2 T21]) .rt
def c9_ZaH:C:=.sq (.sq (.rg [.mv 8 T4,.mv 9 T0,.ln 10 false T9,.bi 11 .lss T8 T10]) (.cd T11 .skip (.ex 0))) (.sq (.bk 1 (.rg [.mv 14 T3,.mv 15 T4,.mv 16 T0,.mv 17 T4,.ia 18 T16 T17 kS,.ld 19 T18 kS,.ia 20 T14 T15 kS,.st T20 T19 kS])) (.rg [.mv 12 T4,.bi 13 .add T12 (.i 1),.mv 4 T13]))
def ir_ZaH:C:=.sq (.rg [.mv 2 (.nl kS)]) (.sq (.rg [.mv 5 T0,.ln 6 false T5,.mk 7 true kS T6,.mv 3 T7]) (.sq (.sq (.rg [.mv 4 (.i 0)]) (.bk 0 (.lk [0,3,4] [[7]] c9_ZaH))) c19_ZaH))
noncomputable abbrev T_ZaH(nf:Nat):XT:=[]
noncomputable def m_ZaH(nf:Nat)(a:List Str):Option (List Str):=runF (T_ZaH nf) nf [.v (kL kS)] [.t 2 (.o (kL kS))] ir_ZaH (a,())
noncomputable def X_ZaH{R:Type}(nf:Nat):C->Env->(Xt->Env->Option R)->Option R:=xc (R:=R) (T_ZaH nf).S nf
noncomputable def l8_ZaH(nf:Nat)(m8:Nat)(a:List Str)(x4_8:Int)(y7_8:List Str):Option (List Str):=xit [0,3,4] [[7]] (X_ZaH nf c9_ZaH) (qB 0 (qS (X_ZaH nf c19_ZaH) (KF [.t 2 (.o (kL kS))]))) m8 ⟨[(0,.v (kL kS) a),(3,.sl [7]),(4,.v kI x4_8)],[([7],.row true false kS y7_8)]⟩
theorem l8_ZaH_eq(nf:Nat)(m8:Nat)(a:List Str)(x4_8:Int)(y7_8:List Str):l8_ZaH nf (m8+1) a x4_8 y7_8=(br (decide (x4_8<(List.length a:Int))) (gg (0<=x4_8∧x4_8<(List.length a:Int))<|gg (0<=x4_8∧x4_8<(List.length y7_8:Int))<|gg (0<=x4_8∧x4_8<(List.length y7_8:Int))<|mark (l8_ZaH nf m8 a (w64 (x4_8+(1:Int))) (List.set y7_8 (Int.toNat x4_8) (gt a x4_8 ([]:Str))))) (some y7_8)):=by kernel_rfl
theorem m_ZaH_eq(nf:Nat)(a:List Str):m_ZaH nf a=(gg (0<=(List.length a:Int)∧(List.length a:Int)<=2147483647)<|mark (l8_ZaH nf nf a (0:Int) (List.replicate (Int.toNat (List.length a:Int)) ([]:Str)))):=by kernel_rfl
noncomputable def e_ZaH(nf:Nat):XE:=eF 53 [.v (kL kS)] [.o (kL kS)] (fun t=>m_ZaH nf t.1)
theorem o_ZaH(nf:Nat):conOK Tryz.prog 53 (e_ZaH nf).con:=by
 have ih:XT.ok Tryz.prog (T_ZaH nf):=by exact trivial
 refine eF_ok fun t x h=> ?_
 obtain⟨a,_⟩:=t
 exact runF_ok (N:=22) ih Tryz.func53 (by kernel_rfl) rfl h
def c19_ZaN:C:=.sq (.rg [.mv 22 T3,.mv 2 T22]) .rt
def c9_ZaN:C:=.sq (.sq (.rg [.mv 8 T4,.mv 9 T0,.ln 10 false T9,.bi 11 .lss T8 T10]) (.cd T11 .skip (.ex 0))) (.sq (.bk 1 (.rg [.mv 14 T3,.mv 15 T4,.mv 16 T0,.mv 17 T4,.ia 18 T16 T17 (kR 0),.ld 19 T18 (kR 0),.ca (some 20) 18 [(T19,.v (kR 0))],.ia 21 T14 T15 (kR 0),.st T21 T20 (kR 0)])) (.rg [.mv 12 T4,.bi 13 .add T12 (.i 1),.mv 4 T13]))
def ir_ZaN:C:=.sq (.rg [.mv 2 (.nl (kR 0))]) (.sq (.rg [.mv 5 T0,.ln 6 false T5,.mk 7 true (kR 0) T6,.mv 3 T7]) (.sq (.sq (.rg [.mv 4 (.i 0)]) (.bk 0 (.lk [0,3,4] [[7]] c9_ZaN))) c19_ZaN))
def ir_ZaM:C:=.sq (.rg [.bx 1 T0 (kR 0),.al 2 (kR 0)]) (.sq (.rg [.al 3 (kR 0)]) (.sq (.rg [.fa 4 T1 0 0 0,.ld 5 T4 kI,.fa 6 T3 0 0 0,.st T6 T5 kI]) (.sq (.rg [.fa 7 T1 0 1 1,.ld 8 T7 (kL kS),.ca (some 9) 53 [(T8,.v (kL kS))],.fa 10 T3 0 1 1,.st T10 T9 (kL kS)]) (.sq (.rg [.fa 11 T1 0 2 2,.ld 12 T11 (kL (kR 0)),.ca (some 13) 55 [(T12,.v (kL (kR 0)))],.fa 14 T3 0 2 2,.st T14 T13 (kL (kR 0))]) (.sq (.rg [.ld 15 T3 (kR 0),.st T2 T15 (kR 0)]) .rt)))))
noncomputable def B_ZaN(nf:Nat):XT:=[e_ZaH nf]
noncomputable def G_ZaN(nf:Nat):Nat->XT
 |0=>[]
 |kf+1=>[eF 55 [.v (kL (kR 0))] [.o (kL (kR 0))] (fun t=>(fun(a:List Ty)=>runF (G_ZaN nf kf++B_ZaN nf) nf [.v (kL (kR 0))] [.t 2 (.o (kL (kR 0)))] ir_ZaN (a,())) t.1),
  eF 18 [.v (kR 0)] [.o (kR 0)] (fun t=>(fun(a:Ty)=>runF (G_ZaN nf kf++B_ZaN nf) nf [.v (kR 0)] [.c 2 (.o (kR 0))] ir_ZaM (a,())) t.1)]
noncomputable abbrev T_ZaN(nf kf:Nat):XT:=G_ZaN nf kf++B_ZaN nf
noncomputable abbrev T_ZaM(nf kf:Nat):XT:=G_ZaN nf kf++B_ZaN nf
noncomputable def m_ZaN(nf kf:Nat)(a:List Ty):Option (List Ty):=runF (T_ZaN nf kf) nf [.v (kL (kR 0))] [.t 2 (.o (kL (kR 0)))] ir_ZaN (a,())
noncomputable def X_ZaN{R:Type}(nf kf:Nat):C->Env->(Xt->Env->Option R)->Option R:=xc (R:=R) (T_ZaN nf kf).S nf
noncomputable def m_ZaM(nf kf:Nat)(a:Ty):Option (Ty):=runF (T_ZaM nf kf) nf [.v (kR 0)] [.c 2 (.o (kR 0))] ir_ZaM (a,())
noncomputable def l8_ZaN(nf kf:Nat)(m8:Nat)(a:List Ty)(x4_8:Int)(y7_8:List Ty):Option (List Ty):=xit [0,3,4] [[7]] (X_ZaN nf kf c9_ZaN) (qB 0 (qS (X_ZaN nf kf c19_ZaN) (KF [.t 2 (.o (kL (kR 0)))]))) m8 ⟨[(0,.v (kL (kR 0)) a),(3,.sl [7]),(4,.v kI x4_8)],[([7],.row true false (kR 0) y7_8)]⟩
theorem l8_ZaN_eq(nf kf:Nat)(m8:Nat)(a:List Ty)(x4_8:Int)(y7_8:List Ty):l8_ZaN nf (kf+1) (m8+1) a x4_8 y7_8=(br (decide (x4_8<(List.length a:Int))) (gg (0<=x4_8∧x4_8<(List.length a:Int))<|cb (m_ZaM nf kf (gt a x4_8 Ty.zero)) fun r20=>gg (0<=x4_8∧x4_8<(List.length y7_8:Int))<|gg (0<=x4_8∧x4_8<(List.length y7_8:Int))<|mark (l8_ZaN nf (kf+1) m8 a (w64 (x4_8+(1:Int))) (List.set y7_8 (Int.toNat x4_8) (Ty.h r20)))) (some y7_8)):=by kernel_rfl
theorem m_ZaN_eq(nf kf:Nat)(a:List Ty):m_ZaN nf (kf+1) a=(gg (0<=(List.length a:Int)∧(List.length a:Int)<=2147483647)<|mark (l8_ZaN nf (kf+1) nf a (0:Int) (List.replicate (Int.toNat (List.length a:Int)) Ty.zero))):=by kernel_rfl
theorem m_ZaM_eq(nf kf:Nat)(a:Ty):m_ZaM nf (kf+1) a=(cb (m_ZaH nf a.labels) fun r9=>cb (m_ZaN nf kf a.args) fun r13=>some (Ty.mk a.kind r9 r13)):=by kernel_rfl
noncomputable def e_ZaM(nf:Nat):XE:=eF 18 [.v (kR 0)] [.o (kR 0)] (fun t=>m_ZaM nf nf t.1)
theorem gok_ZaN(nf:Nat):∀kf:Nat,XT.ok Tryz.prog (G_ZaN nf kf++B_ZaN nf)
 |0=>by exact⟨o_ZaH nf,trivial⟩
 |kf+1=>by
  have ih:=gok_ZaN nf kf
  refine⟨?_,?_,(by exact⟨o_ZaH nf,trivial⟩)⟩
  ·refine eF_ok fun t x h=> ?_
   obtain⟨a,_⟩:=t
   exact runF_ok (N:=23) ih Tryz.func55 (by kernel_rfl) rfl h
  ·refine eF_ok fun t x h=> ?_
   obtain⟨a,_⟩:=t
   exact runF_ok (N:=16) ih Tryz.func18 (by kernel_rfl) rfl h
theorem o_ZaM(nf:Nat):conOK Tryz.prog 18 (e_ZaM nf).con:=by
 have ih:=gok_ZaN nf nf
 refine eF_ok fun t x h=> ?_
 obtain⟨a,_⟩:=t
 exact runF_ok (N:=16) ih Tryz.func18 (by kernel_rfl) rfl h
def ir_ZaI:C:=.sq (.rg [.bx 1 T0 (kR 4),.al 2 (kR 4)]) (.sq (.rg [.al 3 (kR 4)]) (.sq (.rg [.fa 4 T1 4 0 0,.ld 5 T4 kS,.fa 6 T3 4 0 0,.st T6 T5 kS]) (.sq (.rg [.fa 7 T1 4 1 1,.ld 8 T7 (kR 0),.ca (some 9) 18 [(T8,.v (kR 0))],.fa 10 T3 4 1 1,.st T10 T9 (kR 0)]) (.sq (.rg [.ld 11 T3 (kR 4),.st T2 T11 (kR 4)]) .rt))))
noncomputable abbrev T_ZaI(nf:Nat):XT:=[e_ZaM nf]
noncomputable def m_ZaI(nf:Nat)(a:TDecl):Option (TDecl):=runF (T_ZaI nf) nf [.v (kR 4)] [.c 2 (.o (kR 4))] ir_ZaI (a,())
theorem m_ZaI_eq(nf:Nat)(a:TDecl):m_ZaI nf a=(cb (m_ZaM nf nf (Ty.h a.row)) fun r9=>some (TDecl.mk a.name (Ty.h r9))):=by kernel_rfl
noncomputable def e_ZaI(nf:Nat):XE:=eF 78 [.v (kR 4)] [.o (kR 4)] (fun t=>m_ZaI nf t.1)
theorem o_ZaI(nf:Nat):conOK Tryz.prog 78 (e_ZaI nf).con:=by
 have ih:XT.ok Tryz.prog (T_ZaI nf):=by exact⟨o_ZaM nf,trivial⟩
 refine eF_ok fun t x h=> ?_
 obtain⟨a,_⟩:=t
 exact runF_ok (N:=12) ih Tryz.func78 (by kernel_rfl) rfl h
def c19_ZaJ:C:=.sq (.rg [.mv 22 T3,.mv 2 T22]) .rt
def c9_ZaJ:C:=.sq (.sq (.rg [.mv 8 T4,.mv 9 T0,.ln 10 false T9,.bi 11 .lss T8 T10]) (.cd T11 .skip (.ex 0))) (.sq (.bk 1 (.rg [.mv 14 T3,.mv 15 T4,.mv 16 T0,.mv 17 T4,.ia 18 T16 T17 (kR 4),.ld 19 T18 (kR 4),.ca (some 20) 78 [(T19,.v (kR 4))],.ia 21 T14 T15 (kR 4),.st T21 T20 (kR 4)])) (.rg [.mv 12 T4,.bi 13 .add T12 (.i 1),.mv 4 T13]))
def ir_ZaJ:C:=.sq (.rg [.mv 2 (.nl (kR 4))]) (.sq (.rg [.mv 5 T0,.ln 6 false T5,.mk 7 true (kR 4) T6,.mv 3 T7]) (.sq (.sq (.rg [.mv 4 (.i 0)]) (.bk 0 (.lk [0,3,4] [[7]] c9_ZaJ))) c19_ZaJ))
noncomputable abbrev T_ZaJ(nf:Nat):XT:=[e_ZaI nf]
noncomputable def m_ZaJ(nf:Nat)(a:List TDecl):Option (List TDecl):=runF (T_ZaJ nf) nf [.v (kL (kR 4))] [.t 2 (.o (kL (kR 4)))] ir_ZaJ (a,())
noncomputable def X_ZaJ{R:Type}(nf:Nat):C->Env->(Xt->Env->Option R)->Option R:=xc (R:=R) (T_ZaJ nf).S nf
noncomputable def l8_ZaJ(nf:Nat)(m8:Nat)(a:List TDecl)(x4_8:Int)(y7_8:List TDecl):Option (List TDecl):=xit [0,3,4] [[7]] (X_ZaJ nf c9_ZaJ) (qB 0 (qS (X_ZaJ nf c19_ZaJ) (KF [.t 2 (.o (kL (kR 4)))]))) m8 ⟨[(0,.v (kL (kR 4)) a),(3,.sl [7]),(4,.v kI x4_8)],[([7],.row true false (kR 4) y7_8)]⟩
theorem l8_ZaJ_eq(nf:Nat)(m8:Nat)(a:List TDecl)(x4_8:Int)(y7_8:List TDecl):l8_ZaJ nf (m8+1) a x4_8 y7_8=(br (decide (x4_8<(List.length a:Int))) (gg (0<=x4_8∧x4_8<(List.length a:Int))<|cb (m_ZaI nf (gt a x4_8 TDecl.zero)) fun r20=>gg (0<=x4_8∧x4_8<(List.length y7_8:Int))<|gg (0<=x4_8∧x4_8<(List.length y7_8:Int))<|mark (l8_ZaJ nf m8 a (w64 (x4_8+(1:Int))) (List.set y7_8 (Int.toNat x4_8) (TDecl.h r20)))) (some y7_8)):=by kernel_rfl
theorem m_ZaJ_eq(nf:Nat)(a:List TDecl):m_ZaJ nf a=(gg (0<=(List.length a:Int)∧(List.length a:Int)<=2147483647)<|mark (l8_ZaJ nf nf a (0:Int) (List.replicate (Int.toNat (List.length a:Int)) TDecl.zero))):=by kernel_rfl
noncomputable def e_ZaJ(nf:Nat):XE:=eF 35 [.v (kL (kR 4))] [.o (kL (kR 4))] (fun t=>m_ZaJ nf t.1)
theorem o_ZaJ(nf:Nat):conOK Tryz.prog 35 (e_ZaJ nf).con:=by
 have ih:XT.ok Tryz.prog (T_ZaJ nf):=by exact⟨o_ZaI nf,trivial⟩
 refine eF_ok fun t x h=> ?_
 obtain⟨a,_⟩:=t
 exact runF_ok (N:=23) ih Tryz.func35 (by kernel_rfl) rfl h
def ir_ZaG:C:=.sq (.rg [.bx 1 T0 (kR 5),.al 2 (kR 5)]) (.sq (.rg [.al 3 (kR 5)]) (.sq (.rg [.fa 4 T1 5 0 0,.ld 5 T4 (kL (kR 4)),.ca (some 6) 35 [(T5,.v (kL (kR 4)))],.fa 7 T3 5 0 0,.st T7 T6 (kL (kR 4))]) (.sq (.rg [.ld 8 T3 (kR 5),.st T2 T8 (kR 5)]) .rt)))
noncomputable abbrev T_ZaG(nf:Nat):XT:=[e_ZaJ nf]
noncomputable def m_ZaG(nf:Nat)(a:Schema):Option (Schema):=runF (T_ZaG nf) nf [.v (kR 5)] [.c 2 (.o (kR 5))] ir_ZaG (a,())
theorem m_ZaG_eq(nf:Nat)(a:Schema):m_ZaG nf a=(cb (m_ZaJ nf a.tables) fun r6=>some (Schema.mk r6)):=by kernel_rfl
noncomputable def e_ZaG(nf:Nat):XE:=eF 9 [.v (kR 5)] [.o (kR 5)] (fun t=>m_ZaG nf t.1)
theorem o_ZaG(nf:Nat):conOK Tryz.prog 9 (e_ZaG nf).con:=by
 have ih:XT.ok Tryz.prog (T_ZaG nf):=by exact⟨o_ZaJ nf,trivial⟩
 refine eF_ok fun t x h=> ?_
 obtain⟨a,_⟩:=t
 exact runF_ok (N:=9) ih Tryz.func9 (by kernel_rfl) rfl h
def c19_ZaL:C:=.sq (.rg [.mv 22 T3,.mv 2 T22]) .rt
def c9_ZaL:C:=.sq (.sq (.rg [.mv 8 T4,.mv 9 T0,.ln 10 false T9,.bi 11 .lss T8 T10]) (.cd T11 .skip (.ex 0))) (.sq (.bk 1 (.rg [.mv 14 T3,.mv 15 T4,.mv 16 T0,.mv 17 T4,.ia 18 T16 T17 (kR 2),.ld 19 T18 (kR 2),.ca (some 20) 36 [(T19,.v (kR 2))],.ia 21 T14 T15 (kR 2),.st T21 T20 (kR 2)])) (.rg [.mv 12 T4,.bi 13 .add T12 (.i 1),.mv 4 T13]))
def ir_ZaL:C:=.sq (.rg [.mv 2 (.nl (kR 2))]) (.sq (.rg [.mv 5 T0,.ln 6 false T5,.mk 7 true (kR 2) T6,.mv 3 T7]) (.sq (.sq (.rg [.mv 4 (.i 0)]) (.bk 0 (.lk [0,3,4] [[7]] c9_ZaL))) c19_ZaL))
def ir_ZaK:C:=.sq (.rg [.bx 1 T0 (kR 2),.al 2 (kR 2)]) (.sq (.rg [.al 3 (kR 2)]) (.sq (.rg [.fa 4 T1 2 0 0,.ld 5 T4 kI,.fa 6 T3 2 0 0,.st T6 T5 kI]) (.sq (.rg [.fa 7 T1 2 1 1,.ld 8 T7 kS,.fa 9 T3 2 1 1,.st T9 T8 kS]) (.sq (.rg [.fa 10 T1 2 2 2,.ld 11 T10 kI,.fa 12 T3 2 2 2,.st T12 T11 kI]) (.sq (.rg [.fa 13 T1 2 3 3,.ld 14 T13 (kR 0),.ca (some 15) 18 [(T14,.v (kR 0))],.fa 16 T3 2 3 3,.st T16 T15 (kR 0)]) (.sq (.rg [.fa 17 T1 2 4 6,.ld 18 T17 (kL kS),.ca (some 19) 53 [(T18,.v (kL kS))],.fa 20 T3 2 4 6,.st T20 T19 (kL kS)]) (.sq (.rg [.fa 21 T1 2 5 7,.ld 22 T21 (kL (kR 2)),.ca (some 23) 37 [(T22,.v (kL (kR 2)))],.fa 24 T3 2 5 7,.st T24 T23 (kL (kR 2))]) (.sq (.rg [.ld 25 T3 (kR 2),.st T2 T25 (kR 2)]) .rt))))))))
noncomputable def B_ZaL(nf:Nat):XT:=[e_ZaM nf,e_ZaH nf]
noncomputable def G_ZaL(nf:Nat):Nat->XT
 |0=>[]
 |kf+1=>[eF 37 [.v (kL (kR 2))] [.o (kL (kR 2))] (fun t=>(fun(a:List Tm)=>runF (G_ZaL nf kf++B_ZaL nf) nf [.v (kL (kR 2))] [.t 2 (.o (kL (kR 2)))] ir_ZaL (a,())) t.1),
  eF 36 [.v (kR 2)] [.o (kR 2)] (fun t=>(fun(a:Tm)=>runF (G_ZaL nf kf++B_ZaL nf) nf [.v (kR 2)] [.c 2 (.o (kR 2))] ir_ZaK (a,())) t.1)]
noncomputable abbrev T_ZaL(nf kf:Nat):XT:=G_ZaL nf kf++B_ZaL nf
noncomputable abbrev T_ZaK(nf kf:Nat):XT:=G_ZaL nf kf++B_ZaL nf
noncomputable def m_ZaL(nf kf:Nat)(a:List Tm):Option (List Tm):=runF (T_ZaL nf kf) nf [.v (kL (kR 2))] [.t 2 (.o (kL (kR 2)))] ir_ZaL (a,())
noncomputable def X_ZaL{R:Type}(nf kf:Nat):C->Env->(Xt->Env->Option R)->Option R:=xc (R:=R) (T_ZaL nf kf).S nf
noncomputable def m_ZaK(nf kf:Nat)(a:Tm):Option (Tm):=runF (T_ZaK nf kf) nf [.v (kR 2)] [.c 2 (.o (kR 2))] ir_ZaK (a,())
noncomputable def l8_ZaL(nf kf:Nat)(m8:Nat)(a:List Tm)(x4_8:Int)(y7_8:List Tm):Option (List Tm):=xit [0,3,4] [[7]] (X_ZaL nf kf c9_ZaL) (qB 0 (qS (X_ZaL nf kf c19_ZaL) (KF [.t 2 (.o (kL (kR 2)))]))) m8 ⟨[(0,.v (kL (kR 2)) a),(3,.sl [7]),(4,.v kI x4_8)],[([7],.row true false (kR 2) y7_8)]⟩
theorem l8_ZaL_eq(nf kf:Nat)(m8:Nat)(a:List Tm)(x4_8:Int)(y7_8:List Tm):l8_ZaL nf (kf+1) (m8+1) a x4_8 y7_8=(br (decide (x4_8<(List.length a:Int))) (gg (0<=x4_8∧x4_8<(List.length a:Int))<|cb (m_ZaK nf kf (gt a x4_8 Tm.zero)) fun r20=>gg (0<=x4_8∧x4_8<(List.length y7_8:Int))<|gg (0<=x4_8∧x4_8<(List.length y7_8:Int))<|mark (l8_ZaL nf (kf+1) m8 a (w64 (x4_8+(1:Int))) (List.set y7_8 (Int.toNat x4_8) (Tm.h r20)))) (some y7_8)):=by kernel_rfl
theorem m_ZaL_eq(nf kf:Nat)(a:List Tm):m_ZaL nf (kf+1) a=(gg (0<=(List.length a:Int)∧(List.length a:Int)<=2147483647)<|mark (l8_ZaL nf (kf+1) nf a (0:Int) (List.replicate (Int.toNat (List.length a:Int)) Tm.zero))):=by kernel_rfl
noncomputable def e_ZaL(nf:Nat):XE:=eF 37 [.v (kL (kR 2))] [.o (kL (kR 2))] (fun t=>m_ZaL nf nf t.1)
theorem m_ZaK_eq(nf kf:Nat)(a:Tm):m_ZaK nf (kf+1) a=(cb (m_ZaM nf nf (Ty.h a.type)) fun r15=>cb (m_ZaH nf a.labels) fun r19=>cb (m_ZaL nf kf a.args) fun r23=>some (Tm.mk a.kind a.name a.n (Ty.h r15) r19 r23)):=by kernel_rfl
noncomputable def e_ZaK(nf:Nat):XE:=eF 36 [.v (kR 2)] [.o (kR 2)] (fun t=>m_ZaK nf nf t.1)
theorem gok_ZaL(nf:Nat):∀kf:Nat,XT.ok Tryz.prog (G_ZaL nf kf++B_ZaL nf)
 |0=>by exact⟨o_ZaM nf,o_ZaH nf,trivial⟩
 |kf+1=>by
  have ih:=gok_ZaL nf kf
  refine⟨?_,?_,(by exact⟨o_ZaM nf,o_ZaH nf,trivial⟩)⟩
  ·refine eF_ok fun t x h=> ?_
   obtain⟨a,_⟩:=t
   exact runF_ok (N:=23) ih Tryz.func37 (by kernel_rfl) rfl h
  ·refine eF_ok fun t x h=> ?_
   obtain⟨a,_⟩:=t
   exact runF_ok (N:=26) ih Tryz.func36 (by kernel_rfl) rfl h
theorem o_ZaL(nf:Nat):conOK Tryz.prog 37 (e_ZaL nf).con:=by
 have ih:=gok_ZaL nf nf
 refine eF_ok fun t x h=> ?_
 obtain⟨a,_⟩:=t
 exact runF_ok (N:=23) ih Tryz.func37 (by kernel_rfl) rfl h
theorem o_ZaK(nf:Nat):conOK Tryz.prog 36 (e_ZaK nf).con:=by
 have ih:=gok_ZaL nf nf
 refine eF_ok fun t x h=> ?_
 obtain⟨a,_⟩:=t
 exact runF_ok (N:=26) ih Tryz.func36 (by kernel_rfl) rfl h
def c31_Zah:C:=.sq (.rg [.mv 4 (.b true)]) .rt
def c15_Zah:C:=.sq (.sq (.rg [.mv 11 T5,.mv 12 T0,.ln 13 false T12,.bi 14 .lss T11 T13]) (.cd T14 .skip (.ex 0))) (.sq (.bk 1 (.sq (.dr [] [.mv 17 T0,.mv 18 T5,.ia 19 T17 T18 kS,.ld 20 T19 kS,.mv 21 T1,.mv 22 T5,.ia 23 T21 T22 kS,.ld 24 T23 kS] [.bi 25 .neq T20 T24]) (.cd T25 (.sq (.rg [.mv 4 (.b false)]) .rt) .skip))) (.rg [.mv 15 T5,.bi 16 .add T15 (.i 1),.mv 5 T16]))
def ir_Zah:C:=.sq (.rg [.mv 4 (.b false)]) (.sq (.sq (.rg [.mv 6 T0,.ln 7 false T6,.mv 8 T1,.ln 9 false T8,.bi 10 .neq T7 T9]) (.cd T10 (.sq (.rg [.mv 4 (.b false)]) .rt) .skip)) (.sq (.sq (.rg [.mv 5 (.i 0)]) (.bk 0 (.lk [0,1,5] [] c15_Zah))) c31_Zah))
noncomputable abbrev T_Zah(nf:Nat):XT:=[]
noncomputable def m_Zah(nf:Nat)(a:List Str)(b:List Str):Option (Bool):=runF (T_Zah nf) nf [.v (kL kS),.v (kL kS)] [.t 4 (.v .bool)] ir_Zah (a,b,())
noncomputable def X_Zah{R:Type}(nf:Nat):C->Env->(Xt->Env->Option R)->Option R:=xc (R:=R) (T_Zah nf).S nf
noncomputable def l14_Zah(nf:Nat)(m14:Nat)(a:List Str)(b:List Str)(x5_14:Int):Option (Bool):=xit [0,1,5] [] (X_Zah nf c15_Zah) (qB 0 (qS (X_Zah nf c31_Zah) (KF [.t 4 (.v .bool)]))) m14 ⟨[(0,.v (kL kS) a),(1,.v (kL kS) b),(5,.v kI x5_14)],[]⟩
theorem l14_Zah_eq(nf:Nat)(m14:Nat)(a:List Str)(b:List Str)(x5_14:Int):l14_Zah nf (m14+1) a b x5_14=(br (decide (x5_14<(List.length a:Int))) (gg (0<=x5_14∧x5_14<(List.length a:Int))<|gg (0<=x5_14∧x5_14<(List.length b:Int))<|br (!((gt a x5_14 ([]:Str))==(gt b x5_14 ([]:Str)))) (some false) (mark (l14_Zah nf m14 a b (w64 (x5_14+(1:Int)))))) (some true)):=by kernel_rfl
theorem m_Zah_eq(nf:Nat)(a:List Str)(b:List Str):m_Zah nf a b=(br (!((List.length a:Int)==(List.length b:Int))) (some false) (mark (l14_Zah nf nf a b (0:Int)))):=by kernel_rfl
noncomputable def e_Zah(nf:Nat):XE:=eF 61 [.v (kL kS),.v (kL kS)] [.v .bool] (fun t=>m_Zah nf t.1 t.2.1)
theorem o_Zah(nf:Nat):conOK Tryz.prog 61 (e_Zah nf).con:=by
 have ih:XT.ok Tryz.prog (T_Zah nf):=by exact trivial
 refine eF_ok fun t x h=> ?_
 obtain⟨a,b,_⟩:=t
 exact runF_ok (N:=26) ih Tryz.func61 (by kernel_rfl) rfl h
def c31_Zan:C:=.sq (.rg [.mv 4 (.b true)]) .rt
def c15_Zan:C:=.sq (.sq (.rg [.mv 11 T5,.mv 12 T0,.ln 13 false T12,.bi 14 .lss T11 T13]) (.cd T14 .skip (.ex 0))) (.sq (.bk 1 (.sq (.dr [] [.mv 17 T0,.mv 18 T5,.ia 19 T17 T18 (kR 0),.ld 20 T19 (kR 0),.mv 21 T1,.mv 22 T5,.ia 23 T21 T22 (kR 0),.ld 24 T23 (kR 0)] [.cv (some 25) 21 [(T20,.v (kR 0)),(T24,.v (kR 0))],.un 26 .not T25]) (.cd T26 (.sq (.rg [.mv 4 (.b false)]) .rt) .skip))) (.rg [.mv 15 T5,.bi 16 .add T15 (.i 1),.mv 5 T16]))
def ir_Zan:C:=.sq (.rg [.mv 4 (.b false)]) (.sq (.sq (.rg [.mv 6 T0,.ln 7 false T6,.mv 8 T1,.ln 9 false T8,.bi 10 .neq T7 T9]) (.cd T10 (.sq (.rg [.mv 4 (.b false)]) .rt) .skip)) (.sq (.sq (.rg [.mv 5 (.i 0)]) (.bk 0 (.lk [0,1,5] [] c15_Zan))) c31_Zan))
def ir_Zam:C:=.sq (.rg [.bx 2 T0 (kR 0),.bx 3 T1 (kR 0),.mv 4 (.b false)]) (.sq (.sq (.rg [.fa 5 T2 0 0 0,.ld 6 T5 kI,.fa 7 T3 0 0 0,.ld 8 T7 kI,.bi 9 .neq T6 T8]) (.cd T9 (.sq (.rg [.mv 4 (.b false)]) .rt) .skip)) (.sq (.sq (.rg [.fa 10 T2 0 1 1,.ld 11 T10 (kL kS),.fa 12 T3 0 1 1,.ld 13 T12 (kL kS),.cv (some 14) 61 [(T11,.v (kL kS)),(T13,.v (kL kS))],.un 15 .not T14]) (.cd T15 (.sq (.rg [.mv 4 (.b false)]) .rt) .skip)) (.sq (.sq (.rg [.fa 16 T2 0 2 2,.ld 17 T16 (kL (kR 0)),.fa 18 T3 0 2 2,.ld 19 T18 (kL (kR 0)),.cv (some 20) 63 [(T17,.v (kL (kR 0))),(T19,.v (kL (kR 0)))],.un 21 .not T20]) (.cd T21 (.sq (.rg [.mv 4 (.b false)]) .rt) .skip)) (.sq (.rg [.mv 4 (.b true)]) .rt))))
noncomputable def B_Zan(nf:Nat):XT:=[e_Zah nf]
noncomputable def G_Zan(nf:Nat):Nat->XT
 |0=>[]
 |kf+1=>[eF 63 [.v (kL (kR 0)),.v (kL (kR 0))] [.v .bool] (fun t=>(fun(a:List Ty) (b:List Ty)=>runF (G_Zan nf kf++B_Zan nf) nf [.v (kL (kR 0)),.v (kL (kR 0))] [.t 4 (.v .bool)] ir_Zan (a,b,())) t.1 t.2.1),
  eF 21 [.v (kR 0),.v (kR 0)] [.v .bool] (fun t=>(fun(a:Ty) (b:Ty)=>runF (G_Zan nf kf++B_Zan nf) nf [.v (kR 0),.v (kR 0)] [.t 4 (.v .bool)] ir_Zam (a,b,())) t.1 t.2.1)]
noncomputable abbrev T_Zan(nf kf:Nat):XT:=G_Zan nf kf++B_Zan nf
noncomputable abbrev T_Zam(nf kf:Nat):XT:=G_Zan nf kf++B_Zan nf
noncomputable def m_Zan(nf kf:Nat)(a:List Ty)(b:List Ty):Option (Bool):=runF (T_Zan nf kf) nf [.v (kL (kR 0)),.v (kL (kR 0))] [.t 4 (.v .bool)] ir_Zan (a,b,())
noncomputable def X_Zan{R:Type}(nf kf:Nat):C->Env->(Xt->Env->Option R)->Option R:=xc (R:=R) (T_Zan nf kf).S nf
noncomputable def m_Zam(nf kf:Nat)(a:Ty)(b:Ty):Option (Bool):=runF (T_Zam nf kf) nf [.v (kR 0),.v (kR 0)] [.t 4 (.v .bool)] ir_Zam (a,b,())
noncomputable def l14_Zan(nf kf:Nat)(m14:Nat)(a:List Ty)(b:List Ty)(x5_14:Int):Option (Bool):=xit [0,1,5] [] (X_Zan nf kf c15_Zan) (qB 0 (qS (X_Zan nf kf c31_Zan) (KF [.t 4 (.v .bool)]))) m14 ⟨[(0,.v (kL (kR 0)) a),(1,.v (kL (kR 0)) b),(5,.v kI x5_14)],[]⟩
theorem l14_Zan_eq(nf kf:Nat)(m14:Nat)(a:List Ty)(b:List Ty)(x5_14:Int):l14_Zan nf (kf+1) (m14+1) a b x5_14=(br (decide (x5_14<(List.length a:Int))) (gg (0<=x5_14∧x5_14<(List.length a:Int))<|gg (0<=x5_14∧x5_14<(List.length b:Int))<|cb (m_Zam nf kf (gt a x5_14 Ty.zero) (gt b x5_14 Ty.zero)) fun r25=>br (!r25) (some false) (mark (l14_Zan nf (kf+1) m14 a b (w64 (x5_14+(1:Int)))))) (some true)):=by kernel_rfl
theorem m_Zan_eq(nf kf:Nat)(a:List Ty)(b:List Ty):m_Zan nf (kf+1) a b=(br (!((List.length a:Int)==(List.length b:Int))) (some false) (mark (l14_Zan nf (kf+1) nf a b (0:Int)))):=by kernel_rfl
theorem m_Zam_eq(nf kf:Nat)(a:Ty)(b:Ty):m_Zam nf (kf+1) a b=(br (!(a.kind==b.kind)) (some false) (cb (m_Zah nf a.labels b.labels) fun r14=>br (!r14) (some false) (cb (m_Zan nf kf a.args b.args) fun r20=>br (!r20) (some false) (some true)))):=by kernel_rfl
noncomputable def e_Zam(nf:Nat):XE:=eF 21 [.v (kR 0),.v (kR 0)] [.v .bool] (fun t=>m_Zam nf nf t.1 t.2.1)
theorem gok_Zan(nf:Nat):∀kf:Nat,XT.ok Tryz.prog (G_Zan nf kf++B_Zan nf)
 |0=>by exact⟨o_Zah nf,trivial⟩
 |kf+1=>by
  have ih:=gok_Zan nf kf
  refine⟨?_,?_,(by exact⟨o_Zah nf,trivial⟩)⟩
  ·refine eF_ok fun t x h=> ?_
   obtain⟨a,b,_⟩:=t
   exact runF_ok (N:=27) ih Tryz.func63 (by kernel_rfl) rfl h
  ·refine eF_ok fun t x h=> ?_
   obtain⟨a,b,_⟩:=t
   exact runF_ok (N:=22) ih Tryz.func21 (by kernel_rfl) rfl h
theorem o_Zam(nf:Nat):conOK Tryz.prog 21 (e_Zam nf).con:=by
 have ih:=gok_Zan nf nf
 refine eF_ok fun t x h=> ?_
 obtain⟨a,b,_⟩:=t
 exact runF_ok (N:=22) ih Tryz.func21 (by kernel_rfl) rfl h
def ir_Zai:C:=.sq (.rg [.bx 2 T0 (kR 4),.bx 3 T1 (kR 4),.mv 4 (.b false)]) (.sq (.sq (.rg [.fa 5 T2 4 0 0,.ld 6 T5 kS,.fa 7 T3 4 0 0,.ld 8 T7 kS,.bi 9 .neq T6 T8]) (.cd T9 (.sq (.rg [.mv 4 (.b false)]) .rt) .skip)) (.sq (.sq (.rg [.fa 10 T2 4 1 1,.ld 11 T10 (kR 0),.fa 12 T3 4 1 1,.ld 13 T12 (kR 0),.cv (some 14) 21 [(T11,.v (kR 0)),(T13,.v (kR 0))],.un 15 .not T14]) (.cd T15 (.sq (.rg [.mv 4 (.b false)]) .rt) .skip)) (.sq (.rg [.mv 4 (.b true)]) .rt)))
noncomputable abbrev T_Zai(nf:Nat):XT:=[e_Zam nf]
noncomputable def m_Zai(nf:Nat)(a:TDecl)(b:TDecl):Option (Bool):=runF (T_Zai nf) nf [.v (kR 4),.v (kR 4)] [.t 4 (.v .bool)] ir_Zai (a,b,())
theorem m_Zai_eq(nf:Nat)(a:TDecl)(b:TDecl):m_Zai nf a b=(br (!(a.name==b.name)) (some false) (cb (m_Zam nf nf (Ty.h a.row) (Ty.h b.row)) fun r14=>br (!r14) (some false) (some true))):=by kernel_rfl
noncomputable def e_Zai(nf:Nat):XE:=eF 85 [.v (kR 4),.v (kR 4)] [.v .bool] (fun t=>m_Zai nf t.1 t.2.1)
theorem o_Zai(nf:Nat):conOK Tryz.prog 85 (e_Zai nf).con:=by
 have ih:XT.ok Tryz.prog (T_Zai nf):=by exact⟨o_Zam nf,trivial⟩
 refine eF_ok fun t x h=> ?_
 obtain⟨a,b,_⟩:=t
 exact runF_ok (N:=16) ih Tryz.func85 (by kernel_rfl) rfl h
def c31_Zaj:C:=.sq (.rg [.mv 4 (.b true)]) .rt
def c15_Zaj:C:=.sq (.sq (.rg [.mv 11 T5,.mv 12 T0,.ln 13 false T12,.bi 14 .lss T11 T13]) (.cd T14 .skip (.ex 0))) (.sq (.bk 1 (.sq (.dr [] [.mv 17 T0,.mv 18 T5,.ia 19 T17 T18 (kR 4),.ld 20 T19 (kR 4),.mv 21 T1,.mv 22 T5,.ia 23 T21 T22 (kR 4),.ld 24 T23 (kR 4)] [.cv (some 25) 85 [(T20,.v (kR 4)),(T24,.v (kR 4))],.un 26 .not T25]) (.cd T26 (.sq (.rg [.mv 4 (.b false)]) .rt) .skip))) (.rg [.mv 15 T5,.bi 16 .add T15 (.i 1),.mv 5 T16]))
def ir_Zaj:C:=.sq (.rg [.mv 4 (.b false)]) (.sq (.sq (.rg [.mv 6 T0,.ln 7 false T6,.mv 8 T1,.ln 9 false T8,.bi 10 .neq T7 T9]) (.cd T10 (.sq (.rg [.mv 4 (.b false)]) .rt) .skip)) (.sq (.sq (.rg [.mv 5 (.i 0)]) (.bk 0 (.lk [0,1,5] [] c15_Zaj))) c31_Zaj))
noncomputable abbrev T_Zaj(nf:Nat):XT:=[e_Zai nf]
noncomputable def m_Zaj(nf:Nat)(a:List TDecl)(b:List TDecl):Option (Bool):=runF (T_Zaj nf) nf [.v (kL (kR 4)),.v (kL (kR 4))] [.t 4 (.v .bool)] ir_Zaj (a,b,())
noncomputable def X_Zaj{R:Type}(nf:Nat):C->Env->(Xt->Env->Option R)->Option R:=xc (R:=R) (T_Zaj nf).S nf
noncomputable def l14_Zaj(nf:Nat)(m14:Nat)(a:List TDecl)(b:List TDecl)(x5_14:Int):Option (Bool):=xit [0,1,5] [] (X_Zaj nf c15_Zaj) (qB 0 (qS (X_Zaj nf c31_Zaj) (KF [.t 4 (.v .bool)]))) m14 ⟨[(0,.v (kL (kR 4)) a),(1,.v (kL (kR 4)) b),(5,.v kI x5_14)],[]⟩
theorem l14_Zaj_eq(nf:Nat)(m14:Nat)(a:List TDecl)(b:List TDecl)(x5_14:Int):l14_Zaj nf (m14+1) a b x5_14=(br (decide (x5_14<(List.length a:Int))) (gg (0<=x5_14∧x5_14<(List.length a:Int))<|gg (0<=x5_14∧x5_14<(List.length b:Int))<|cb (m_Zai nf (gt a x5_14 TDecl.zero) (gt b x5_14 TDecl.zero)) fun r25=>br (!r25) (some false) (mark (l14_Zaj nf m14 a b (w64 (x5_14+(1:Int)))))) (some true)):=by kernel_rfl
theorem m_Zaj_eq(nf:Nat)(a:List TDecl)(b:List TDecl):m_Zaj nf a b=(br (!((List.length a:Int)==(List.length b:Int))) (some false) (mark (l14_Zaj nf nf a b (0:Int)))):=by kernel_rfl
noncomputable def e_Zaj(nf:Nat):XE:=eF 43 [.v (kL (kR 4)),.v (kL (kR 4))] [.v .bool] (fun t=>m_Zaj nf t.1 t.2.1)
theorem o_Zaj(nf:Nat):conOK Tryz.prog 43 (e_Zaj nf).con:=by
 have ih:XT.ok Tryz.prog (T_Zaj nf):=by exact⟨o_Zai nf,trivial⟩
 refine eF_ok fun t x h=> ?_
 obtain⟨a,b,_⟩:=t
 exact runF_ok (N:=27) ih Tryz.func43 (by kernel_rfl) rfl h
def ir_Zag:C:=.sq (.rg [.bx 2 T0 (kR 5),.bx 3 T1 (kR 5),.mv 4 (.b false)]) (.sq (.sq (.rg [.fa 5 T2 5 0 0,.ld 6 T5 (kL (kR 4)),.fa 7 T3 5 0 0,.ld 8 T7 (kL (kR 4)),.cv (some 9) 43 [(T6,.v (kL (kR 4))),(T8,.v (kL (kR 4)))],.un 10 .not T9]) (.cd T10 (.sq (.rg [.mv 4 (.b false)]) .rt) .skip)) (.sq (.rg [.mv 4 (.b true)]) .rt))
noncomputable abbrev T_Zag(nf:Nat):XT:=[e_Zaj nf]
noncomputable def m_Zag(nf:Nat)(a:Schema)(b:Schema):Option (Bool):=runF (T_Zag nf) nf [.v (kR 5),.v (kR 5)] [.t 4 (.v .bool)] ir_Zag (a,b,())
theorem m_Zag_eq(nf:Nat)(a:Schema)(b:Schema):m_Zag nf a b=(cb (m_Zaj nf a.tables b.tables) fun r9=>br (!r9) (some false) (some true)):=by kernel_rfl
noncomputable def e_Zag(nf:Nat):XE:=eF 12 [.v (kR 5),.v (kR 5)] [.v .bool] (fun t=>m_Zag nf t.1 t.2.1)
theorem o_Zag(nf:Nat):conOK Tryz.prog 12 (e_Zag nf).con:=by
 have ih:XT.ok Tryz.prog (T_Zag nf):=by exact⟨o_Zaj nf,trivial⟩
 refine eF_ok fun t x h=> ?_
 obtain⟨a,b,_⟩:=t
 exact runF_ok (N:=11) ih Tryz.func12 (by kernel_rfl) rfl h
def c31_Zal:C:=.sq (.rg [.mv 4 (.b true)]) .rt
def c15_Zal:C:=.sq (.sq (.rg [.mv 11 T5,.mv 12 T0,.ln 13 false T12,.bi 14 .lss T11 T13]) (.cd T14 .skip (.ex 0))) (.sq (.bk 1 (.sq (.dr [] [.mv 17 T0,.mv 18 T5,.ia 19 T17 T18 (kR 2),.ld 20 T19 (kR 2),.mv 21 T1,.mv 22 T5,.ia 23 T21 T22 (kR 2),.ld 24 T23 (kR 2)] [.cv (some 25) 44 [(T20,.v (kR 2)),(T24,.v (kR 2))],.un 26 .not T25]) (.cd T26 (.sq (.rg [.mv 4 (.b false)]) .rt) .skip))) (.rg [.mv 15 T5,.bi 16 .add T15 (.i 1),.mv 5 T16]))
def ir_Zal:C:=.sq (.rg [.mv 4 (.b false)]) (.sq (.sq (.rg [.mv 6 T0,.ln 7 false T6,.mv 8 T1,.ln 9 false T8,.bi 10 .neq T7 T9]) (.cd T10 (.sq (.rg [.mv 4 (.b false)]) .rt) .skip)) (.sq (.sq (.rg [.mv 5 (.i 0)]) (.bk 0 (.lk [0,1,5] [] c15_Zal))) c31_Zal))
def ir_Zak:C:=.sq (.rg [.bx 2 T0 (kR 2),.bx 3 T1 (kR 2),.mv 4 (.b false)]) (.sq (.sq (.rg [.fa 5 T2 2 0 0,.ld 6 T5 kI,.fa 7 T3 2 0 0,.ld 8 T7 kI,.bi 9 .neq T6 T8]) (.cd T9 (.sq (.rg [.mv 4 (.b false)]) .rt) .skip)) (.sq (.sq (.rg [.fa 10 T2 2 1 1,.ld 11 T10 kS,.fa 12 T3 2 1 1,.ld 13 T12 kS,.bi 14 .neq T11 T13]) (.cd T14 (.sq (.rg [.mv 4 (.b false)]) .rt) .skip)) (.sq (.sq (.rg [.fa 15 T2 2 2 2,.ld 16 T15 kI,.fa 17 T3 2 2 2,.ld 18 T17 kI,.bi 19 .neq T16 T18]) (.cd T19 (.sq (.rg [.mv 4 (.b false)]) .rt) .skip)) (.sq (.sq (.rg [.fa 20 T2 2 3 3,.ld 21 T20 (kR 0),.fa 22 T3 2 3 3,.ld 23 T22 (kR 0),.cv (some 24) 21 [(T21,.v (kR 0)),(T23,.v (kR 0))],.un 25 .not T24]) (.cd T25 (.sq (.rg [.mv 4 (.b false)]) .rt) .skip)) (.sq (.sq (.rg [.fa 26 T2 2 4 6,.ld 27 T26 (kL kS),.fa 28 T3 2 4 6,.ld 29 T28 (kL kS),.cv (some 30) 61 [(T27,.v (kL kS)),(T29,.v (kL kS))],.un 31 .not T30]) (.cd T31 (.sq (.rg [.mv 4 (.b false)]) .rt) .skip)) (.sq (.sq (.rg [.fa 32 T2 2 5 7,.ld 33 T32 (kL (kR 2)),.fa 34 T3 2 5 7,.ld 35 T34 (kL (kR 2)),.cv (some 36) 45 [(T33,.v (kL (kR 2))),(T35,.v (kL (kR 2)))],.un 37 .not T36]) (.cd T37 (.sq (.rg [.mv 4 (.b false)]) .rt) .skip)) (.sq (.rg [.mv 4 (.b true)]) .rt)))))))
noncomputable def B_Zal(nf:Nat):XT:=[e_Zam nf,e_Zah nf]
noncomputable def G_Zal(nf:Nat):Nat->XT
 |0=>[]
 |kf+1=>[eF 45 [.v (kL (kR 2)),.v (kL (kR 2))] [.v .bool] (fun t=>(fun(a:List Tm) (b:List Tm)=>runF (G_Zal nf kf++B_Zal nf) nf [.v (kL (kR 2)),.v (kL (kR 2))] [.t 4 (.v .bool)] ir_Zal (a,b,())) t.1 t.2.1),
  eF 44 [.v (kR 2),.v (kR 2)] [.v .bool] (fun t=>(fun(a:Tm) (b:Tm)=>runF (G_Zal nf kf++B_Zal nf) nf [.v (kR 2),.v (kR 2)] [.t 4 (.v .bool)] ir_Zak (a,b,())) t.1 t.2.1)]
noncomputable abbrev T_Zal(nf kf:Nat):XT:=G_Zal nf kf++B_Zal nf
noncomputable abbrev T_Zak(nf kf:Nat):XT:=G_Zal nf kf++B_Zal nf
noncomputable def m_Zal(nf kf:Nat)(a:List Tm)(b:List Tm):Option (Bool):=runF (T_Zal nf kf) nf [.v (kL (kR 2)),.v (kL (kR 2))] [.t 4 (.v .bool)] ir_Zal (a,b,())
noncomputable def X_Zal{R:Type}(nf kf:Nat):C->Env->(Xt->Env->Option R)->Option R:=xc (R:=R) (T_Zal nf kf).S nf
noncomputable def m_Zak(nf kf:Nat)(a:Tm)(b:Tm):Option (Bool):=runF (T_Zak nf kf) nf [.v (kR 2),.v (kR 2)] [.t 4 (.v .bool)] ir_Zak (a,b,())
noncomputable def l14_Zal(nf kf:Nat)(m14:Nat)(a:List Tm)(b:List Tm)(x5_14:Int):Option (Bool):=xit [0,1,5] [] (X_Zal nf kf c15_Zal) (qB 0 (qS (X_Zal nf kf c31_Zal) (KF [.t 4 (.v .bool)]))) m14 ⟨[(0,.v (kL (kR 2)) a),(1,.v (kL (kR 2)) b),(5,.v kI x5_14)],[]⟩
theorem l14_Zal_eq(nf kf:Nat)(m14:Nat)(a:List Tm)(b:List Tm)(x5_14:Int):l14_Zal nf (kf+1) (m14+1) a b x5_14=(br (decide (x5_14<(List.length a:Int))) (gg (0<=x5_14∧x5_14<(List.length a:Int))<|gg (0<=x5_14∧x5_14<(List.length b:Int))<|cb (m_Zak nf kf (gt a x5_14 Tm.zero) (gt b x5_14 Tm.zero)) fun r25=>br (!r25) (some false) (mark (l14_Zal nf (kf+1) m14 a b (w64 (x5_14+(1:Int)))))) (some true)):=by kernel_rfl
theorem m_Zal_eq(nf kf:Nat)(a:List Tm)(b:List Tm):m_Zal nf (kf+1) a b=(br (!((List.length a:Int)==(List.length b:Int))) (some false) (mark (l14_Zal nf (kf+1) nf a b (0:Int)))):=by kernel_rfl
noncomputable def e_Zal(nf:Nat):XE:=eF 45 [.v (kL (kR 2)),.v (kL (kR 2))] [.v .bool] (fun t=>m_Zal nf nf t.1 t.2.1)
theorem m_Zak_eq(nf kf:Nat)(a:Tm)(b:Tm):m_Zak nf (kf+1) a b=(br (!(a.kind==b.kind)) (some false) (br (!(a.name==b.name)) (some false) (br (!(a.n==b.n)) (some false) (cb (m_Zam nf nf (Ty.h a.type) (Ty.h b.type)) fun r24=>br (!r24) (some false) (cb (m_Zah nf a.labels b.labels) fun r30=>br (!r30) (some false) (cb (m_Zal nf kf a.args b.args) fun r36=>br (!r36) (some false) (some true))))))):=by kernel_rfl
noncomputable def e_Zak(nf:Nat):XE:=eF 44 [.v (kR 2),.v (kR 2)] [.v .bool] (fun t=>m_Zak nf nf t.1 t.2.1)
theorem gok_Zal(nf:Nat):∀kf:Nat,XT.ok Tryz.prog (G_Zal nf kf++B_Zal nf)
 |0=>by exact⟨o_Zam nf,o_Zah nf,trivial⟩
 |kf+1=>by
  have ih:=gok_Zal nf kf
  refine⟨?_,?_,(by exact⟨o_Zam nf,o_Zah nf,trivial⟩)⟩
  ·refine eF_ok fun t x h=> ?_
   obtain⟨a,b,_⟩:=t
   exact runF_ok (N:=27) ih Tryz.func45 (by kernel_rfl) rfl h
  ·refine eF_ok fun t x h=> ?_
   obtain⟨a,b,_⟩:=t
   exact runF_ok (N:=38) ih Tryz.func44 (by kernel_rfl) rfl h
theorem o_Zal(nf:Nat):conOK Tryz.prog 45 (e_Zal nf).con:=by
 have ih:=gok_Zal nf nf
 refine eF_ok fun t x h=> ?_
 obtain⟨a,b,_⟩:=t
 exact runF_ok (N:=27) ih Tryz.func45 (by kernel_rfl) rfl h
theorem o_Zak(nf:Nat):conOK Tryz.prog 44 (e_Zak nf).con:=by
 have ih:=gok_Zal nf nf
 refine eF_ok fun t x h=> ?_
 obtain⟨a,b,_⟩:=t
 exact runF_ok (N:=38) ih Tryz.func44 (by kernel_rfl) rfl h
def ir_Zar:C:=.sq (.rg [.bx 2 T0 (kR 3),.mv 4 (.i 0)]) (.sq (.rg [.mv 5 T1,.fa 6 T2 3 0 0,.ld 7 T6 kS,.ln 8 true T7,.bi 9 .sub T5 T8,.mv 1 T9]) (.sq (.sq (.rg [.mv 10 T1,.bi 11 .lss T10 (.i 0)]) (.cd T11 (.sq (.rg [.mv 4 (.i (-1))]) .rt) .skip)) (.sq (.rg [.mv 12 T1,.fa 13 T2 3 1 1,.ld 14 T13 kS,.ln 15 true T14,.bi 16 .sub T12 T15,.mv 1 T16]) (.sq (.sq (.rg [.mv 17 T1,.bi 18 .lss T17 (.i 0)]) (.cd T18 (.sq (.rg [.mv 4 (.i (-1))]) .rt) .skip)) (.sq (.rg [.mv 19 T1,.mv 4 T19]) .rt)))))
noncomputable abbrev T_Zar(nf:Nat):XT:=[]
noncomputable def m_Zar(nf:Nat)(a:Gen)(left:Int):Option (Int):=runF (T_Zar nf) nf [.v (kR 3),.v kI] [.t 4 (.v kI)] ir_Zar (a,left,())
theorem m_Zar_eq(nf:Nat)(a:Gen)(left:Int):m_Zar nf a left=(br (decide ((w64 (left-(List.length a.var:Int)))<(0:Int))) (some (-1:Int)) (br (decide ((w64 ((w64 (left-(List.length a.var:Int)))-(List.length a.table:Int)))<(0:Int))) (some (-1:Int)) (some (w64 ((w64 (left-(List.length a.var:Int)))-(List.length a.table:Int)))))):=by kernel_rfl
noncomputable def e_Zar(nf:Nat):XE:=eF 154 [.v (kR 3),.v kI] [.v kI] (fun t=>m_Zar nf t.1 t.2.1)
theorem o_Zar(nf:Nat):conOK Tryz.prog 154 (e_Zar nf).con:=by
 have ih:XT.ok Tryz.prog (T_Zar nf):=by exact trivial
 refine eF_ok fun t x h=> ?_
 obtain⟨a,left,_⟩:=t
 exact runF_ok (N:=20) ih Tryz.func154 (by kernel_rfl) rfl h
def c35_Zas:C:=.sq (.rg [.mv 26 T1,.mv 4 T26]) .rt
def c17_Zas:C:=.sq (.sq (.rg [.mv 12 T5,.mv 13 T0,.ln 14 false T13,.bi 15 .lss T12 T14]) (.cd T15 .skip (.ex 0))) (.sq (.bk 1 (.sq (.rg [.mv 18 T0,.mv 19 T5,.ia 20 T18 T19 (kR 3),.ld 21 T20 (kR 3),.mv 22 T1,.cv (some 23) 154 [(T21,.v (kR 3)),(T22,.v kI)],.mv 1 T23]) (.sq (.rg [.mv 24 T1,.bi 25 .lss T24 (.i 0)]) (.cd T25 (.sq (.rg [.mv 4 (.i (-1))]) .rt) .skip)))) (.rg [.mv 16 T5,.bi 17 .add T16 (.i 1),.mv 5 T17]))
def ir_Zas:C:=.sq (.rg [.mv 4 (.i 0)]) (.sq (.rg [.mv 6 T1,.mv 7 T0,.ln 8 false T7,.bi 9 .sub T6 T8,.mv 1 T9]) (.sq (.sq (.rg [.mv 10 T1,.bi 11 .lss T10 (.i 0)]) (.cd T11 (.sq (.rg [.mv 4 (.i (-1))]) .rt) .skip)) (.sq (.sq (.rg [.mv 5 (.i 0)]) (.bk 0 (.lk [0,1,5] [] c17_Zas))) c35_Zas)))
noncomputable abbrev T_Zas(nf:Nat):XT:=[e_Zar nf]
noncomputable def m_Zas(nf:Nat)(a:List Gen)(left:Int):Option (Int):=runF (T_Zas nf) nf [.v (kL (kR 3)),.v kI] [.t 4 (.v kI)] ir_Zas (a,left,())
noncomputable def X_Zas{R:Type}(nf:Nat):C->Env->(Xt->Env->Option R)->Option R:=xc (R:=R) (T_Zas nf).S nf
noncomputable def l16_Zas(nf:Nat)(m16:Nat)(a:List Gen)(x1_16:Int)(x5_16:Int):Option (Int):=xit [0,1,5] [] (X_Zas nf c17_Zas) (qB 0 (qS (X_Zas nf c35_Zas) (KF [.t 4 (.v kI)]))) m16 ⟨[(0,.v (kL (kR 3)) a),(1,.v kI x1_16),(5,.v kI x5_16)],[]⟩
theorem l16_Zas_eq(nf:Nat)(m16:Nat)(a:List Gen)(x1_16:Int)(x5_16:Int):l16_Zas nf (m16+1) a x1_16 x5_16=(br (decide (x5_16<(List.length a:Int))) (gg (0<=x5_16∧x5_16<(List.length a:Int))<|cb (m_Zar nf (gt a x5_16 Gen.zero) x1_16) fun r23=>br (decide (r23<(0:Int))) (some (-1:Int)) (mark (l16_Zas nf m16 a r23 (w64 (x5_16+(1:Int)))))) (some x1_16)):=by kernel_rfl
theorem m_Zas_eq(nf:Nat)(a:List Gen)(left:Int):m_Zas nf a left=(br (decide ((w64 (left-(List.length a:Int)))<(0:Int))) (some (-1:Int)) (mark (l16_Zas nf nf a (w64 (left-(List.length a:Int))) (0:Int)))):=by kernel_rfl
noncomputable def e_Zas(nf:Nat):XE:=eF 127 [.v (kL (kR 3)),.v kI] [.v kI] (fun t=>m_Zas nf t.1 t.2.1)
theorem o_Zas(nf:Nat):conOK Tryz.prog 127 (e_Zas nf).con:=by
 have ih:XT.ok Tryz.prog (T_Zas nf):=by exact⟨o_Zar nf,trivial⟩
 refine eF_ok fun t x h=> ?_
 obtain⟨a,left,_⟩:=t
 exact runF_ok (N:=27) ih Tryz.func127 (by kernel_rfl) rfl h
def ir_Zao:C:=.sq (.rg [.bx 2 T0 (kR 12),.mv 4 (.i 0)]) (.sq (.rg [.fa 5 T2 12 3 3,.ld 6 T5 (kL (kR 3)),.mv 7 T1,.cv (some 8) 127 [(T6,.v (kL (kR 3))),(T7,.v kI)],.mv 1 T8]) (.sq (.sq (.rg [.mv 9 T1,.bi 10 .lss T9 (.i 0)]) (.cd T10 (.sq (.rg [.mv 4 (.i (-1))]) .rt) .skip)) (.sq (.rg [.fa 11 T2 12 4 4,.ld 12 T11 (kR 2),.mv 13 T1,.cv (some 14) 28 [(T12,.v (kR 2)),(T13,.v kI)],.mv 1 T14]) (.sq (.sq (.rg [.mv 15 T1,.bi 16 .lss T15 (.i 0)]) (.cd T16 (.sq (.rg [.mv 4 (.i (-1))]) .rt) .skip)) (.sq (.rg [.fa 17 T2 12 5 12,.ld 18 T17 (kL (kR 2)),.mv 19 T1,.cv (some 20) 29 [(T18,.v (kL (kR 2))),(T19,.v kI)],.mv 1 T20]) (.sq (.sq (.rg [.mv 21 T1,.bi 22 .lss T21 (.i 0)]) (.cd T22 (.sq (.rg [.mv 4 (.i (-1))]) .rt) .skip)) (.sq (.rg [.mv 23 T1,.mv 4 T23]) .rt)))))))
noncomputable abbrev T_Zao(nf:Nat):XT:=[e_Zas nf,e_Zax nf,e_Zay nf]
noncomputable def m_Zao(nf:Nat)(a:FComp)(left:Int):Option (Int):=runF (T_Zao nf) nf [.v (kR 12),.v kI] [.t 4 (.v kI)] ir_Zao (a,left,())
theorem m_Zao_eq(nf:Nat)(a:FComp)(left:Int):m_Zao nf a left=(cb (m_Zas nf a.gens left) fun r8=>br (decide (r8<(0:Int))) (some (-1:Int)) (cb (m_Zax nf nf (Tm.h a.whr) r8) fun r14=>br (decide (r14<(0:Int))) (some (-1:Int)) (cb (m_Zay nf nf a.cols r14) fun r20=>br (decide (r20<(0:Int))) (some (-1:Int)) (some r20)))):=by kernel_rfl
noncomputable def e_Zao(nf:Nat):XE:=eF 86 [.v (kR 12),.v kI] [.v kI] (fun t=>m_Zao nf t.1 t.2.1)
theorem o_Zao(nf:Nat):conOK Tryz.prog 86 (e_Zao nf).con:=by
 have ih:XT.ok Tryz.prog (T_Zao nf):=by exact⟨o_Zas nf,o_Zax nf,o_Zay nf,trivial⟩
 refine eF_ok fun t x h=> ?_
 obtain⟨a,left,_⟩:=t
 exact runF_ok (N:=24) ih Tryz.func86 (by kernel_rfl) rfl h
def c35_Zap:C:=.sq (.rg [.mv 26 T1,.mv 4 T26]) .rt
def c17_Zap:C:=.sq (.sq (.rg [.mv 12 T5,.mv 13 T0,.ln 14 false T13,.bi 15 .lss T12 T14]) (.cd T15 .skip (.ex 0))) (.sq (.bk 1 (.sq (.rg [.mv 18 T0,.mv 19 T5,.ia 20 T18 T19 (kR 12),.ld 21 T20 (kR 12),.mv 22 T1,.cv (some 23) 86 [(T21,.v (kR 12)),(T22,.v kI)],.mv 1 T23]) (.sq (.rg [.mv 24 T1,.bi 25 .lss T24 (.i 0)]) (.cd T25 (.sq (.rg [.mv 4 (.i (-1))]) .rt) .skip)))) (.rg [.mv 16 T5,.bi 17 .add T16 (.i 1),.mv 5 T17]))
def ir_Zap:C:=.sq (.rg [.mv 4 (.i 0)]) (.sq (.rg [.mv 6 T1,.mv 7 T0,.ln 8 false T7,.bi 9 .sub T6 T8,.mv 1 T9]) (.sq (.sq (.rg [.mv 10 T1,.bi 11 .lss T10 (.i 0)]) (.cd T11 (.sq (.rg [.mv 4 (.i (-1))]) .rt) .skip)) (.sq (.sq (.rg [.mv 5 (.i 0)]) (.bk 0 (.lk [0,1,5] [] c17_Zap))) c35_Zap)))
noncomputable abbrev T_Zap(nf:Nat):XT:=[e_Zao nf]
noncomputable def m_Zap(nf:Nat)(a:List FComp)(left:Int):Option (Int):=runF (T_Zap nf) nf [.v (kL (kR 12)),.v kI] [.t 4 (.v kI)] ir_Zap (a,left,())
noncomputable def X_Zap{R:Type}(nf:Nat):C->Env->(Xt->Env->Option R)->Option R:=xc (R:=R) (T_Zap nf).S nf
noncomputable def l16_Zap(nf:Nat)(m16:Nat)(a:List FComp)(x1_16:Int)(x5_16:Int):Option (Int):=xit [0,1,5] [] (X_Zap nf c17_Zap) (qB 0 (qS (X_Zap nf c35_Zap) (KF [.t 4 (.v kI)]))) m16 ⟨[(0,.v (kL (kR 12)) a),(1,.v kI x1_16),(5,.v kI x5_16)],[]⟩
theorem l16_Zap_eq(nf:Nat)(m16:Nat)(a:List FComp)(x1_16:Int)(x5_16:Int):l16_Zap nf (m16+1) a x1_16 x5_16=(br (decide (x5_16<(List.length a:Int))) (gg (0<=x5_16∧x5_16<(List.length a:Int))<|cb (m_Zao nf (gt a x5_16 FComp.zero) x1_16) fun r23=>br (decide (r23<(0:Int))) (some (-1:Int)) (mark (l16_Zap nf m16 a r23 (w64 (x5_16+(1:Int)))))) (some x1_16)):=by kernel_rfl
theorem m_Zap_eq(nf:Nat)(a:List FComp)(left:Int):m_Zap nf a left=(br (decide ((w64 (left-(List.length a:Int)))<(0:Int))) (some (-1:Int)) (mark (l16_Zap nf nf a (w64 (left-(List.length a:Int))) (0:Int)))):=by kernel_rfl
noncomputable def e_Zap(nf:Nat):XE:=eF 48 [.v (kL (kR 12)),.v kI] [.v kI] (fun t=>m_Zap nf t.1 t.2.1)
theorem o_Zap(nf:Nat):conOK Tryz.prog 48 (e_Zap nf).con:=by
 have ih:XT.ok Tryz.prog (T_Zap nf):=by exact⟨o_Zao nf,trivial⟩
 refine eF_ok fun t x h=> ?_
 obtain⟨a,left,_⟩:=t
 exact runF_ok (N:=27) ih Tryz.func48 (by kernel_rfl) rfl h
def ir_Zaq:C:=.sq (.rg [.bx 2 T0 (kR 13),.mv 4 (.i 0)]) (.sq (.rg [.fa 5 T2 13 0 0,.ld 6 T5 (kL kS),.mv 7 T1,.cv (some 8) 47 [(T6,.v (kL kS)),(T7,.v kI)],.mv 1 T8]) (.sq (.sq (.rg [.mv 9 T1,.bi 10 .lss T9 (.i 0)]) (.cd T10 (.sq (.rg [.mv 4 (.i (-1))]) .rt) .skip)) (.sq (.rg [.fa 11 T2 13 1 1,.ld 12 T11 (kL (kR 12)),.mv 13 T1,.cv (some 14) 48 [(T12,.v (kL (kR 12))),(T13,.v kI)],.mv 1 T14]) (.sq (.sq (.rg [.mv 15 T1,.bi 16 .lss T15 (.i 0)]) (.cd T16 (.sq (.rg [.mv 4 (.i (-1))]) .rt) .skip)) (.sq (.rg [.mv 17 T1,.mv 4 T17]) .rt)))))
noncomputable abbrev T_Zaq(nf:Nat):XT:=[e_Zau nf,e_Zap nf]
noncomputable def m_Zaq(nf:Nat)(a:FQuery)(left:Int):Option (Int):=runF (T_Zaq nf) nf [.v (kR 13),.v kI] [.t 4 (.v kI)] ir_Zaq (a,left,())
theorem m_Zaq_eq(nf:Nat)(a:FQuery)(left:Int):m_Zaq nf a left=(cb (m_Zau nf a.path left) fun r8=>br (decide (r8<(0:Int))) (some (-1:Int)) (cb (m_Zap nf a.comps r8) fun r14=>br (decide (r14<(0:Int))) (some (-1:Int)) (some r14))):=by kernel_rfl
noncomputable def e_Zaq(nf:Nat):XE:=eF 14 [.v (kR 13),.v kI] [.v kI] (fun t=>m_Zaq nf t.1 t.2.1)
theorem o_Zaq(nf:Nat):conOK Tryz.prog 14 (e_Zaq nf).con:=by
 have ih:XT.ok Tryz.prog (T_Zaq nf):=by exact⟨o_Zau nf,o_Zap nf,trivial⟩
 refine eF_ok fun t x h=> ?_
 obtain⟨a,left,_⟩:=t
 exact runF_ok (N:=18) ih Tryz.func14 (by kernel_rfl) rfl h
def ir_ZaE:C:=.sq (.rg [.bx 1 T0 (kR 3),.al 2 (kR 3)]) (.sq (.rg [.al 3 (kR 3)]) (.sq (.rg [.fa 4 T1 3 0 0,.ld 5 T4 kS,.fa 6 T3 3 0 0,.st T6 T5 kS]) (.sq (.rg [.fa 7 T1 3 1 1,.ld 8 T7 kS,.fa 9 T3 3 1 1,.st T9 T8 kS]) (.sq (.rg [.ld 10 T3 (kR 3),.st T2 T10 (kR 3)]) .rt))))
noncomputable abbrev T_ZaE(nf:Nat):XT:=[]
noncomputable def m_ZaE(nf:Nat)(a:Gen):Option (Gen):=runF (T_ZaE nf) nf [.v (kR 3)] [.c 2 (.o (kR 3))] ir_ZaE (a,())
theorem m_ZaE_eq(nf:Nat)(a:Gen):m_ZaE nf a=(some a):=by kernel_rfl
noncomputable def e_ZaE(nf:Nat):XE:=eF 161 [.v (kR 3)] [.o (kR 3)] (fun t=>m_ZaE nf t.1)
theorem o_ZaE(nf:Nat):conOK Tryz.prog 161 (e_ZaE nf).con:=by
 have ih:XT.ok Tryz.prog (T_ZaE nf):=by exact trivial
 refine eF_ok fun t x h=> ?_
 obtain⟨a,_⟩:=t
 exact runF_ok (N:=11) ih Tryz.func161 (by kernel_rfl) rfl h
def c19_ZaF:C:=.sq (.rg [.mv 22 T3,.mv 2 T22]) .rt
def c9_ZaF:C:=.sq (.sq (.rg [.mv 8 T4,.mv 9 T0,.ln 10 false T9,.bi 11 .lss T8 T10]) (.cd T11 .skip (.ex 0))) (.sq (.bk 1 (.rg [.mv 14 T3,.mv 15 T4,.mv 16 T0,.mv 17 T4,.ia 18 T16 T17 (kR 3),.ld 19 T18 (kR 3),.ca (some 20) 161 [(T19,.v (kR 3))],.ia 21 T14 T15 (kR 3),.st T21 T20 (kR 3)])) (.rg [.mv 12 T4,.bi 13 .add T12 (.i 1),.mv 4 T13]))
def ir_ZaF:C:=.sq (.rg [.mv 2 (.nl (kR 3))]) (.sq (.rg [.mv 5 T0,.ln 6 false T5,.mk 7 true (kR 3) T6,.mv 3 T7]) (.sq (.sq (.rg [.mv 4 (.i 0)]) (.bk 0 (.lk [0,3,4] [[7]] c9_ZaF))) c19_ZaF))
noncomputable abbrev T_ZaF(nf:Nat):XT:=[e_ZaE nf]
noncomputable def m_ZaF(nf:Nat)(a:List Gen):Option (List Gen):=runF (T_ZaF nf) nf [.v (kL (kR 3))] [.t 2 (.o (kL (kR 3)))] ir_ZaF (a,())
noncomputable def X_ZaF{R:Type}(nf:Nat):C->Env->(Xt->Env->Option R)->Option R:=xc (R:=R) (T_ZaF nf).S nf
noncomputable def l8_ZaF(nf:Nat)(m8:Nat)(a:List Gen)(x4_8:Int)(y7_8:List Gen):Option (List Gen):=xit [0,3,4] [[7]] (X_ZaF nf c9_ZaF) (qB 0 (qS (X_ZaF nf c19_ZaF) (KF [.t 2 (.o (kL (kR 3)))]))) m8 ⟨[(0,.v (kL (kR 3)) a),(3,.sl [7]),(4,.v kI x4_8)],[([7],.row true false (kR 3) y7_8)]⟩
theorem l8_ZaF_eq(nf:Nat)(m8:Nat)(a:List Gen)(x4_8:Int)(y7_8:List Gen):l8_ZaF nf (m8+1) a x4_8 y7_8=(br (decide (x4_8<(List.length a:Int))) (gg (0<=x4_8∧x4_8<(List.length a:Int))<|cb (m_ZaE nf (gt a x4_8 Gen.zero)) fun r20=>gg (0<=x4_8∧x4_8<(List.length y7_8:Int))<|gg (0<=x4_8∧x4_8<(List.length y7_8:Int))<|mark (l8_ZaF nf m8 a (w64 (x4_8+(1:Int))) (List.set y7_8 (Int.toNat x4_8) r20))) (some y7_8)):=by kernel_rfl
theorem m_ZaF_eq(nf:Nat)(a:List Gen):m_ZaF nf a=(gg (0<=(List.length a:Int)∧(List.length a:Int)<=2147483647)<|mark (l8_ZaF nf nf a (0:Int) (List.replicate (Int.toNat (List.length a:Int)) Gen.zero))):=by kernel_rfl
noncomputable def e_ZaF(nf:Nat):XE:=eF 136 [.v (kL (kR 3))] [.o (kL (kR 3))] (fun t=>m_ZaF nf t.1)
theorem o_ZaF(nf:Nat):conOK Tryz.prog 136 (e_ZaF nf).con:=by
 have ih:XT.ok Tryz.prog (T_ZaF nf):=by exact⟨o_ZaE nf,trivial⟩
 refine eF_ok fun t x h=> ?_
 obtain⟨a,_⟩:=t
 exact runF_ok (N:=23) ih Tryz.func136 (by kernel_rfl) rfl h
def ir_ZaB:C:=.sq (.rg [.bx 1 T0 (kR 12),.al 2 (kR 12)]) (.sq (.rg [.al 3 (kR 12)]) (.sq (.rg [.fa 4 T1 12 0 0,.ld 5 T4 kI,.fa 6 T3 12 0 0,.st T6 T5 kI]) (.sq (.rg [.fa 7 T1 12 1 1,.ld 8 T7 kI,.fa 9 T3 12 1 1,.st T9 T8 kI]) (.sq (.rg [.fa 10 T1 12 2 2,.ld 11 T10 kI,.fa 12 T3 12 2 2,.st T12 T11 kI]) (.sq (.rg [.fa 13 T1 12 3 3,.ld 14 T13 (kL (kR 3)),.ca (some 15) 136 [(T14,.v (kL (kR 3)))],.fa 16 T3 12 3 3,.st T16 T15 (kL (kR 3))]) (.sq (.rg [.fa 17 T1 12 4 4,.ld 18 T17 (kR 2),.ca (some 19) 36 [(T18,.v (kR 2))],.fa 20 T3 12 4 4,.st T20 T19 (kR 2)]) (.sq (.rg [.fa 21 T1 12 5 12,.ld 22 T21 (kL (kR 2)),.ca (some 23) 37 [(T22,.v (kL (kR 2)))],.fa 24 T3 12 5 12,.st T24 T23 (kL (kR 2))]) (.sq (.rg [.ld 25 T3 (kR 12),.st T2 T25 (kR 12)]) .rt))))))))
noncomputable abbrev T_ZaB(nf:Nat):XT:=[e_ZaF nf,e_ZaK nf,e_ZaL nf]
noncomputable def m_ZaB(nf:Nat)(a:FComp):Option (FComp):=runF (T_ZaB nf) nf [.v (kR 12)] [.c 2 (.o (kR 12))] ir_ZaB (a,())
theorem m_ZaB_eq(nf:Nat)(a:FComp):m_ZaB nf a=(cb (m_ZaF nf a.gens) fun r15=>cb (m_ZaK nf nf (Tm.h a.whr)) fun r19=>cb (m_ZaL nf nf a.cols) fun r23=>some (FComp.mk a.outer a.outerGens a.tag r15 (Tm.h r19) r23)):=by kernel_rfl
noncomputable def e_ZaB(nf:Nat):XE:=eF 96 [.v (kR 12)] [.o (kR 12)] (fun t=>m_ZaB nf t.1)
theorem o_ZaB(nf:Nat):conOK Tryz.prog 96 (e_ZaB nf).con:=by
 have ih:XT.ok Tryz.prog (T_ZaB nf):=by exact⟨o_ZaF nf,o_ZaK nf,o_ZaL nf,trivial⟩
 refine eF_ok fun t x h=> ?_
 obtain⟨a,_⟩:=t
 exact runF_ok (N:=26) ih Tryz.func96 (by kernel_rfl) rfl h
def c19_ZaC:C:=.sq (.rg [.mv 22 T3,.mv 2 T22]) .rt
def c9_ZaC:C:=.sq (.sq (.rg [.mv 8 T4,.mv 9 T0,.ln 10 false T9,.bi 11 .lss T8 T10]) (.cd T11 .skip (.ex 0))) (.sq (.bk 1 (.rg [.mv 14 T3,.mv 15 T4,.mv 16 T0,.mv 17 T4,.ia 18 T16 T17 (kR 12),.ld 19 T18 (kR 12),.ca (some 20) 96 [(T19,.v (kR 12))],.ia 21 T14 T15 (kR 12),.st T21 T20 (kR 12)])) (.rg [.mv 12 T4,.bi 13 .add T12 (.i 1),.mv 4 T13]))
def ir_ZaC:C:=.sq (.rg [.mv 2 (.nl (kR 12))]) (.sq (.rg [.mv 5 T0,.ln 6 false T5,.mk 7 true (kR 12) T6,.mv 3 T7]) (.sq (.sq (.rg [.mv 4 (.i 0)]) (.bk 0 (.lk [0,3,4] [[7]] c9_ZaC))) c19_ZaC))
noncomputable abbrev T_ZaC(nf:Nat):XT:=[e_ZaB nf]
noncomputable def m_ZaC(nf:Nat)(a:List FComp):Option (List FComp):=runF (T_ZaC nf) nf [.v (kL (kR 12))] [.t 2 (.o (kL (kR 12)))] ir_ZaC (a,())
noncomputable def X_ZaC{R:Type}(nf:Nat):C->Env->(Xt->Env->Option R)->Option R:=xc (R:=R) (T_ZaC nf).S nf
noncomputable def l8_ZaC(nf:Nat)(m8:Nat)(a:List FComp)(x4_8:Int)(y7_8:List FComp):Option (List FComp):=xit [0,3,4] [[7]] (X_ZaC nf c9_ZaC) (qB 0 (qS (X_ZaC nf c19_ZaC) (KF [.t 2 (.o (kL (kR 12)))]))) m8 ⟨[(0,.v (kL (kR 12)) a),(3,.sl [7]),(4,.v kI x4_8)],[([7],.row true false (kR 12) y7_8)]⟩
theorem l8_ZaC_eq(nf:Nat)(m8:Nat)(a:List FComp)(x4_8:Int)(y7_8:List FComp):l8_ZaC nf (m8+1) a x4_8 y7_8=(br (decide (x4_8<(List.length a:Int))) (gg (0<=x4_8∧x4_8<(List.length a:Int))<|cb (m_ZaB nf (gt a x4_8 FComp.zero)) fun r20=>gg (0<=x4_8∧x4_8<(List.length y7_8:Int))<|gg (0<=x4_8∧x4_8<(List.length y7_8:Int))<|mark (l8_ZaC nf m8 a (w64 (x4_8+(1:Int))) (List.set y7_8 (Int.toNat x4_8) (FComp.h r20)))) (some y7_8)):=by kernel_rfl
theorem m_ZaC_eq(nf:Nat)(a:List FComp):m_ZaC nf a=(gg (0<=(List.length a:Int)∧(List.length a:Int)<=2147483647)<|mark (l8_ZaC nf nf a (0:Int) (List.replicate (Int.toNat (List.length a:Int)) FComp.zero))):=by kernel_rfl
noncomputable def e_ZaC(nf:Nat):XE:=eF 54 [.v (kL (kR 12))] [.o (kL (kR 12))] (fun t=>m_ZaC nf t.1)
theorem o_ZaC(nf:Nat):conOK Tryz.prog 54 (e_ZaC nf).con:=by
 have ih:XT.ok Tryz.prog (T_ZaC nf):=by exact⟨o_ZaB nf,trivial⟩
 refine eF_ok fun t x h=> ?_
 obtain⟨a,_⟩:=t
 exact runF_ok (N:=23) ih Tryz.func54 (by kernel_rfl) rfl h
def ir_ZaD:C:=.sq (.rg [.bx 1 T0 (kR 13),.al 2 (kR 13)]) (.sq (.rg [.al 3 (kR 13)]) (.sq (.rg [.fa 4 T1 13 0 0,.ld 5 T4 (kL kS),.ca (some 6) 53 [(T5,.v (kL kS))],.fa 7 T3 13 0 0,.st T7 T6 (kL kS)]) (.sq (.rg [.fa 8 T1 13 1 1,.ld 9 T8 (kL (kR 12)),.ca (some 10) 54 [(T9,.v (kL (kR 12)))],.fa 11 T3 13 1 1,.st T11 T10 (kL (kR 12))]) (.sq (.rg [.ld 12 T3 (kR 13),.st T2 T12 (kR 13)]) .rt))))
noncomputable abbrev T_ZaD(nf:Nat):XT:=[e_ZaH nf,e_ZaC nf]
noncomputable def m_ZaD(nf:Nat)(a:FQuery):Option (FQuery):=runF (T_ZaD nf) nf [.v (kR 13)] [.c 2 (.o (kR 13))] ir_ZaD (a,())
theorem m_ZaD_eq(nf:Nat)(a:FQuery):m_ZaD nf a=(cb (m_ZaH nf a.path) fun r6=>cb (m_ZaC nf a.comps) fun r10=>some (FQuery.mk r6 r10)):=by kernel_rfl
noncomputable def e_ZaD(nf:Nat):XE:=eF 17 [.v (kR 13)] [.o (kR 13)] (fun t=>m_ZaD nf t.1)
theorem o_ZaD(nf:Nat):conOK Tryz.prog 17 (e_ZaD nf).con:=by
 have ih:XT.ok Tryz.prog (T_ZaD nf):=by exact⟨o_ZaH nf,o_ZaC nf,trivial⟩
 refine eF_ok fun t x h=> ?_
 obtain⟨a,_⟩:=t
 exact runF_ok (N:=13) ih Tryz.func17 (by kernel_rfl) rfl h
def ir_Zae:C:=.sq (.rg [.bx 2 T0 (kR 3),.bx 3 T1 (kR 3),.mv 4 (.b false)]) (.sq (.sq (.rg [.fa 5 T2 3 0 0,.ld 6 T5 kS,.fa 7 T3 3 0 0,.ld 8 T7 kS,.bi 9 .neq T6 T8]) (.cd T9 (.sq (.rg [.mv 4 (.b false)]) .rt) .skip)) (.sq (.sq (.rg [.fa 10 T2 3 1 1,.ld 11 T10 kS,.fa 12 T3 3 1 1,.ld 13 T12 kS,.bi 14 .neq T11 T13]) (.cd T14 (.sq (.rg [.mv 4 (.b false)]) .rt) .skip)) (.sq (.rg [.mv 4 (.b true)]) .rt)))
noncomputable abbrev T_Zae(nf:Nat):XT:=[]
noncomputable def m_Zae(nf:Nat)(a:Gen)(b:Gen):Option (Bool):=runF (T_Zae nf) nf [.v (kR 3),.v (kR 3)] [.t 4 (.v .bool)] ir_Zae (a,b,())
theorem m_Zae_eq(nf:Nat)(a:Gen)(b:Gen):m_Zae nf a b=(br (!(a.var==b.var)) (some false) (br (!(a.table==b.table)) (some false) (some true))):=by kernel_rfl
noncomputable def e_Zae(nf:Nat):XE:=eF 169 [.v (kR 3),.v (kR 3)] [.v .bool] (fun t=>m_Zae nf t.1 t.2.1)
theorem o_Zae(nf:Nat):conOK Tryz.prog 169 (e_Zae nf).con:=by
 have ih:XT.ok Tryz.prog (T_Zae nf):=by exact trivial
 refine eF_ok fun t x h=> ?_
 obtain⟨a,b,_⟩:=t
 exact runF_ok (N:=15) ih Tryz.func169 (by kernel_rfl) rfl h
def c31_Zaf:C:=.sq (.rg [.mv 4 (.b true)]) .rt
def c15_Zaf:C:=.sq (.sq (.rg [.mv 11 T5,.mv 12 T0,.ln 13 false T12,.bi 14 .lss T11 T13]) (.cd T14 .skip (.ex 0))) (.sq (.bk 1 (.sq (.dr [] [.mv 17 T0,.mv 18 T5,.ia 19 T17 T18 (kR 3),.ld 20 T19 (kR 3),.mv 21 T1,.mv 22 T5,.ia 23 T21 T22 (kR 3),.ld 24 T23 (kR 3)] [.cv (some 25) 169 [(T20,.v (kR 3)),(T24,.v (kR 3))],.un 26 .not T25]) (.cd T26 (.sq (.rg [.mv 4 (.b false)]) .rt) .skip))) (.rg [.mv 15 T5,.bi 16 .add T15 (.i 1),.mv 5 T16]))
def ir_Zaf:C:=.sq (.rg [.mv 4 (.b false)]) (.sq (.sq (.rg [.mv 6 T0,.ln 7 false T6,.mv 8 T1,.ln 9 false T8,.bi 10 .neq T7 T9]) (.cd T10 (.sq (.rg [.mv 4 (.b false)]) .rt) .skip)) (.sq (.sq (.rg [.mv 5 (.i 0)]) (.bk 0 (.lk [0,1,5] [] c15_Zaf))) c31_Zaf))
noncomputable abbrev T_Zaf(nf:Nat):XT:=[e_Zae nf]
noncomputable def m_Zaf(nf:Nat)(a:List Gen)(b:List Gen):Option (Bool):=runF (T_Zaf nf) nf [.v (kL (kR 3)),.v (kL (kR 3))] [.t 4 (.v .bool)] ir_Zaf (a,b,())
noncomputable def X_Zaf{R:Type}(nf:Nat):C->Env->(Xt->Env->Option R)->Option R:=xc (R:=R) (T_Zaf nf).S nf
noncomputable def l14_Zaf(nf:Nat)(m14:Nat)(a:List Gen)(b:List Gen)(x5_14:Int):Option (Bool):=xit [0,1,5] [] (X_Zaf nf c15_Zaf) (qB 0 (qS (X_Zaf nf c31_Zaf) (KF [.t 4 (.v .bool)]))) m14 ⟨[(0,.v (kL (kR 3)) a),(1,.v (kL (kR 3)) b),(5,.v kI x5_14)],[]⟩
theorem l14_Zaf_eq(nf:Nat)(m14:Nat)(a:List Gen)(b:List Gen)(x5_14:Int):l14_Zaf nf (m14+1) a b x5_14=(br (decide (x5_14<(List.length a:Int))) (gg (0<=x5_14∧x5_14<(List.length a:Int))<|gg (0<=x5_14∧x5_14<(List.length b:Int))<|cb (m_Zae nf (gt a x5_14 Gen.zero) (gt b x5_14 Gen.zero)) fun r25=>br (!r25) (some false) (mark (l14_Zaf nf m14 a b (w64 (x5_14+(1:Int)))))) (some true)):=by kernel_rfl
theorem m_Zaf_eq(nf:Nat)(a:List Gen)(b:List Gen):m_Zaf nf a b=(br (!((List.length a:Int)==(List.length b:Int))) (some false) (mark (l14_Zaf nf nf a b (0:Int)))):=by kernel_rfl
noncomputable def e_Zaf(nf:Nat):XE:=eF 144 [.v (kL (kR 3)),.v (kL (kR 3))] [.v .bool] (fun t=>m_Zaf nf t.1 t.2.1)
theorem o_Zaf(nf:Nat):conOK Tryz.prog 144 (e_Zaf nf).con:=by
 have ih:XT.ok Tryz.prog (T_Zaf nf):=by exact⟨o_Zae nf,trivial⟩
 refine eF_ok fun t x h=> ?_
 obtain⟨a,b,_⟩:=t
 exact runF_ok (N:=27) ih Tryz.func144 (by kernel_rfl) rfl h
def ir_Zab:C:=.sq (.rg [.bx 2 T0 (kR 12),.bx 3 T1 (kR 12),.mv 4 (.b false)]) (.sq (.sq (.rg [.fa 5 T2 12 0 0,.ld 6 T5 kI,.fa 7 T3 12 0 0,.ld 8 T7 kI,.bi 9 .neq T6 T8]) (.cd T9 (.sq (.rg [.mv 4 (.b false)]) .rt) .skip)) (.sq (.sq (.rg [.fa 10 T2 12 1 1,.ld 11 T10 kI,.fa 12 T3 12 1 1,.ld 13 T12 kI,.bi 14 .neq T11 T13]) (.cd T14 (.sq (.rg [.mv 4 (.b false)]) .rt) .skip)) (.sq (.sq (.rg [.fa 15 T2 12 2 2,.ld 16 T15 kI,.fa 17 T3 12 2 2,.ld 18 T17 kI,.bi 19 .neq T16 T18]) (.cd T19 (.sq (.rg [.mv 4 (.b false)]) .rt) .skip)) (.sq (.sq (.rg [.fa 20 T2 12 3 3,.ld 21 T20 (kL (kR 3)),.fa 22 T3 12 3 3,.ld 23 T22 (kL (kR 3)),.cv (some 24) 144 [(T21,.v (kL (kR 3))),(T23,.v (kL (kR 3)))],.un 25 .not T24]) (.cd T25 (.sq (.rg [.mv 4 (.b false)]) .rt) .skip)) (.sq (.sq (.rg [.fa 26 T2 12 4 4,.ld 27 T26 (kR 2),.fa 28 T3 12 4 4,.ld 29 T28 (kR 2),.cv (some 30) 44 [(T27,.v (kR 2)),(T29,.v (kR 2))],.un 31 .not T30]) (.cd T31 (.sq (.rg [.mv 4 (.b false)]) .rt) .skip)) (.sq (.sq (.rg [.fa 32 T2 12 5 12,.ld 33 T32 (kL (kR 2)),.fa 34 T3 12 5 12,.ld 35 T34 (kL (kR 2)),.cv (some 36) 45 [(T33,.v (kL (kR 2))),(T35,.v (kL (kR 2)))],.un 37 .not T36]) (.cd T37 (.sq (.rg [.mv 4 (.b false)]) .rt) .skip)) (.sq (.rg [.mv 4 (.b true)]) .rt)))))))
noncomputable abbrev T_Zab(nf:Nat):XT:=[e_Zaf nf,e_Zak nf,e_Zal nf]
noncomputable def m_Zab(nf:Nat)(a:FComp)(b:FComp):Option (Bool):=runF (T_Zab nf) nf [.v (kR 12),.v (kR 12)] [.t 4 (.v .bool)] ir_Zab (a,b,())
theorem m_Zab_eq(nf:Nat)(a:FComp)(b:FComp):m_Zab nf a b=(br (!(a.outer==b.outer)) (some false) (br (!(a.outerGens==b.outerGens)) (some false) (br (!(a.tag==b.tag)) (some false) (cb (m_Zaf nf a.gens b.gens) fun r24=>br (!r24) (some false) (cb (m_Zak nf nf (Tm.h a.whr) (Tm.h b.whr)) fun r30=>br (!r30) (some false) (cb (m_Zal nf nf a.cols b.cols) fun r36=>br (!r36) (some false) (some true))))))):=by kernel_rfl
noncomputable def e_Zab(nf:Nat):XE:=eF 105 [.v (kR 12),.v (kR 12)] [.v .bool] (fun t=>m_Zab nf t.1 t.2.1)
theorem o_Zab(nf:Nat):conOK Tryz.prog 105 (e_Zab nf).con:=by
 have ih:XT.ok Tryz.prog (T_Zab nf):=by exact⟨o_Zaf nf,o_Zak nf,o_Zal nf,trivial⟩
 refine eF_ok fun t x h=> ?_
 obtain⟨a,b,_⟩:=t
 exact runF_ok (N:=38) ih Tryz.func105 (by kernel_rfl) rfl h
def c31_Zac:C:=.sq (.rg [.mv 4 (.b true)]) .rt
def c15_Zac:C:=.sq (.sq (.rg [.mv 11 T5,.mv 12 T0,.ln 13 false T12,.bi 14 .lss T11 T13]) (.cd T14 .skip (.ex 0))) (.sq (.bk 1 (.sq (.dr [] [.mv 17 T0,.mv 18 T5,.ia 19 T17 T18 (kR 12),.ld 20 T19 (kR 12),.mv 21 T1,.mv 22 T5,.ia 23 T21 T22 (kR 12),.ld 24 T23 (kR 12)] [.cv (some 25) 105 [(T20,.v (kR 12)),(T24,.v (kR 12))],.un 26 .not T25]) (.cd T26 (.sq (.rg [.mv 4 (.b false)]) .rt) .skip))) (.rg [.mv 15 T5,.bi 16 .add T15 (.i 1),.mv 5 T16]))
def ir_Zac:C:=.sq (.rg [.mv 4 (.b false)]) (.sq (.sq (.rg [.mv 6 T0,.ln 7 false T6,.mv 8 T1,.ln 9 false T8,.bi 10 .neq T7 T9]) (.cd T10 (.sq (.rg [.mv 4 (.b false)]) .rt) .skip)) (.sq (.sq (.rg [.mv 5 (.i 0)]) (.bk 0 (.lk [0,1,5] [] c15_Zac))) c31_Zac))
noncomputable abbrev T_Zac(nf:Nat):XT:=[e_Zab nf]
noncomputable def m_Zac(nf:Nat)(a:List FComp)(b:List FComp):Option (Bool):=runF (T_Zac nf) nf [.v (kL (kR 12)),.v (kL (kR 12))] [.t 4 (.v .bool)] ir_Zac (a,b,())
noncomputable def X_Zac{R:Type}(nf:Nat):C->Env->(Xt->Env->Option R)->Option R:=xc (R:=R) (T_Zac nf).S nf
noncomputable def l14_Zac(nf:Nat)(m14:Nat)(a:List FComp)(b:List FComp)(x5_14:Int):Option (Bool):=xit [0,1,5] [] (X_Zac nf c15_Zac) (qB 0 (qS (X_Zac nf c31_Zac) (KF [.t 4 (.v .bool)]))) m14 ⟨[(0,.v (kL (kR 12)) a),(1,.v (kL (kR 12)) b),(5,.v kI x5_14)],[]⟩
theorem l14_Zac_eq(nf:Nat)(m14:Nat)(a:List FComp)(b:List FComp)(x5_14:Int):l14_Zac nf (m14+1) a b x5_14=(br (decide (x5_14<(List.length a:Int))) (gg (0<=x5_14∧x5_14<(List.length a:Int))<|gg (0<=x5_14∧x5_14<(List.length b:Int))<|cb (m_Zab nf (gt a x5_14 FComp.zero) (gt b x5_14 FComp.zero)) fun r25=>br (!r25) (some false) (mark (l14_Zac nf m14 a b (w64 (x5_14+(1:Int)))))) (some true)):=by kernel_rfl
theorem m_Zac_eq(nf:Nat)(a:List FComp)(b:List FComp):m_Zac nf a b=(br (!((List.length a:Int)==(List.length b:Int))) (some false) (mark (l14_Zac nf nf a b (0:Int)))):=by kernel_rfl
noncomputable def e_Zac(nf:Nat):XE:=eF 62 [.v (kL (kR 12)),.v (kL (kR 12))] [.v .bool] (fun t=>m_Zac nf t.1 t.2.1)
theorem o_Zac(nf:Nat):conOK Tryz.prog 62 (e_Zac nf).con:=by
 have ih:XT.ok Tryz.prog (T_Zac nf):=by exact⟨o_Zab nf,trivial⟩
 refine eF_ok fun t x h=> ?_
 obtain⟨a,b,_⟩:=t
 exact runF_ok (N:=27) ih Tryz.func62 (by kernel_rfl) rfl h
def ir_Zad:C:=.sq (.rg [.bx 2 T0 (kR 13),.bx 3 T1 (kR 13),.mv 4 (.b false)]) (.sq (.sq (.rg [.fa 5 T2 13 0 0,.ld 6 T5 (kL kS),.fa 7 T3 13 0 0,.ld 8 T7 (kL kS),.cv (some 9) 61 [(T6,.v (kL kS)),(T8,.v (kL kS))],.un 10 .not T9]) (.cd T10 (.sq (.rg [.mv 4 (.b false)]) .rt) .skip)) (.sq (.sq (.rg [.fa 11 T2 13 1 1,.ld 12 T11 (kL (kR 12)),.fa 13 T3 13 1 1,.ld 14 T13 (kL (kR 12)),.cv (some 15) 62 [(T12,.v (kL (kR 12))),(T14,.v (kL (kR 12)))],.un 16 .not T15]) (.cd T16 (.sq (.rg [.mv 4 (.b false)]) .rt) .skip)) (.sq (.rg [.mv 4 (.b true)]) .rt)))
noncomputable abbrev T_Zad(nf:Nat):XT:=[e_Zah nf,e_Zac nf]
noncomputable def m_Zad(nf:Nat)(a:FQuery)(b:FQuery):Option (Bool):=runF (T_Zad nf) nf [.v (kR 13),.v (kR 13)] [.t 4 (.v .bool)] ir_Zad (a,b,())
theorem m_Zad_eq(nf:Nat)(a:FQuery)(b:FQuery):m_Zad nf a b=(cb (m_Zah nf a.path b.path) fun r9=>br (!r9) (some false) (cb (m_Zac nf a.comps b.comps) fun r15=>br (!r15) (some false) (some true))):=by kernel_rfl
noncomputable def e_Zad(nf:Nat):XE:=eF 20 [.v (kR 13),.v (kR 13)] [.v .bool] (fun t=>m_Zad nf t.1 t.2.1)
theorem o_Zad(nf:Nat):conOK Tryz.prog 20 (e_Zad nf).con:=by
 have ih:XT.ok Tryz.prog (T_Zad nf):=by exact⟨o_Zah nf,o_Zac nf,trivial⟩
 refine eF_ok fun t x h=> ?_
 obtain⟨a,b,_⟩:=t
 exact runF_ok (N:=17) ih Tryz.func20 (by kernel_rfl) rfl h
end Go.Q
