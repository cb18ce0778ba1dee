import Derived.Test.YtjogpopbgmjlbaaGreatInC
import Derived.Test.YtjogpopbgmjlbaaGreatQe
import Derived.Test.YtjogpopbgmjlbaaGreatProg
import Derived.KernelRfl
set_option linter.unusedVariables false
set_option linter.unusedSimpArgs false
namespace Go.Q
open Go.Proofs
set_option maxRecDepth 20000
set_option maxHeartbeats 4000000
def c35_Zau:C:=.sq (.rg [.mv 27 T1,.mv 4 T27]) .rt
def c17_Zau:C:=.sq (.sq (.rg [.mv 12 T5,.mv 13 T0,.ln 14 false T13,.bi 15 .lss T12 T14]) (.cd T15 .skip (.ex 0))) (.sq (.bk 1 (.sq (.rg [.mv 18 T1,.mv 19 T0,.mv 20 T5,.ia 21 T19 T20 kS,.ld 22 T21 kS,.ln 23 true T22,.bi 24 .sub T18 T23,.mv 1 T24]) (.sq (.rg [.mv 25 T1,.bi 26 .lss T25 (.i 0)]) (.cd T26 (.sq (.rg [.mv 4 (.i (-1))]) .rt) .skip)))) (.rg [.mv 16 T5,.bi 17 .add T16 (.i 1),.mv 5 T17]))
def ir_Zau:C:=.sq (.rg [.mv 4 (.i 0)]) (.sq (.rg [.mv 6 T1,.mv 7 T0,.ln 8 false T7,.bi 9 .sub T6 T8,.mv 1 T9]) (.sq (.sq (.rg [.mv 10 T1,.bi 11 .lss T10 (.i 0)]) (.cd T11 (.sq (.rg [.mv 4 (.i (-1))]) .rt) .skip)) (.sq (.sq (.rg [.mv 5 (.i 0)]) (.bk 0 (.lk [0,1,5] [] c17_Zau))) c35_Zau)))
noncomputable abbrev T_Zau(nf:Nat):XT:=[]
noncomputable def m_Zau(nf:Nat)(a:List Str)(left:Int):Option (Int):=runF (T_Zau nf) nf [.v (kL kS),.v kI] [.t 4 (.v kI)] ir_Zau (a,left,())
noncomputable def X_Zau{R:Type}(nf:Nat):C->Env->(Xt->Env->Option R)->Option R:=xc (R:=R) (T_Zau nf).S nf
noncomputable def l16_Zau(nf:Nat)(m16:Nat)(a:List Str)(x1_16:Int)(x5_16:Int):Option (Int):=xit [0,1,5] [] (X_Zau nf c17_Zau) (qB 0 (qS (X_Zau nf c35_Zau) (KF [.t 4 (.v kI)]))) m16 ⟨[(0,.v (kL kS) a),(1,.v kI x1_16),(5,.v kI x5_16)],[]⟩
theorem l16_Zau_eq(nf:Nat)(m16:Nat)(a:List Str)(x1_16:Int)(x5_16:Int):l16_Zau nf (m16+1) a x1_16 x5_16=(br (decide (x5_16<(List.length a:Int))) (gg (0<=x5_16∧x5_16<(List.length a:Int))<|br (decide ((w64 (x1_16-(List.length (gt a x5_16 ([]:Str)):Int)))<(0:Int))) (some (-1:Int)) (mark (l16_Zau nf m16 a (w64 (x1_16-(List.length (gt a x5_16 ([]:Str)):Int))) (w64 (x5_16+(1:Int)))))) (some x1_16)):=by kernel_rfl
theorem m_Zau_eq(nf:Nat)(a:List Str)(left:Int):m_Zau nf a left=(br (decide ((w64 (left-(List.length a:Int)))<(0:Int))) (some (-1:Int)) (mark (l16_Zau nf nf a (w64 (left-(List.length a:Int))) (0:Int)))):=by kernel_rfl
noncomputable def e_Zau(nf:Nat):XE:=eF 29 [.v (kL kS),.v kI] [.v kI] (fun t=>m_Zau nf t.1 t.2.1)
theorem o_Zau(nf:Nat):conOK Tryz.prog 29 (e_Zau nf).con:=by
 have ih:XT.ok Tryz.prog (T_Zau nf):=by exact trivial
 refine eF_ok fun t x h=> ?_
 obtain⟨a,left,_⟩:=t
 exact runF_ok (N:=28) ih Tryz.func29 (by kernel_rfl) rfl h
def c35_ZaA:C:=.sq (.rg [.mv 26 T1,.mv 4 T26]) .rt
def c17_ZaA:C:=.sq (.sq (.rg [.mv 12 T5,.mv 13 T0,.ln 14 false T13,.bi 15 .lss T12 T14]) (.cd T15 .skip (.ex 0))) (.sq (.bk 1 (.sq (.rg [.mv 18 T0,.mv 19 T5,.ia 20 T18 T19 (kR 0),.ld 21 T20 (kR 0),.mv 22 T1,.cv (some 23) 28 [(T21,.v (kR 0)),(T22,.v kI)],.mv 1 T23]) (.sq (.rg [.mv 24 T1,.bi 25 .lss T24 (.i 0)]) (.cd T25 (.sq (.rg [.mv 4 (.i (-1))]) .rt) .skip)))) (.rg [.mv 16 T5,.bi 17 .add T16 (.i 1),.mv 5 T17]))
def ir_ZaA:C:=.sq (.rg [.mv 4 (.i 0)]) (.sq (.rg [.mv 6 T1,.mv 7 T0,.ln 8 false T7,.bi 9 .sub T6 T8,.mv 1 T9]) (.sq (.sq (.rg [.mv 10 T1,.bi 11 .lss T10 (.i 0)]) (.cd T11 (.sq (.rg [.mv 4 (.i (-1))]) .rt) .skip)) (.sq (.sq (.rg [.mv 5 (.i 0)]) (.bk 0 (.lk [0,1,5] [] c17_ZaA))) c35_ZaA)))
def ir_Zaz:C:=.sq (.rg [.bx 2 T0 (kR 0),.mv 4 (.i 0)]) (.sq (.rg [.fa 5 T2 0 1 1,.ld 6 T5 (kL kS),.mv 7 T1,.cv (some 8) 29 [(T6,.v (kL kS)),(T7,.v kI)],.mv 1 T8]) (.sq (.sq (.rg [.mv 9 T1,.bi 10 .lss T9 (.i 0)]) (.cd T10 (.sq (.rg [.mv 4 (.i (-1))]) .rt) .skip)) (.sq (.rg [.fa 11 T2 0 2 2,.ld 12 T11 (kL (kR 0)),.mv 13 T1,.cv (some 14) 63 [(T12,.v (kL (kR 0))),(T13,.v kI)],.mv 1 T14]) (.sq (.sq (.rg [.mv 15 T1,.bi 16 .lss T15 (.i 0)]) (.cd T16 (.sq (.rg [.mv 4 (.i (-1))]) .rt) .skip)) (.sq (.rg [.mv 17 T1,.mv 4 T17]) .rt)))))
noncomputable def B_ZaA(nf:Nat):XT:=[e_Zau nf]
noncomputable def G_ZaA(nf:Nat):Nat->XT
 |0=>[]
 |kf+1=>[eF 63 [.v (kL (kR 0)),.v kI] [.v kI] (fun t=>(fun(a:List Ty) (left:Int)=>runF (G_ZaA nf kf++B_ZaA nf) nf [.v (kL (kR 0)),.v kI] [.t 4 (.v kI)] ir_ZaA (a,left,())) t.1 t.2.1),
  eF 28 [.v (kR 0),.v kI] [.v kI] (fun t=>(fun(a:Ty) (left:Int)=>runF (G_ZaA nf kf++B_ZaA nf) nf [.v (kR 0),.v kI] [.t 4 (.v kI)] ir_Zaz (a,left,())) t.1 t.2.1)]
noncomputable abbrev T_ZaA(nf kf:Nat):XT:=G_ZaA nf kf++B_ZaA nf
noncomputable abbrev T_Zaz(nf kf:Nat):XT:=G_ZaA nf kf++B_ZaA nf
noncomputable def m_ZaA(nf kf:Nat)(a:List Ty)(left:Int):Option (Int):=runF (T_ZaA nf kf) nf [.v (kL (kR 0)),.v kI] [.t 4 (.v kI)] ir_ZaA (a,left,())
noncomputable def X_ZaA{R:Type}(nf kf:Nat):C->Env->(Xt->Env->Option R)->Option R:=xc (R:=R) (T_ZaA nf kf).S nf
noncomputable def m_Zaz(nf kf:Nat)(a:Ty)(left:Int):Option (Int):=runF (T_Zaz nf kf) nf [.v (kR 0),.v kI] [.t 4 (.v kI)] ir_Zaz (a,left,())
noncomputable def l16_ZaA(nf kf:Nat)(m16:Nat)(a:List Ty)(x1_16:Int)(x5_16:Int):Option (Int):=xit [0,1,5] [] (X_ZaA nf kf c17_ZaA) (qB 0 (qS (X_ZaA nf kf c35_ZaA) (KF [.t 4 (.v kI)]))) m16 ⟨[(0,.v (kL (kR 0)) a),(1,.v kI x1_16),(5,.v kI x5_16)],[]⟩
theorem l16_ZaA_eq(nf kf:Nat)(m16:Nat)(a:List Ty)(x1_16:Int)(x5_16:Int):l16_ZaA nf (kf+1) (m16+1) a x1_16 x5_16=(br (decide (x5_16<(List.length a:Int))) (gg (0<=x5_16∧x5_16<(List.length a:Int))<|cb (m_Zaz nf kf (gt a x5_16 Ty.zero) x1_16) fun r23=>br (decide (r23<(0:Int))) (some (-1:Int)) (mark (l16_ZaA nf (kf+1) m16 a r23 (w64 (x5_16+(1:Int)))))) (some x1_16)):=by kernel_rfl
theorem m_ZaA_eq(nf kf:Nat)(a:List Ty)(left:Int):m_ZaA nf (kf+1) a left=(br (decide ((w64 (left-(List.length a:Int)))<(0:Int))) (some (-1:Int)) (mark (l16_ZaA nf (kf+1) nf a (w64 (left-(List.length a:Int))) (0:Int)))):=by kernel_rfl
theorem m_Zaz_eq(nf kf:Nat)(a:Ty)(left:Int):m_Zaz nf (kf+1) a left=(cb (m_Zau nf a.labels left) fun r8=>br (decide (r8<(0:Int))) (some (-1:Int)) (cb (m_ZaA nf kf a.args r8) fun r14=>br (decide (r14<(0:Int))) (some (-1:Int)) (some r14))):=by kernel_rfl
noncomputable def e_Zaz(nf:Nat):XE:=eF 28 [.v (kR 0),.v kI] [.v kI] (fun t=>m_Zaz nf nf t.1 t.2.1)
theorem gok_ZaA(nf:Nat):∀kf:Nat,XT.ok Tryz.prog (G_ZaA nf kf++B_ZaA nf)
 |0=>by exact⟨o_Zau nf,trivial⟩
 |kf+1=>by
  have ih:=gok_ZaA nf kf
  refine⟨?_,?_,(by exact⟨o_Zau nf,trivial⟩)⟩
  ·refine eF_ok fun t x h=> ?_
   obtain⟨a,left,_⟩:=t
   exact runF_ok (N:=27) ih Tryz.func63 (by kernel_rfl) rfl h
  ·refine eF_ok fun t x h=> ?_
   obtain⟨a,left,_⟩:=t
   exact runF_ok (N:=18) ih Tryz.func28 (by kernel_rfl) rfl h
theorem o_Zaz(nf:Nat):conOK Tryz.prog 28 (e_Zaz nf).con:=by
 have ih:=gok_ZaA nf nf
 refine eF_ok fun t x h=> ?_
 obtain⟨a,left,_⟩:=t
 exact runF_ok (N:=18) ih Tryz.func28 (by kernel_rfl) rfl h
def ir_Zav:C:=.sq (.rg [.bx 2 T0 (kR 4),.mv 4 (.i 0)]) (.sq (.rg [.mv 5 T1,.fa 6 T2 4 0 0,.ld 7 T6 kS,.ln 8 true T7,.bi 9 .sub T5 T8,.mv 1 T9]) (.sq (.sq (.rg [.mv 10 T1,.bi 11 .lss T10 (.i 0)]) (.cd T11 (.sq (.rg [.mv 4 (.i (-1))]) .rt) .skip)) (.sq (.rg [.fa 12 T2 4 1 1,.ld 13 T12 (kR 0),.mv 14 T1,.cv (some 15) 28 [(T13,.v (kR 0)),(T14,.v kI)],.mv 1 T15]) (.sq (.sq (.rg [.mv 16 T1,.bi 17 .lss T16 (.i 0)]) (.cd T17 (.sq (.rg [.mv 4 (.i (-1))]) .rt) .skip)) (.sq (.rg [.mv 18 T1,.mv 4 T18]) .rt)))))
noncomputable abbrev T_Zav(nf:Nat):XT:=[e_Zaz nf]
noncomputable def m_Zav(nf:Nat)(a:TDecl)(left:Int):Option (Int):=runF (T_Zav nf) nf [.v (kR 4),.v kI] [.t 4 (.v kI)] ir_Zav (a,left,())
theorem m_Zav_eq(nf:Nat)(a:TDecl)(left:Int):m_Zav nf a left=(br (decide ((w64 (left-(List.length a.name:Int)))<(0:Int))) (some (-1:Int)) (cb (m_Zaz nf nf (Ty.h a.row) (w64 (left-(List.length a.name:Int)))) fun r15=>br (decide (r15<(0:Int))) (some (-1:Int)) (some r15))):=by kernel_rfl
noncomputable def e_Zav(nf:Nat):XE:=eF 62 [.v (kR 4),.v kI] [.v kI] (fun t=>m_Zav nf t.1 t.2.1)
theorem o_Zav(nf:Nat):conOK Tryz.prog 62 (e_Zav nf).con:=by
 have ih:XT.ok Tryz.prog (T_Zav nf):=by exact⟨o_Zaz nf,trivial⟩
 refine eF_ok fun t x h=> ?_
 obtain⟨a,left,_⟩:=t
 exact runF_ok (N:=19) ih Tryz.func62 (by kernel_rfl) rfl h
def c35_Zaw:C:=.sq (.rg [.mv 26 T1,.mv 4 T26]) .rt
def c17_Zaw:C:=.sq (.sq (.rg [.mv 12 T5,.mv 13 T0,.ln 14 false T13,.bi 15 .lss T12 T14]) (.cd T15 .skip (.ex 0))) (.sq (.bk 1 (.sq (.rg [.mv 18 T0,.mv 19 T5,.ia 20 T18 T19 (kR 4),.ld 21 T20 (kR 4),.mv 22 T1,.cv (some 23) 62 [(T21,.v (kR 4)),(T22,.v kI)],.mv 1 T23]) (.sq (.rg [.mv 24 T1,.bi 25 .lss T24 (.i 0)]) (.cd T25 (.sq (.rg [.mv 4 (.i (-1))]) .rt) .skip)))) (.rg [.mv 16 T5,.bi 17 .add T16 (.i 1),.mv 5 T17]))
def ir_Zaw:C:=.sq (.rg [.mv 4 (.i 0)]) (.sq (.rg [.mv 6 T1,.mv 7 T0,.ln 8 false T7,.bi 9 .sub T6 T8,.mv 1 T9]) (.sq (.sq (.rg [.mv 10 T1,.bi 11 .lss T10 (.i 0)]) (.cd T11 (.sq (.rg [.mv 4 (.i (-1))]) .rt) .skip)) (.sq (.sq (.rg [.mv 5 (.i 0)]) (.bk 0 (.lk [0,1,5] [] c17_Zaw))) c35_Zaw)))
noncomputable abbrev T_Zaw(nf:Nat):XT:=[e_Zav nf]
noncomputable def m_Zaw(nf:Nat)(a:List TDecl)(left:Int):Option (Int):=runF (T_Zaw nf) nf [.v (kL (kR 4)),.v kI] [.t 4 (.v kI)] ir_Zaw (a,left,())
noncomputable def X_Zaw{R:Type}(nf:Nat):C->Env->(Xt->Env->Option R)->Option R:=xc (R:=R) (T_Zaw nf).S nf
noncomputable def l16_Zaw(nf:Nat)(m16:Nat)(a:List TDecl)(x1_16:Int)(x5_16:Int):Option (Int):=xit [0,1,5] [] (X_Zaw nf c17_Zaw) (qB 0 (qS (X_Zaw nf c35_Zaw) (KF [.t 4 (.v kI)]))) m16 ⟨[(0,.v (kL (kR 4)) a),(1,.v kI x1_16),(5,.v kI x5_16)],[]⟩
theorem l16_Zaw_eq(nf:Nat)(m16:Nat)(a:List TDecl)(x1_16:Int)(x5_16:Int):l16_Zaw nf (m16+1) a x1_16 x5_16=(br (decide (x5_16<(List.length a:Int))) (gg (0<=x5_16∧x5_16<(List.length a:Int))<|cb (m_Zav nf (gt a x5_16 TDecl.zero) x1_16) fun r23=>br (decide (r23<(0:Int))) (some (-1:Int)) (mark (l16_Zaw nf m16 a r23 (w64 (x5_16+(1:Int)))))) (some x1_16)):=by kernel_rfl
theorem m_Zaw_eq(nf:Nat)(a:List TDecl)(left:Int):m_Zaw nf a left=(br (decide ((w64 (left-(List.length a:Int)))<(0:Int))) (some (-1:Int)) (mark (l16_Zaw nf nf a (w64 (left-(List.length a:Int))) (0:Int)))):=by kernel_rfl
noncomputable def e_Zaw(nf:Nat):XE:=eF 27 [.v (kL (kR 4)),.v kI] [.v kI] (fun t=>m_Zaw nf t.1 t.2.1)
theorem o_Zaw(nf:Nat):conOK Tryz.prog 27 (e_Zaw nf).con:=by
 have ih:XT.ok Tryz.prog (T_Zaw nf):=by exact⟨o_Zav nf,trivial⟩
 refine eF_ok fun t x h=> ?_
 obtain⟨a,left,_⟩:=t
 exact runF_ok (N:=27) ih Tryz.func27 (by kernel_rfl) rfl h
def ir_Zat:C:=.sq (.rg [.bx 2 T0 (kR 5),.mv 4 (.i 0)]) (.sq (.rg [.fa 5 T2 5 0 0,.ld 6 T5 (kL (kR 4)),.mv 7 T1,.cv (some 8) 27 [(T6,.v (kL (kR 4))),(T7,.v kI)],.mv 1 T8]) (.sq (.sq (.rg [.mv 9 T1,.bi 10 .lss T9 (.i 0)]) (.cd T10 (.sq (.rg [.mv 4 (.i (-1))]) .rt) .skip)) (.sq (.rg [.mv 11 T1,.mv 4 T11]) .rt)))
noncomputable abbrev T_Zat(nf:Nat):XT:=[e_Zaw nf]
noncomputable def m_Zat(nf:Nat)(a:Schema)(left:Int):Option (Int):=runF (T_Zat nf) nf [.v (kR 5),.v kI] [.t 4 (.v kI)] ir_Zat (a,left,())
theorem m_Zat_eq(nf:Nat)(a:Schema)(left:Int):m_Zat nf a left=(cb (m_Zaw nf a.tables left) fun r8=>br (decide (r8<(0:Int))) (some (-1:Int)) (some r8)):=by kernel_rfl
noncomputable def e_Zat(nf:Nat):XE:=eF 6 [.v (kR 5),.v kI] [.v kI] (fun t=>m_Zat nf t.1 t.2.1)
theorem o_Zat(nf:Nat):conOK Tryz.prog 6 (e_Zat nf).con:=by
 have ih:XT.ok Tryz.prog (T_Zat nf):=by exact⟨o_Zaw nf,trivial⟩
 refine eF_ok fun t x h=> ?_
 obtain⟨a,left,_⟩:=t
 exact runF_ok (N:=12) ih Tryz.func6 (by kernel_rfl) rfl h
def c35_Zay:C:=.sq (.rg [.mv 26 T1,.mv 4 T26]) .rt
def c17_Zay:C:=.sq (.sq (.rg [.mv 12 T5,.mv 13 T0,.ln 14 false T13,.bi 15 .lss T12 T14]) (.cd T15 .skip (.ex 0))) (.sq (.bk 1 (.sq (.rg [.mv 18 T0,.mv 19 T5,.ia 20 T18 T19 (kR 2),.ld 21 T20 (kR 2),.mv 22 T1,.cv (some 23) 7 [(T21,.v (kR 2)),(T22,.v kI)],.mv 1 T23]) (.sq (.rg [.mv 24 T1,.bi 25 .lss T24 (.i 0)]) (.cd T25 (.sq (.rg [.mv 4 (.i (-1))]) .rt) .skip)))) (.rg [.mv 16 T5,.bi 17 .add T16 (.i 1),.mv 5 T17]))
def ir_Zay:C:=.sq (.rg [.mv 4 (.i 0)]) (.sq (.rg [.mv 6 T1,.mv 7 T0,.ln 8 false T7,.bi 9 .sub T6 T8,.mv 1 T9]) (.sq (.sq (.rg [.mv 10 T1,.bi 11 .lss T10 (.i 0)]) (.cd T11 (.sq (.rg [.mv 4 (.i (-1))]) .rt) .skip)) (.sq (.sq (.rg [.mv 5 (.i 0)]) (.bk 0 (.lk [0,1,5] [] c17_Zay))) c35_Zay)))
def ir_Zax:C:=.sq (.rg [.bx 2 T0 (kR 2),.mv 4 (.i 0)]) (.sq (.rg [.mv 5 T1,.fa 6 T2 2 1 1,.ld 7 T6 kS,.ln 8 true T7,.bi 9 .sub T5 T8,.mv 1 T9]) (.sq (.sq (.rg [.mv 10 T1,.bi 11 .lss T10 (.i 0)]) (.cd T11 (.sq (.rg [.mv 4 (.i (-1))]) .rt) .skip)) (.sq (.rg [.fa 12 T2 2 3 3,.ld 13 T12 (kR 0),.mv 14 T1,.cv (some 15) 28 [(T13,.v (kR 0)),(T14,.v kI)],.mv 1 T15]) (.sq (.sq (.rg [.mv 16 T1,.bi 17 .lss T16 (.i 0)]) (.cd T17 (.sq (.rg [.mv 4 (.i (-1))]) .rt) .skip)) (.sq (.rg [.fa 18 T2 2 4 6,.ld 19 T18 (kL kS),.mv 20 T1,.cv (some 21) 29 [(T19,.v (kL kS)),(T20,.v kI)],.mv 1 T21]) (.sq (.sq (.rg [.mv 22 T1,.bi 23 .lss T22 (.i 0)]) (.cd T23 (.sq (.rg [.mv 4 (.i (-1))]) .rt) .skip)) (.sq (.rg [.fa 24 T2 2 5 7,.ld 25 T24 (kL (kR 2)),.mv 26 T1,.cv (some 27) 30 [(T25,.v (kL (kR 2))),(T26,.v kI)],.mv 1 T27]) (.sq (.sq (.rg [.mv 28 T1,.bi 29 .lss T28 (.i 0)]) (.cd T29 (.sq (.rg [.mv 4 (.i (-1))]) .rt) .skip)) (.sq (.rg [.mv 30 T1,.mv 4 T30]) .rt)))))))))
noncomputable def B_Zay(nf:Nat):XT:=[e_Zaz nf,e_Zau nf]
noncomputable def G_Zay(nf:Nat):Nat->XT
 |0=>[]
 |kf+1=>[eF 30 [.v (kL (kR 2)),.v kI] [.v kI] (fun t=>(fun(a:List Tm) (left:Int)=>runF (G_Zay nf kf++B_Zay nf) nf [.v (kL (kR 2)),.v kI] [.t 4 (.v kI)] ir_Zay (a,left,())) t.1 t.2.1),
  eF 7 [.v (kR 2),.v kI] [.v kI] (fun t=>(fun(a:Tm) (left:Int)=>runF (G_Zay nf kf++B_Zay nf) nf [.v (kR 2),.v kI] [.t 4 (.v kI)] ir_Zax (a,left,())) t.1 t.2.1)]
noncomputable abbrev T_Zay(nf kf:Nat):XT:=G_Zay nf kf++B_Zay nf
noncomputable abbrev T_Zax(nf kf:Nat):XT:=G_Zay nf kf++B_Zay nf
noncomputable def m_Zay(nf kf:Nat)(a:List Tm)(left:Int):Option (Int):=runF (T_Zay nf kf) nf [.v (kL (kR 2)),.v kI] [.t 4 (.v kI)] ir_Zay (a,left,())
noncomputable def X_Zay{R:Type}(nf kf:Nat):C->Env->(Xt->Env->Option R)->Option R:=xc (R:=R) (T_Zay nf kf).S nf
noncomputable def m_Zax(nf kf:Nat)(a:Tm)(left:Int):Option (Int):=runF (T_Zax nf kf) nf [.v (kR 2),.v kI] [.t 4 (.v kI)] ir_Zax (a,left,())
noncomputable def l16_Zay(nf kf:Nat)(m16:Nat)(a:List Tm)(x1_16:Int)(x5_16:Int):Option (Int):=xit [0,1,5] [] (X_Zay nf kf c17_Zay) (qB 0 (qS (X_Zay nf kf c35_Zay) (KF [.t 4 (.v kI)]))) m16 ⟨[(0,.v (kL (kR 2)) a),(1,.v kI x1_16),(5,.v kI x5_16)],[]⟩
theorem l16_Zay_eq(nf kf:Nat)(m16:Nat)(a:List Tm)(x1_16:Int)(x5_16:Int):l16_Zay nf (kf+1) (m16+1) a x1_16 x5_16=(br (decide (x5_16<(List.length a:Int))) (gg (0<=x5_16∧x5_16<(List.length a:Int))<|cb (m_Zax nf kf (gt a x5_16 Tm.zero) x1_16) fun r23=>br (decide (r23<(0:Int))) (some (-1:Int)) (mark (l16_Zay nf (kf+1) m16 a r23 (w64 (x5_16+(1:Int)))))) (some x1_16)):=by kernel_rfl
theorem m_Zay_eq(nf kf:Nat)(a:List Tm)(left:Int):m_Zay nf (kf+1) a left=(br (decide ((w64 (left-(List.length a:Int)))<(0:Int))) (some (-1:Int)) (mark (l16_Zay nf (kf+1) nf a (w64 (left-(List.length a:Int))) (0:Int)))):=by kernel_rfl
theorem m_Zax_eq(nf kf:Nat)(a:Tm)(left:Int):m_Zax nf (kf+1) a left=(br (decide ((w64 (left-(List.length a.name:Int)))<(0:Int))) (some (-1:Int)) (cb (m_Zaz nf nf (Ty.h a.type) (w64 (left-(List.length a.name:Int)))) fun r15=>br (decide (r15<(0:Int))) (some (-1:Int)) (cb (m_Zau nf a.labels r15) fun r21=>br (decide (r21<(0:Int))) (some (-1:Int)) (cb (m_Zay nf kf a.args r21) fun r27=>br (decide (r27<(0:Int))) (some (-1:Int)) (some r27))))):=by kernel_rfl
noncomputable def e_Zax(nf:Nat):XE:=eF 7 [.v (kR 2),.v kI] [.v kI] (fun t=>m_Zax nf nf t.1 t.2.1)
theorem gok_Zay(nf:Nat):∀kf:Nat,XT.ok Tryz.prog (G_Zay nf kf++B_Zay nf)
 |0=>by exact⟨o_Zaz nf,o_Zau nf,trivial⟩
 |kf+1=>by
  have ih:=gok_Zay nf kf
  refine⟨?_,?_,(by exact⟨o_Zaz nf,o_Zau nf,trivial⟩)⟩
  ·refine eF_ok fun t x h=> ?_
   obtain⟨a,left,_⟩:=t
   exact runF_ok (N:=27) ih Tryz.func30 (by kernel_rfl) rfl h
  ·refine eF_ok fun t x h=> ?_
   obtain⟨a,left,_⟩:=t
   exact runF_ok (N:=31) ih Tryz.func7 (by kernel_rfl) rfl h
theorem o_Zax(nf:Nat):conOK Tryz.prog 7 (e_Zax nf).con:=by
 have ih:=gok_Zay nf nf
 refine eF_ok fun t x h=> ?_
 obtain⟨a,left,_⟩:=t
 exact runF_ok (N:=31) ih Tryz.func7 (by kernel_rfl) rfl h
def c19_ZaE:C:=.sq (.rg [.mv 21 T3,.mv 2 T21]) .rt
def c9_ZaE:C:=.sq (.sq (.rg [.mv 8 T4,.mv 9 T0,.ln 10 false T9,.bi 11 .lss T8 T10]) (.cd T11 .skip (.ex 0))) (.sq (.bk 1 (.rg [.mv 14 T3,.mv 15 T4,.mv 16 T0,.mv 17 T4,.ia 18 T16 T17 kS,.ld 19 T18 kS,.ia 20 T14 T15 kS,.st T20 T19 kS])) (.rg [.mv 12 T4,.bi 13 .add T12 (.i 1),.mv 4 T13]))
def ir_ZaE:C:=.sq (.rg [.mv 2 (.nl kS)]) (.sq (.rg [.mv 5 T0,.ln 6 false T5,.mk 7 true kS T6,.mv 3 T7]) (.sq (.sq (.rg [.mv 4 (.i 0)]) (.bk 0 (.lk [0,3,4] [[7]] c9_ZaE))) c19_ZaE))
noncomputable abbrev T_ZaE(nf:Nat):XT:=[]
noncomputable def m_ZaE(nf:Nat)(a:List Str):Option (List Str):=runF (T_ZaE nf) nf [.v (kL kS)] [.t 2 (.o (kL kS))] ir_ZaE (a,())
noncomputable def X_ZaE{R:Type}(nf:Nat):C->Env->(Xt->Env->Option R)->Option R:=xc (R:=R) (T_ZaE nf).S nf
noncomputable def l8_ZaE(nf:Nat)(m8:Nat)(a:List Str)(x4_8:Int)(y7_8:List Str):Option (List Str):=xit [0,3,4] [[7]] (X_ZaE nf c9_ZaE) (qB 0 (qS (X_ZaE nf c19_ZaE) (KF [.t 2 (.o (kL kS))]))) m8 ⟨[(0,.v (kL kS) a),(3,.sl [7]),(4,.v kI x4_8)],[([7],.row true false kS y7_8)]⟩
theorem l8_ZaE_eq(nf:Nat)(m8:Nat)(a:List Str)(x4_8:Int)(y7_8:List Str):l8_ZaE nf (m8+1) a x4_8 y7_8=(br (decide (x4_8<(List.length a:Int))) (gg (0<=x4_8∧x4_8<(List.length a:Int))<|gg (0<=x4_8∧x4_8<(List.length y7_8:Int))<|gg (0<=x4_8∧x4_8<(List.length y7_8:Int))<|mark (l8_ZaE nf m8 a (w64 (x4_8+(1:Int))) (List.set y7_8 (Int.toNat x4_8) (gt a x4_8 ([]:Str))))) (some y7_8)):=by kernel_rfl
theorem m_ZaE_eq(nf:Nat)(a:List Str):m_ZaE nf a=(gg (0<=(List.length a:Int)∧(List.length a:Int)<=2147483647)<|mark (l8_ZaE nf nf a (0:Int) (List.replicate (Int.toNat (List.length a:Int)) ([]:Str)))):=by kernel_rfl
noncomputable def e_ZaE(nf:Nat):XE:=eF 34 [.v (kL kS)] [.o (kL kS)] (fun t=>m_ZaE nf t.1)
theorem o_ZaE(nf:Nat):conOK Tryz.prog 34 (e_ZaE nf).con:=by
 have ih:XT.ok Tryz.prog (T_ZaE nf):=by exact trivial
 refine eF_ok fun t x h=> ?_
 obtain⟨a,_⟩:=t
 exact runF_ok (N:=22) ih Tryz.func34 (by kernel_rfl) rfl h
def c19_ZaK:C:=.sq (.rg [.mv 22 T3,.mv 2 T22]) .rt
def c9_ZaK:C:=.sq (.sq (.rg [.mv 8 T4,.mv 9 T0,.ln 10 false T9,.bi 11 .lss T8 T10]) (.cd T11 .skip (.ex 0))) (.sq (.bk 1 (.rg [.mv 14 T3,.mv 15 T4,.mv 16 T0,.mv 17 T4,.ia 18 T16 T17 (kR 0),.ld 19 T18 (kR 0),.ca (some 20) 33 [(T19,.v (kR 0))],.ia 21 T14 T15 (kR 0),.st T21 T20 (kR 0)])) (.rg [.mv 12 T4,.bi 13 .add T12 (.i 1),.mv 4 T13]))
def ir_ZaK:C:=.sq (.rg [.mv 2 (.nl (kR 0))]) (.sq (.rg [.mv 5 T0,.ln 6 false T5,.mk 7 true (kR 0) T6,.mv 3 T7]) (.sq (.sq (.rg [.mv 4 (.i 0)]) (.bk 0 (.lk [0,3,4] [[7]] c9_ZaK))) c19_ZaK))
def ir_ZaJ:C:=.sq (.rg [.bx 1 T0 (kR 0),.al 2 (kR 0)]) (.sq (.rg [.al 3 (kR 0)]) (.sq (.rg [.fa 4 T1 0 0 0,.ld 5 T4 kI,.fa 6 T3 0 0 0,.st T6 T5 kI]) (.sq (.rg [.fa 7 T1 0 1 1,.ld 8 T7 (kL kS),.ca (some 9) 34 [(T8,.v (kL kS))],.fa 10 T3 0 1 1,.st T10 T9 (kL kS)]) (.sq (.rg [.fa 11 T1 0 2 2,.ld 12 T11 (kL (kR 0)),.ca (some 13) 67 [(T12,.v (kL (kR 0)))],.fa 14 T3 0 2 2,.st T14 T13 (kL (kR 0))]) (.sq (.rg [.ld 15 T3 (kR 0),.st T2 T15 (kR 0)]) .rt)))))
noncomputable def B_ZaK(nf:Nat):XT:=[e_ZaE nf]
noncomputable def G_ZaK(nf:Nat):Nat->XT
 |0=>[]
 |kf+1=>[eF 67 [.v (kL (kR 0))] [.o (kL (kR 0))] (fun t=>(fun(a:List Ty)=>runF (G_ZaK nf kf++B_ZaK nf) nf [.v (kL (kR 0))] [.t 2 (.o (kL (kR 0)))] ir_ZaK (a,())) t.1),
  eF 33 [.v (kR 0)] [.o (kR 0)] (fun t=>(fun(a:Ty)=>runF (G_ZaK nf kf++B_ZaK nf) nf [.v (kR 0)] [.c 2 (.o (kR 0))] ir_ZaJ (a,())) t.1)]
noncomputable abbrev T_ZaK(nf kf:Nat):XT:=G_ZaK nf kf++B_ZaK nf
noncomputable abbrev T_ZaJ(nf kf:Nat):XT:=G_ZaK nf kf++B_ZaK nf
noncomputable def m_ZaK(nf kf:Nat)(a:List Ty):Option (List Ty):=runF (T_ZaK nf kf) nf [.v (kL (kR 0))] [.t 2 (.o (kL (kR 0)))] ir_ZaK (a,())
noncomputable def X_ZaK{R:Type}(nf kf:Nat):C->Env->(Xt->Env->Option R)->Option R:=xc (R:=R) (T_ZaK nf kf).S nf
noncomputable def m_ZaJ(nf kf:Nat)(a:Ty):Option (Ty):=runF (T_ZaJ nf kf) nf [.v (kR 0)] [.c 2 (.o (kR 0))] ir_ZaJ (a,())
noncomputable def l8_ZaK(nf kf:Nat)(m8:Nat)(a:List Ty)(x4_8:Int)(y7_8:List Ty):Option (List Ty):=xit [0,3,4] [[7]] (X_ZaK nf kf c9_ZaK) (qB 0 (qS (X_ZaK nf kf c19_ZaK) (KF [.t 2 (.o (kL (kR 0)))]))) m8 ⟨[(0,.v (kL (kR 0)) a),(3,.sl [7]),(4,.v kI x4_8)],[([7],.row true false (kR 0) y7_8)]⟩
theorem l8_ZaK_eq(nf kf:Nat)(m8:Nat)(a:List Ty)(x4_8:Int)(y7_8:List Ty):l8_ZaK nf (kf+1) (m8+1) a x4_8 y7_8=(br (decide (x4_8<(List.length a:Int))) (gg (0<=x4_8∧x4_8<(List.length a:Int))<|cb (m_ZaJ nf kf (gt a x4_8 Ty.zero)) fun r20=>gg (0<=x4_8∧x4_8<(List.length y7_8:Int))<|gg (0<=x4_8∧x4_8<(List.length y7_8:Int))<|mark (l8_ZaK nf (kf+1) m8 a (w64 (x4_8+(1:Int))) (List.set y7_8 (Int.toNat x4_8) (Ty.h r20)))) (some y7_8)):=by kernel_rfl
theorem m_ZaK_eq(nf kf:Nat)(a:List Ty):m_ZaK nf (kf+1) a=(gg (0<=(List.length a:Int)∧(List.length a:Int)<=2147483647)<|mark (l8_ZaK nf (kf+1) nf a (0:Int) (List.replicate (Int.toNat (List.length a:Int)) Ty.zero))):=by kernel_rfl
theorem m_ZaJ_eq(nf kf:Nat)(a:Ty):m_ZaJ nf (kf+1) a=(cb (m_ZaE nf a.labels) fun r9=>cb (m_ZaK nf kf a.args) fun r13=>some (Ty.mk a.kind r9 r13)):=by kernel_rfl
noncomputable def e_ZaJ(nf:Nat):XE:=eF 33 [.v (kR 0)] [.o (kR 0)] (fun t=>m_ZaJ nf nf t.1)
theorem gok_ZaK(nf:Nat):∀kf:Nat,XT.ok Tryz.prog (G_ZaK nf kf++B_ZaK nf)
 |0=>by exact⟨o_ZaE nf,trivial⟩
 |kf+1=>by
  have ih:=gok_ZaK nf kf
  refine⟨?_,?_,(by exact⟨o_ZaE nf,trivial⟩)⟩
  ·refine eF_ok fun t x h=> ?_
   obtain⟨a,_⟩:=t
   exact runF_ok (N:=23) ih Tryz.func67 (by kernel_rfl) rfl h
  ·refine eF_ok fun t x h=> ?_
   obtain⟨a,_⟩:=t
   exact runF_ok (N:=16) ih Tryz.func33 (by kernel_rfl) rfl h
theorem o_ZaJ(nf:Nat):conOK Tryz.prog 33 (e_ZaJ nf).con:=by
 have ih:=gok_ZaK nf nf
 refine eF_ok fun t x h=> ?_
 obtain⟨a,_⟩:=t
 exact runF_ok (N:=16) ih Tryz.func33 (by kernel_rfl) rfl h
def ir_ZaF:C:=.sq (.rg [.bx 1 T0 (kR 4),.al 2 (kR 4)]) (.sq (.rg [.al 3 (kR 4)]) (.sq (.rg [.fa 4 T1 4 0 0,.ld 5 T4 kS,.fa 6 T3 4 0 0,.st T6 T5 kS]) (.sq (.rg [.fa 7 T1 4 1 1,.ld 8 T7 (kR 0),.ca (some 9) 33 [(T8,.v (kR 0))],.fa 10 T3 4 1 1,.st T10 T9 (kR 0)]) (.sq (.rg [.ld 11 T3 (kR 4),.st T2 T11 (kR 4)]) .rt))))
noncomputable abbrev T_ZaF(nf:Nat):XT:=[e_ZaJ nf]
noncomputable def m_ZaF(nf:Nat)(a:TDecl):Option (TDecl):=runF (T_ZaF nf) nf [.v (kR 4)] [.c 2 (.o (kR 4))] ir_ZaF (a,())
theorem m_ZaF_eq(nf:Nat)(a:TDecl):m_ZaF nf a=(cb (m_ZaJ nf nf (Ty.h a.row)) fun r9=>some (TDecl.mk a.name (Ty.h r9))):=by kernel_rfl
noncomputable def e_ZaF(nf:Nat):XE:=eF 66 [.v (kR 4)] [.o (kR 4)] (fun t=>m_ZaF nf t.1)
theorem o_ZaF(nf:Nat):conOK Tryz.prog 66 (e_ZaF nf).con:=by
 have ih:XT.ok Tryz.prog (T_ZaF nf):=by exact⟨o_ZaJ nf,trivial⟩
 refine eF_ok fun t x h=> ?_
 obtain⟨a,_⟩:=t
 exact runF_ok (N:=12) ih Tryz.func66 (by kernel_rfl) rfl h
def c19_ZaG:C:=.sq (.rg [.mv 22 T3,.mv 2 T22]) .rt
def c9_ZaG:C:=.sq (.sq (.rg [.mv 8 T4,.mv 9 T0,.ln 10 false T9,.bi 11 .lss T8 T10]) (.cd T11 .skip (.ex 0))) (.sq (.bk 1 (.rg [.mv 14 T3,.mv 15 T4,.mv 16 T0,.mv 17 T4,.ia 18 T16 T17 (kR 4),.ld 19 T18 (kR 4),.ca (some 20) 66 [(T19,.v (kR 4))],.ia 21 T14 T15 (kR 4),.st T21 T20 (kR 4)])) (.rg [.mv 12 T4,.bi 13 .add T12 (.i 1),.mv 4 T13]))
def ir_ZaG:C:=.sq (.rg [.mv 2 (.nl (kR 4))]) (.sq (.rg [.mv 5 T0,.ln 6 false T5,.mk 7 true (kR 4) T6,.mv 3 T7]) (.sq (.sq (.rg [.mv 4 (.i 0)]) (.bk 0 (.lk [0,3,4] [[7]] c9_ZaG))) c19_ZaG))
noncomputable abbrev T_ZaG(nf:Nat):XT:=[e_ZaF nf]
noncomputable def m_ZaG(nf:Nat)(a:List TDecl):Option (List TDecl):=runF (T_ZaG nf) nf [.v (kL (kR 4))] [.t 2 (.o (kL (kR 4)))] ir_ZaG (a,())
noncomputable def X_ZaG{R:Type}(nf:Nat):C->Env->(Xt->Env->Option R)->Option R:=xc (R:=R) (T_ZaG nf).S nf
noncomputable def l8_ZaG(nf:Nat)(m8:Nat)(a:List TDecl)(x4_8:Int)(y7_8:List TDecl):Option (List TDecl):=xit [0,3,4] [[7]] (X_ZaG nf c9_ZaG) (qB 0 (qS (X_ZaG nf c19_ZaG) (KF [.t 2 (.o (kL (kR 4)))]))) m8 ⟨[(0,.v (kL (kR 4)) a),(3,.sl [7]),(4,.v kI x4_8)],[([7],.row true false (kR 4) y7_8)]⟩
theorem l8_ZaG_eq(nf:Nat)(m8:Nat)(a:List TDecl)(x4_8:Int)(y7_8:List TDecl):l8_ZaG nf (m8+1) a x4_8 y7_8=(br (decide (x4_8<(List.length a:Int))) (gg (0<=x4_8∧x4_8<(List.length a:Int))<|cb (m_ZaF nf (gt a x4_8 TDecl.zero)) fun r20=>gg (0<=x4_8∧x4_8<(List.length y7_8:Int))<|gg (0<=x4_8∧x4_8<(List.length y7_8:Int))<|mark (l8_ZaG nf m8 a (w64 (x4_8+(1:Int))) (List.set y7_8 (Int.toNat x4_8) (TDecl.h r20)))) (some y7_8)):=by kernel_rfl
theorem m_ZaG_eq(nf:Nat)(a:List TDecl):m_ZaG nf a=(gg (0<=(List.length a:Int)∧(List.length a:Int)<=2147483647)<|mark (l8_ZaG nf nf a (0:Int) (List.replicate (Int.toNat (List.length a:Int)) TDecl.zero))):=by kernel_rfl
noncomputable def e_ZaG(nf:Nat):XE:=eF 32 [.v (kL (kR 4))] [.o (kL (kR 4))] (fun t=>m_ZaG nf t.1)
theorem o_ZaG(nf:Nat):conOK Tryz.prog 32 (e_ZaG nf).con:=by
 have ih:XT.ok Tryz.prog (T_ZaG nf):=by exact⟨o_ZaF nf,trivial⟩
 refine eF_ok fun t x h=> ?_
 obtain⟨a,_⟩:=t
 exact runF_ok (N:=23) ih Tryz.func32 (by kernel_rfl) rfl h
def ir_ZaD:C:=.sq (.rg [.bx 1 T0 (kR 5),.al 2 (kR 5)]) (.sq (.rg [.al 3 (kR 5)]) (.sq (.rg [.fa 4 T1 5 0 0,.ld 5 T4 (kL (kR 4)),.ca (some 6) 32 [(T5,.v (kL (kR 4)))],.fa 7 T3 5 0 0,.st T7 T6 (kL (kR 4))]) (.sq (.rg [.ld 8 T3 (kR 5),.st T2 T8 (kR 5)]) .rt)))
noncomputable abbrev T_ZaD(nf:Nat):XT:=[e_ZaG nf]
noncomputable def m_ZaD(nf:Nat)(a:Schema):Option (Schema):=runF (T_ZaD nf) nf [.v (kR 5)] [.c 2 (.o (kR 5))] ir_ZaD (a,())
theorem m_ZaD_eq(nf:Nat)(a:Schema):m_ZaD nf a=(cb (m_ZaG nf a.tables) fun r6=>some (Schema.mk r6)):=by kernel_rfl
noncomputable def e_ZaD(nf:Nat):XE:=eF 9 [.v (kR 5)] [.o (kR 5)] (fun t=>m_ZaD nf t.1)
theorem o_ZaD(nf:Nat):conOK Tryz.prog 9 (e_ZaD nf).con:=by
 have ih:XT.ok Tryz.prog (T_ZaD nf):=by exact⟨o_ZaG nf,trivial⟩
 refine eF_ok fun t x h=> ?_
 obtain⟨a,_⟩:=t
 exact runF_ok (N:=9) ih Tryz.func9 (by kernel_rfl) rfl h
def c19_ZaI:C:=.sq (.rg [.mv 22 T3,.mv 2 T22]) .rt
def c9_ZaI:C:=.sq (.sq (.rg [.mv 8 T4,.mv 9 T0,.ln 10 false T9,.bi 11 .lss T8 T10]) (.cd T11 .skip (.ex 0))) (.sq (.bk 1 (.rg [.mv 14 T3,.mv 15 T4,.mv 16 T0,.mv 17 T4,.ia 18 T16 T17 (kR 2),.ld 19 T18 (kR 2),.ca (some 20) 10 [(T19,.v (kR 2))],.ia 21 T14 T15 (kR 2),.st T21 T20 (kR 2)])) (.rg [.mv 12 T4,.bi 13 .add T12 (.i 1),.mv 4 T13]))
def ir_ZaI:C:=.sq (.rg [.mv 2 (.nl (kR 2))]) (.sq (.rg [.mv 5 T0,.ln 6 false T5,.mk 7 true (kR 2) T6,.mv 3 T7]) (.sq (.sq (.rg [.mv 4 (.i 0)]) (.bk 0 (.lk [0,3,4] [[7]] c9_ZaI))) c19_ZaI))
def ir_ZaH:C:=.sq (.rg [.bx 1 T0 (kR 2),.al 2 (kR 2)]) (.sq (.rg [.al 3 (kR 2)]) (.sq (.rg [.fa 4 T1 2 0 0,.ld 5 T4 kI,.fa 6 T3 2 0 0,.st T6 T5 kI]) (.sq (.rg [.fa 7 T1 2 1 1,.ld 8 T7 kS,.fa 9 T3 2 1 1,.st T9 T8 kS]) (.sq (.rg [.fa 10 T1 2 2 2,.ld 11 T10 kI,.fa 12 T3 2 2 2,.st T12 T11 kI]) (.sq (.rg [.fa 13 T1 2 3 3,.ld 14 T13 (kR 0),.ca (some 15) 33 [(T14,.v (kR 0))],.fa 16 T3 2 3 3,.st T16 T15 (kR 0)]) (.sq (.rg [.fa 17 T1 2 4 6,.ld 18 T17 (kL kS),.ca (some 19) 34 [(T18,.v (kL kS))],.fa 20 T3 2 4 6,.st T20 T19 (kL kS)]) (.sq (.rg [.fa 21 T1 2 5 7,.ld 22 T21 (kL (kR 2)),.ca (some 23) 35 [(T22,.v (kL (kR 2)))],.fa 24 T3 2 5 7,.st T24 T23 (kL (kR 2))]) (.sq (.rg [.ld 25 T3 (kR 2),.st T2 T25 (kR 2)]) .rt))))))))
noncomputable def B_ZaI(nf:Nat):XT:=[e_ZaJ nf,e_ZaE nf]
noncomputable def G_ZaI(nf:Nat):Nat->XT
 |0=>[]
 |kf+1=>[eF 35 [.v (kL (kR 2))] [.o (kL (kR 2))] (fun t=>(fun(a:List Tm)=>runF (G_ZaI nf kf++B_ZaI nf) nf [.v (kL (kR 2))] [.t 2 (.o (kL (kR 2)))] ir_ZaI (a,())) t.1),
  eF 10 [.v (kR 2)] [.o (kR 2)] (fun t=>(fun(a:Tm)=>runF (G_ZaI nf kf++B_ZaI nf) nf [.v (kR 2)] [.c 2 (.o (kR 2))] ir_ZaH (a,())) t.1)]
noncomputable abbrev T_ZaI(nf kf:Nat):XT:=G_ZaI nf kf++B_ZaI nf
noncomputable abbrev T_ZaH(nf kf:Nat):XT:=G_ZaI nf kf++B_ZaI nf
noncomputable def m_ZaI(nf kf:Nat)(a:List Tm):Option (List Tm):=runF (T_ZaI nf kf) nf [.v (kL (kR 2))] [.t 2 (.o (kL (kR 2)))] ir_ZaI (a,())
noncomputable def X_ZaI{R:Type}(nf kf:Nat):C->Env->(Xt->Env->Option R)->Option R:=xc (R:=R) (T_ZaI nf kf).S nf
noncomputable def m_ZaH(nf kf:Nat)(a:Tm):Option (Tm):=runF (T_ZaH nf kf) nf [.v (kR 2)] [.c 2 (.o (kR 2))] ir_ZaH (a,())
noncomputable def l8_ZaI(nf kf:Nat)(m8:Nat)(a:List Tm)(x4_8:Int)(y7_8:List Tm):Option (List Tm):=xit [0,3,4] [[7]] (X_ZaI nf kf c9_ZaI) (qB 0 (qS (X_ZaI nf kf c19_ZaI) (KF [.t 2 (.o (kL (kR 2)))]))) m8 ⟨[(0,.v (kL (kR 2)) a),(3,.sl [7]),(4,.v kI x4_8)],[([7],.row true false (kR 2) y7_8)]⟩
theorem l8_ZaI_eq(nf kf:Nat)(m8:Nat)(a:List Tm)(x4_8:Int)(y7_8:List Tm):l8_ZaI nf (kf+1) (m8+1) a x4_8 y7_8=(br (decide (x4_8<(List.length a:Int))) (gg (0<=x4_8∧x4_8<(List.length a:Int))<|cb (m_ZaH nf kf (gt a x4_8 Tm.zero)) fun r20=>gg (0<=x4_8∧x4_8<(List.length y7_8:Int))<|gg (0<=x4_8∧x4_8<(List.length y7_8:Int))<|mark (l8_ZaI nf (kf+1) m8 a (w64 (x4_8+(1:Int))) (List.set y7_8 (Int.toNat x4_8) (Tm.h r20)))) (some y7_8)):=by kernel_rfl
theorem m_ZaI_eq(nf kf:Nat)(a:List Tm):m_ZaI nf (kf+1) a=(gg (0<=(List.length a:Int)∧(List.length a:Int)<=2147483647)<|mark (l8_ZaI nf (kf+1) nf a (0:Int) (List.replicate (Int.toNat (List.length a:Int)) Tm.zero))):=by kernel_rfl
theorem m_ZaH_eq(nf kf:Nat)(a:Tm):m_ZaH nf (kf+1) a=(cb (m_ZaJ nf nf (Ty.h a.type)) fun r15=>cb (m_ZaE nf a.labels) fun r19=>cb (m_ZaI nf kf a.args) fun r23=>some (Tm.mk a.kind a.name a.n (Ty.h r15) r19 r23)):=by kernel_rfl
noncomputable def e_ZaH(nf:Nat):XE:=eF 10 [.v (kR 2)] [.o (kR 2)] (fun t=>m_ZaH nf nf t.1)
theorem gok_ZaI(nf:Nat):∀kf:Nat,XT.ok Tryz.prog (G_ZaI nf kf++B_ZaI nf)
 |0=>by exact⟨o_ZaJ nf,o_ZaE nf,trivial⟩
 |kf+1=>by
  have ih:=gok_ZaI nf kf
  refine⟨?_,?_,(by exact⟨o_ZaJ nf,o_ZaE nf,trivial⟩)⟩
  ·refine eF_ok fun t x h=> ?_
   obtain⟨a,_⟩:=t
   exact runF_ok (N:=23) ih Tryz.func35 (by kernel_rfl) rfl h
  ·refine eF_ok fun t x h=> ?_
   obtain⟨a,_⟩:=t
   exact runF_ok (N:=26) ih Tryz.func10 (by kernel_rfl) rfl h
theorem o_ZaH(nf:Nat):conOK Tryz.prog 10 (e_ZaH nf).con:=by
 have ih:=gok_ZaI nf nf
 refine eF_ok fun t x h=> ?_
 obtain⟨a,_⟩:=t
 exact runF_ok (N:=26) ih Tryz.func10 (by kernel_rfl) rfl h
def c31_ZY:C:=.sq (.rg [.mv 4 (.b true)]) .rt
def c15_ZY:C:=.sq (.sq (.rg [.mv 11 T5,.mv 12 T0,.ln 13 false T12,.bi 14 .lss T11 T13]) (.cd T14 .skip (.ex 0))) (.sq (.bk 1 (.sq (.dr [] [.mv 17 T0,.mv 18 T5,.ia 19 T17 T18 kS,.ld 20 T19 kS,.mv 21 T1,.mv 22 T5,.ia 23 T21 T22 kS,.ld 24 T23 kS] [.bi 25 .neq T20 T24]) (.cd T25 (.sq (.rg [.mv 4 (.b false)]) .rt) .skip))) (.rg [.mv 15 T5,.bi 16 .add T15 (.i 1),.mv 5 T16]))
def ir_ZY:C:=.sq (.rg [.mv 4 (.b false)]) (.sq (.sq (.rg [.mv 6 T0,.ln 7 false T6,.mv 8 T1,.ln 9 false T8,.bi 10 .neq T7 T9]) (.cd T10 (.sq (.rg [.mv 4 (.b false)]) .rt) .skip)) (.sq (.sq (.rg [.mv 5 (.i 0)]) (.bk 0 (.lk [0,1,5] [] c15_ZY))) c31_ZY))
noncomputable abbrev T_ZY(nf:Nat):XT:=[]
noncomputable def m_ZY(nf:Nat)(a:List Str)(b:List Str):Option (Bool):=runF (T_ZY nf) nf [.v (kL kS),.v (kL kS)] [.t 4 (.v .bool)] ir_ZY (a,b,())
noncomputable def X_ZY{R:Type}(nf:Nat):C->Env->(Xt->Env->Option R)->Option R:=xc (R:=R) (T_ZY nf).S nf
noncomputable def l14_ZY(nf:Nat)(m14:Nat)(a:List Str)(b:List Str)(x5_14:Int):Option (Bool):=xit [0,1,5] [] (X_ZY nf c15_ZY) (qB 0 (qS (X_ZY nf c31_ZY) (KF [.t 4 (.v .bool)]))) m14 ⟨[(0,.v (kL kS) a),(1,.v (kL kS) b),(5,.v kI x5_14)],[]⟩
theorem l14_ZY_eq(nf:Nat)(m14:Nat)(a:List Str)(b:List Str)(x5_14:Int):l14_ZY nf (m14+1) a b x5_14=(br (decide (x5_14<(List.length a:Int))) (gg (0<=x5_14∧x5_14<(List.length a:Int))<|gg (0<=x5_14∧x5_14<(List.length b:Int))<|br (!((gt a x5_14 ([]:Str))==(gt b x5_14 ([]:Str)))) (some false) (mark (l14_ZY nf m14 a b (w64 (x5_14+(1:Int)))))) (some true)):=by kernel_rfl
theorem m_ZY_eq(nf:Nat)(a:List Str)(b:List Str):m_ZY nf a b=(br (!((List.length a:Int)==(List.length b:Int))) (some false) (mark (l14_ZY nf nf a b (0:Int)))):=by kernel_rfl
noncomputable def e_ZY(nf:Nat):XE:=eF 38 [.v (kL kS),.v (kL kS)] [.v .bool] (fun t=>m_ZY nf t.1 t.2.1)
theorem o_ZY(nf:Nat):conOK Tryz.prog 38 (e_ZY nf).con:=by
 have ih:XT.ok Tryz.prog (T_ZY nf):=by exact trivial
 refine eF_ok fun t x h=> ?_
 obtain⟨a,b,_⟩:=t
 exact runF_ok (N:=26) ih Tryz.func38 (by kernel_rfl) rfl h
def c31_Zae:C:=.sq (.rg [.mv 4 (.b true)]) .rt
def c15_Zae:C:=.sq (.sq (.rg [.mv 11 T5,.mv 12 T0,.ln 13 false T12,.bi 14 .lss T11 T13]) (.cd T14 .skip (.ex 0))) (.sq (.bk 1 (.sq (.dr [] [.mv 17 T0,.mv 18 T5,.ia 19 T17 T18 (kR 0),.ld 20 T19 (kR 0),.mv 21 T1,.mv 22 T5,.ia 23 T21 T22 (kR 0),.ld 24 T23 (kR 0)] [.cv (some 25) 20 [(T20,.v (kR 0)),(T24,.v (kR 0))],.un 26 .not T25]) (.cd T26 (.sq (.rg [.mv 4 (.b false)]) .rt) .skip))) (.rg [.mv 15 T5,.bi 16 .add T15 (.i 1),.mv 5 T16]))
def ir_Zae:C:=.sq (.rg [.mv 4 (.b false)]) (.sq (.sq (.rg [.mv 6 T0,.ln 7 false T6,.mv 8 T1,.ln 9 false T8,.bi 10 .neq T7 T9]) (.cd T10 (.sq (.rg [.mv 4 (.b false)]) .rt) .skip)) (.sq (.sq (.rg [.mv 5 (.i 0)]) (.bk 0 (.lk [0,1,5] [] c15_Zae))) c31_Zae))
def ir_Zad:C:=.sq (.rg [.bx 2 T0 (kR 0),.bx 3 T1 (kR 0),.mv 4 (.b false)]) (.sq (.sq (.rg [.fa 5 T2 0 0 0,.ld 6 T5 kI,.fa 7 T3 0 0 0,.ld 8 T7 kI,.bi 9 .neq T6 T8]) (.cd T9 (.sq (.rg [.mv 4 (.b false)]) .rt) .skip)) (.sq (.sq (.rg [.fa 10 T2 0 1 1,.ld 11 T10 (kL kS),.fa 12 T3 0 1 1,.ld 13 T12 (kL kS),.cv (some 14) 38 [(T11,.v (kL kS)),(T13,.v (kL kS))],.un 15 .not T14]) (.cd T15 (.sq (.rg [.mv 4 (.b false)]) .rt) .skip)) (.sq (.sq (.rg [.fa 16 T2 0 2 2,.ld 17 T16 (kL (kR 0)),.fa 18 T3 0 2 2,.ld 19 T18 (kL (kR 0)),.cv (some 20) 53 [(T17,.v (kL (kR 0))),(T19,.v (kL (kR 0)))],.un 21 .not T20]) (.cd T21 (.sq (.rg [.mv 4 (.b false)]) .rt) .skip)) (.sq (.rg [.mv 4 (.b true)]) .rt))))
noncomputable def B_Zae(nf:Nat):XT:=[e_ZY nf]
noncomputable def G_Zae(nf:Nat):Nat->XT
 |0=>[]
 |kf+1=>[eF 53 [.v (kL (kR 0)),.v (kL (kR 0))] [.v .bool] (fun t=>(fun(a:List Ty) (b:List Ty)=>runF (G_Zae nf kf++B_Zae nf) nf [.v (kL (kR 0)),.v (kL (kR 0))] [.t 4 (.v .bool)] ir_Zae (a,b,())) t.1 t.2.1),
  eF 20 [.v (kR 0),.v (kR 0)] [.v .bool] (fun t=>(fun(a:Ty) (b:Ty)=>runF (G_Zae nf kf++B_Zae nf) nf [.v (kR 0),.v (kR 0)] [.t 4 (.v .bool)] ir_Zad (a,b,())) t.1 t.2.1)]
noncomputable abbrev T_Zae(nf kf:Nat):XT:=G_Zae nf kf++B_Zae nf
noncomputable abbrev T_Zad(nf kf:Nat):XT:=G_Zae nf kf++B_Zae nf
noncomputable def m_Zae(nf kf:Nat)(a:List Ty)(b:List Ty):Option (Bool):=runF (T_Zae nf kf) nf [.v (kL (kR 0)),.v (kL (kR 0))] [.t 4 (.v .bool)] ir_Zae (a,b,())
noncomputable def X_Zae{R:Type}(nf kf:Nat):C->Env->(Xt->Env->Option R)->Option R:=xc (R:=R) (T_Zae nf kf).S nf
noncomputable def m_Zad(nf kf:Nat)(a:Ty)(b:Ty):Option (Bool):=runF (T_Zad nf kf) nf [.v (kR 0),.v (kR 0)] [.t 4 (.v .bool)] ir_Zad (a,b,())
noncomputable def l14_Zae(nf kf:Nat)(m14:Nat)(a:List Ty)(b:List Ty)(x5_14:Int):Option (Bool):=xit [0,1,5] [] (X_Zae nf kf c15_Zae) (qB 0 (qS (X_Zae nf kf c31_Zae) (KF [.t 4 (.v .bool)]))) m14 ⟨[(0,.v (kL (kR 0)) a),(1,.v (kL (kR 0)) b),(5,.v kI x5_14)],[]⟩
theorem l14_Zae_eq(nf kf:Nat)(m14:Nat)(a:List Ty)(b:List Ty)(x5_14:Int):l14_Zae nf (kf+1) (m14+1) a b x5_14=(br (decide (x5_14<(List.length a:Int))) (gg (0<=x5_14∧x5_14<(List.length a:Int))<|gg (0<=x5_14∧x5_14<(List.length b:Int))<|cb (m_Zad nf kf (gt a x5_14 Ty.zero) (gt b x5_14 Ty.zero)) fun r25=>br (!r25) (some false) (mark (l14_Zae nf (kf+1) m14 a b (w64 (x5_14+(1:Int)))))) (some true)):=by kernel_rfl
theorem m_Zae_eq(nf kf:Nat)(a:List Ty)(b:List Ty):m_Zae nf (kf+1) a b=(br (!((List.length a:Int)==(List.length b:Int))) (some false) (mark (l14_Zae nf (kf+1) nf a b (0:Int)))):=by kernel_rfl
theorem m_Zad_eq(nf kf:Nat)(a:Ty)(b:Ty):m_Zad nf (kf+1) a b=(br (!(a.kind==b.kind)) (some false) (cb (m_ZY nf a.labels b.labels) fun r14=>br (!r14) (some false) (cb (m_Zae nf kf a.args b.args) fun r20=>br (!r20) (some false) (some true)))):=by kernel_rfl
noncomputable def e_Zad(nf:Nat):XE:=eF 20 [.v (kR 0),.v (kR 0)] [.v .bool] (fun t=>m_Zad nf nf t.1 t.2.1)
theorem gok_Zae(nf:Nat):∀kf:Nat,XT.ok Tryz.prog (G_Zae nf kf++B_Zae nf)
 |0=>by exact⟨o_ZY nf,trivial⟩
 |kf+1=>by
  have ih:=gok_Zae nf kf
  refine⟨?_,?_,(by exact⟨o_ZY nf,trivial⟩)⟩
  ·refine eF_ok fun t x h=> ?_
   obtain⟨a,b,_⟩:=t
   exact runF_ok (N:=27) ih Tryz.func53 (by kernel_rfl) rfl h
  ·refine eF_ok fun t x h=> ?_
   obtain⟨a,b,_⟩:=t
   exact runF_ok (N:=22) ih Tryz.func20 (by kernel_rfl) rfl h
theorem o_Zad(nf:Nat):conOK Tryz.prog 20 (e_Zad nf).con:=by
 have ih:=gok_Zae nf nf
 refine eF_ok fun t x h=> ?_
 obtain⟨a,b,_⟩:=t
 exact runF_ok (N:=22) ih Tryz.func20 (by kernel_rfl) rfl h
def ir_ZZ:C:=.sq (.rg [.bx 2 T0 (kR 4),.bx 3 T1 (kR 4),.mv 4 (.b false)]) (.sq (.sq (.rg [.fa 5 T2 4 0 0,.ld 6 T5 kS,.fa 7 T3 4 0 0,.ld 8 T7 kS,.bi 9 .neq T6 T8]) (.cd T9 (.sq (.rg [.mv 4 (.b false)]) .rt) .skip)) (.sq (.sq (.rg [.fa 10 T2 4 1 1,.ld 11 T10 (kR 0),.fa 12 T3 4 1 1,.ld 13 T12 (kR 0),.cv (some 14) 20 [(T11,.v (kR 0)),(T13,.v (kR 0))],.un 15 .not T14]) (.cd T15 (.sq (.rg [.mv 4 (.b false)]) .rt) .skip)) (.sq (.rg [.mv 4 (.b true)]) .rt)))
noncomputable abbrev T_ZZ(nf:Nat):XT:=[e_Zad nf]
noncomputable def m_ZZ(nf:Nat)(a:TDecl)(b:TDecl):Option (Bool):=runF (T_ZZ nf) nf [.v (kR 4),.v (kR 4)] [.t 4 (.v .bool)] ir_ZZ (a,b,())
theorem m_ZZ_eq(nf:Nat)(a:TDecl)(b:TDecl):m_ZZ nf a b=(br (!(a.name==b.name)) (some false) (cb (m_Zad nf nf (Ty.h a.row) (Ty.h b.row)) fun r14=>br (!r14) (some false) (some true))):=by kernel_rfl
noncomputable def e_ZZ(nf:Nat):XE:=eF 69 [.v (kR 4),.v (kR 4)] [.v .bool] (fun t=>m_ZZ nf t.1 t.2.1)
theorem o_ZZ(nf:Nat):conOK Tryz.prog 69 (e_ZZ nf).con:=by
 have ih:XT.ok Tryz.prog (T_ZZ nf):=by exact⟨o_Zad nf,trivial⟩
 refine eF_ok fun t x h=> ?_
 obtain⟨a,b,_⟩:=t
 exact runF_ok (N:=16) ih Tryz.func69 (by kernel_rfl) rfl h
def c31_Zaa:C:=.sq (.rg [.mv 4 (.b true)]) .rt
def c15_Zaa:C:=.sq (.sq (.rg [.mv 11 T5,.mv 12 T0,.ln 13 false T12,.bi 14 .lss T11 T13]) (.cd T14 .skip (.ex 0))) (.sq (.bk 1 (.sq (.dr [] [.mv 17 T0,.mv 18 T5,.ia 19 T17 T18 (kR 4),.ld 20 T19 (kR 4),.mv 21 T1,.mv 22 T5,.ia 23 T21 T22 (kR 4),.ld 24 T23 (kR 4)] [.cv (some 25) 69 [(T20,.v (kR 4)),(T24,.v (kR 4))],.un 26 .not T25]) (.cd T26 (.sq (.rg [.mv 4 (.b false)]) .rt) .skip))) (.rg [.mv 15 T5,.bi 16 .add T15 (.i 1),.mv 5 T16]))
def ir_Zaa:C:=.sq (.rg [.mv 4 (.b false)]) (.sq (.sq (.rg [.mv 6 T0,.ln 7 false T6,.mv 8 T1,.ln 9 false T8,.bi 10 .neq T7 T9]) (.cd T10 (.sq (.rg [.mv 4 (.b false)]) .rt) .skip)) (.sq (.sq (.rg [.mv 5 (.i 0)]) (.bk 0 (.lk [0,1,5] [] c15_Zaa))) c31_Zaa))
noncomputable abbrev T_Zaa(nf:Nat):XT:=[e_ZZ nf]
noncomputable def m_Zaa(nf:Nat)(a:List TDecl)(b:List TDecl):Option (Bool):=runF (T_Zaa nf) nf [.v (kL (kR 4)),.v (kL (kR 4))] [.t 4 (.v .bool)] ir_Zaa (a,b,())
noncomputable def X_Zaa{R:Type}(nf:Nat):C->Env->(Xt->Env->Option R)->Option R:=xc (R:=R) (T_Zaa nf).S nf
noncomputable def l14_Zaa(nf:Nat)(m14:Nat)(a:List TDecl)(b:List TDecl)(x5_14:Int):Option (Bool):=xit [0,1,5] [] (X_Zaa nf c15_Zaa) (qB 0 (qS (X_Zaa nf c31_Zaa) (KF [.t 4 (.v .bool)]))) m14 ⟨[(0,.v (kL (kR 4)) a),(1,.v (kL (kR 4)) b),(5,.v kI x5_14)],[]⟩
theorem l14_Zaa_eq(nf:Nat)(m14:Nat)(a:List TDecl)(b:List TDecl)(x5_14:Int):l14_Zaa nf (m14+1) a b x5_14=(br (decide (x5_14<(List.length a:Int))) (gg (0<=x5_14∧x5_14<(List.length a:Int))<|gg (0<=x5_14∧x5_14<(List.length b:Int))<|cb (m_ZZ nf (gt a x5_14 TDecl.zero) (gt b x5_14 TDecl.zero)) fun r25=>br (!r25) (some false) (mark (l14_Zaa nf m14 a b (w64 (x5_14+(1:Int)))))) (some true)):=by kernel_rfl
theorem m_Zaa_eq(nf:Nat)(a:List TDecl)(b:List TDecl):m_Zaa nf a b=(br (!((List.length a:Int)==(List.length b:Int))) (some false) (mark (l14_Zaa nf nf a b (0:Int)))):=by kernel_rfl
noncomputable def e_Zaa(nf:Nat):XE:=eF 37 [.v (kL (kR 4)),.v (kL (kR 4))] [.v .bool] (fun t=>m_Zaa nf t.1 t.2.1)
theorem o_Zaa(nf:Nat):conOK Tryz.prog 37 (e_Zaa nf).con:=by
 have ih:XT.ok Tryz.prog (T_Zaa nf):=by exact⟨o_ZZ nf,trivial⟩
 refine eF_ok fun t x h=> ?_
 obtain⟨a,b,_⟩:=t
 exact runF_ok (N:=27) ih Tryz.func37 (by kernel_rfl) rfl h
def ir_ZX:C:=.sq (.rg [.bx 2 T0 (kR 5),.bx 3 T1 (kR 5),.mv 4 (.b false)]) (.sq (.sq (.rg [.fa 5 T2 5 0 0,.ld 6 T5 (kL (kR 4)),.fa 7 T3 5 0 0,.ld 8 T7 (kL (kR 4)),.cv (some 9) 37 [(T6,.v (kL (kR 4))),(T8,.v (kL (kR 4)))],.un 10 .not T9]) (.cd T10 (.sq (.rg [.mv 4 (.b false)]) .rt) .skip)) (.sq (.rg [.mv 4 (.b true)]) .rt))
noncomputable abbrev T_ZX(nf:Nat):XT:=[e_Zaa nf]
noncomputable def m_ZX(nf:Nat)(a:Schema)(b:Schema):Option (Bool):=runF (T_ZX nf) nf [.v (kR 5),.v (kR 5)] [.t 4 (.v .bool)] ir_ZX (a,b,())
theorem m_ZX_eq(nf:Nat)(a:Schema)(b:Schema):m_ZX nf a b=(cb (m_Zaa nf a.tables b.tables) fun r9=>br (!r9) (some false) (some true)):=by kernel_rfl
noncomputable def e_ZX(nf:Nat):XE:=eF 12 [.v (kR 5),.v (kR 5)] [.v .bool] (fun t=>m_ZX nf t.1 t.2.1)
theorem o_ZX(nf:Nat):conOK Tryz.prog 12 (e_ZX nf).con:=by
 have ih:XT.ok Tryz.prog (T_ZX nf):=by exact⟨o_Zaa nf,trivial⟩
 refine eF_ok fun t x h=> ?_
 obtain⟨a,b,_⟩:=t
 exact runF_ok (N:=11) ih Tryz.func12 (by kernel_rfl) rfl h
def c31_Zac:C:=.sq (.rg [.mv 4 (.b true)]) .rt
def c15_Zac:C:=.sq (.sq (.rg [.mv 11 T5,.mv 12 T0,.ln 13 false T12,.bi 14 .lss T11 T13]) (.cd T14 .skip (.ex 0))) (.sq (.bk 1 (.sq (.dr [] [.mv 17 T0,.mv 18 T5,.ia 19 T17 T18 (kR 2),.ld 20 T19 (kR 2),.mv 21 T1,.mv 22 T5,.ia 23 T21 T22 (kR 2),.ld 24 T23 (kR 2)] [.cv (some 25) 13 [(T20,.v (kR 2)),(T24,.v (kR 2))],.un 26 .not T25]) (.cd T26 (.sq (.rg [.mv 4 (.b false)]) .rt) .skip))) (.rg [.mv 15 T5,.bi 16 .add T15 (.i 1),.mv 5 T16]))
def ir_Zac:C:=.sq (.rg [.mv 4 (.b false)]) (.sq (.sq (.rg [.mv 6 T0,.ln 7 false T6,.mv 8 T1,.ln 9 false T8,.bi 10 .neq T7 T9]) (.cd T10 (.sq (.rg [.mv 4 (.b false)]) .rt) .skip)) (.sq (.sq (.rg [.mv 5 (.i 0)]) (.bk 0 (.lk [0,1,5] [] c15_Zac))) c31_Zac))
def ir_Zab:C:=.sq (.rg [.bx 2 T0 (kR 2),.bx 3 T1 (kR 2),.mv 4 (.b false)]) (.sq (.sq (.rg [.fa 5 T2 2 0 0,.ld 6 T5 kI,.fa 7 T3 2 0 0,.ld 8 T7 kI,.bi 9 .neq T6 T8]) (.cd T9 (.sq (.rg [.mv 4 (.b false)]) .rt) .skip)) (.sq (.sq (.rg [.fa 10 T2 2 1 1,.ld 11 T10 kS,.fa 12 T3 2 1 1,.ld 13 T12 kS,.bi 14 .neq T11 T13]) (.cd T14 (.sq (.rg [.mv 4 (.b false)]) .rt) .skip)) (.sq (.sq (.rg [.fa 15 T2 2 2 2,.ld 16 T15 kI,.fa 17 T3 2 2 2,.ld 18 T17 kI,.bi 19 .neq T16 T18]) (.cd T19 (.sq (.rg [.mv 4 (.b false)]) .rt) .skip)) (.sq (.sq (.rg [.fa 20 T2 2 3 3,.ld 21 T20 (kR 0),.fa 22 T3 2 3 3,.ld 23 T22 (kR 0),.cv (some 24) 20 [(T21,.v (kR 0)),(T23,.v (kR 0))],.un 25 .not T24]) (.cd T25 (.sq (.rg [.mv 4 (.b false)]) .rt) .skip)) (.sq (.sq (.rg [.fa 26 T2 2 4 6,.ld 27 T26 (kL kS),.fa 28 T3 2 4 6,.ld 29 T28 (kL kS),.cv (some 30) 38 [(T27,.v (kL kS)),(T29,.v (kL kS))],.un 31 .not T30]) (.cd T31 (.sq (.rg [.mv 4 (.b false)]) .rt) .skip)) (.sq (.sq (.rg [.fa 32 T2 2 5 7,.ld 33 T32 (kL (kR 2)),.fa 34 T3 2 5 7,.ld 35 T34 (kL (kR 2)),.cv (some 36) 39 [(T33,.v (kL (kR 2))),(T35,.v (kL (kR 2)))],.un 37 .not T36]) (.cd T37 (.sq (.rg [.mv 4 (.b false)]) .rt) .skip)) (.sq (.rg [.mv 4 (.b true)]) .rt)))))))
noncomputable def B_Zac(nf:Nat):XT:=[e_Zad nf,e_ZY nf]
noncomputable def G_Zac(nf:Nat):Nat->XT
 |0=>[]
 |kf+1=>[eF 39 [.v (kL (kR 2)),.v (kL (kR 2))] [.v .bool] (fun t=>(fun(a:List Tm) (b:List Tm)=>runF (G_Zac nf kf++B_Zac nf) nf [.v (kL (kR 2)),.v (kL (kR 2))] [.t 4 (.v .bool)] ir_Zac (a,b,())) t.1 t.2.1),
  eF 13 [.v (kR 2),.v (kR 2)] [.v .bool] (fun t=>(fun(a:Tm) (b:Tm)=>runF (G_Zac nf kf++B_Zac nf) nf [.v (kR 2),.v (kR 2)] [.t 4 (.v .bool)] ir_Zab (a,b,())) t.1 t.2.1)]
noncomputable abbrev T_Zac(nf kf:Nat):XT:=G_Zac nf kf++B_Zac nf
noncomputable abbrev T_Zab(nf kf:Nat):XT:=G_Zac nf kf++B_Zac nf
noncomputable def m_Zac(nf kf:Nat)(a:List Tm)(b:List Tm):Option (Bool):=runF (T_Zac nf kf) nf [.v (kL (kR 2)),.v (kL (kR 2))] [.t 4 (.v .bool)] ir_Zac (a,b,())
noncomputable def X_Zac{R:Type}(nf kf:Nat):C->Env->(Xt->Env->Option R)->Option R:=xc (R:=R) (T_Zac nf kf).S nf
noncomputable def m_Zab(nf kf:Nat)(a:Tm)(b:Tm):Option (Bool):=runF (T_Zab nf kf) nf [.v (kR 2),.v (kR 2)] [.t 4 (.v .bool)] ir_Zab (a,b,())
noncomputable def l14_Zac(nf kf:Nat)(m14:Nat)(a:List Tm)(b:List Tm)(x5_14:Int):Option (Bool):=xit [0,1,5] [] (X_Zac nf kf c15_Zac) (qB 0 (qS (X_Zac nf kf c31_Zac) (KF [.t 4 (.v .bool)]))) m14 ⟨[(0,.v (kL (kR 2)) a),(1,.v (kL (kR 2)) b),(5,.v kI x5_14)],[]⟩
theorem l14_Zac_eq(nf kf:Nat)(m14:Nat)(a:List Tm)(b:List Tm)(x5_14:Int):l14_Zac nf (kf+1) (m14+1) a b x5_14=(br (decide (x5_14<(List.length a:Int))) (gg (0<=x5_14∧x5_14<(List.length a:Int))<|gg (0<=x5_14∧x5_14<(List.length b:Int))<|cb (m_Zab nf kf (gt a x5_14 Tm.zero) (gt b x5_14 Tm.zero)) fun r25=>br (!r25) (some false) (mark (l14_Zac nf (kf+1) m14 a b (w64 (x5_14+(1:Int)))))) (some true)):=by kernel_rfl
theorem m_Zac_eq(nf kf:Nat)(a:List Tm)(b:List Tm):m_Zac nf (kf+1) a b=(br (!((List.length a:Int)==(List.length b:Int))) (some false) (mark (l14_Zac nf (kf+1) nf a b (0:Int)))):=by kernel_rfl
theorem m_Zab_eq(nf kf:Nat)(a:Tm)(b:Tm):m_Zab nf (kf+1) a b=(br (!(a.kind==b.kind)) (some false) (br (!(a.name==b.name)) (some false) (br (!(a.n==b.n)) (some false) (cb (m_Zad nf nf (Ty.h a.type) (Ty.h b.type)) fun r24=>br (!r24) (some false) (cb (m_ZY nf a.labels b.labels) fun r30=>br (!r30) (some false) (cb (m_Zac nf kf a.args b.args) fun r36=>br (!r36) (some false) (some true))))))):=by kernel_rfl
noncomputable def e_Zab(nf:Nat):XE:=eF 13 [.v (kR 2),.v (kR 2)] [.v .bool] (fun t=>m_Zab nf nf t.1 t.2.1)
theorem gok_Zac(nf:Nat):∀kf:Nat,XT.ok Tryz.prog (G_Zac nf kf++B_Zac nf)
 |0=>by exact⟨o_Zad nf,o_ZY nf,trivial⟩
 |kf+1=>by
  have ih:=gok_Zac nf kf
  refine⟨?_,?_,(by exact⟨o_Zad nf,o_ZY nf,trivial⟩)⟩
  ·refine eF_ok fun t x h=> ?_
   obtain⟨a,b,_⟩:=t
   exact runF_ok (N:=27) ih Tryz.func39 (by kernel_rfl) rfl h
  ·refine eF_ok fun t x h=> ?_
   obtain⟨a,b,_⟩:=t
   exact runF_ok (N:=38) ih Tryz.func13 (by kernel_rfl) rfl h
theorem o_Zab(nf:Nat):conOK Tryz.prog 13 (e_Zab nf).con:=by
 have ih:=gok_Zac nf nf
 refine eF_ok fun t x h=> ?_
 obtain⟨a,b,_⟩:=t
 exact runF_ok (N:=38) ih Tryz.func13 (by kernel_rfl) rfl h
def ir_ZaB:C:=.sq (.rg [.bx 2 T0 (kR 8),.mv 4 (.i 0)]) (.sq (.rg [.mv 5 T1,.fa 6 T2 8 0 0,.ld 7 T6 kS,.ln 8 true T7,.bi 9 .sub T5 T8,.mv 1 T9]) (.sq (.sq (.rg [.mv 10 T1,.bi 11 .lss T10 (.i 0)]) (.cd T11 (.sq (.rg [.mv 4 (.i (-1))]) .rt) .skip)) (.sq (.rg [.fa 12 T2 8 1 1,.ld 13 T12 (kR 0),.mv 14 T1,.cv (some 15) 28 [(T13,.v (kR 0)),(T14,.v kI)],.mv 1 T15]) (.sq (.sq (.rg [.mv 16 T1,.bi 17 .lss T16 (.i 0)]) (.cd T17 (.sq (.rg [.mv 4 (.i (-1))]) .rt) .skip)) (.sq (.rg [.mv 18 T1,.mv 4 T18]) .rt)))))
noncomputable abbrev T_ZaB(nf:Nat):XT:=[e_Zaz nf]
noncomputable def m_ZaB(nf:Nat)(a:Typing)(left:Int):Option (Int):=runF (T_ZaB nf) nf [.v (kR 8),.v kI] [.t 4 (.v kI)] ir_ZaB (a,left,())
theorem m_ZaB_eq(nf:Nat)(a:Typing)(left:Int):m_ZaB nf a left=(br (decide ((w64 (left-(List.length a.name:Int)))<(0:Int))) (some (-1:Int)) (cb (m_Zaz nf nf (Ty.h a.type) (w64 (left-(List.length a.name:Int)))) fun r15=>br (decide (r15<(0:Int))) (some (-1:Int)) (some r15))):=by kernel_rfl
noncomputable def e_ZaB(nf:Nat):XE:=eF 42 [.v (kR 8),.v kI] [.v kI] (fun t=>m_ZaB nf t.1 t.2.1)
theorem o_ZaB(nf:Nat):conOK Tryz.prog 42 (e_ZaB nf).con:=by
 have ih:XT.ok Tryz.prog (T_ZaB nf):=by exact⟨o_Zaz nf,trivial⟩
 refine eF_ok fun t x h=> ?_
 obtain⟨a,left,_⟩:=t
 exact runF_ok (N:=19) ih Tryz.func42 (by kernel_rfl) rfl h
def c35_ZaC:C:=.sq (.rg [.mv 26 T1,.mv 4 T26]) .rt
def c17_ZaC:C:=.sq (.sq (.rg [.mv 12 T5,.mv 13 T0,.ln 14 false T13,.bi 15 .lss T12 T14]) (.cd T15 .skip (.ex 0))) (.sq (.bk 1 (.sq (.rg [.mv 18 T0,.mv 19 T5,.ia 20 T18 T19 (kR 8),.ld 21 T20 (kR 8),.mv 22 T1,.cv (some 23) 42 [(T21,.v (kR 8)),(T22,.v kI)],.mv 1 T23]) (.sq (.rg [.mv 24 T1,.bi 25 .lss T24 (.i 0)]) (.cd T25 (.sq (.rg [.mv 4 (.i (-1))]) .rt) .skip)))) (.rg [.mv 16 T5,.bi 17 .add T16 (.i 1),.mv 5 T17]))
def ir_ZaC:C:=.sq (.rg [.mv 4 (.i 0)]) (.sq (.rg [.mv 6 T1,.mv 7 T0,.ln 8 false T7,.bi 9 .sub T6 T8,.mv 1 T9]) (.sq (.sq (.rg [.mv 10 T1,.bi 11 .lss T10 (.i 0)]) (.cd T11 (.sq (.rg [.mv 4 (.i (-1))]) .rt) .skip)) (.sq (.sq (.rg [.mv 5 (.i 0)]) (.bk 0 (.lk [0,1,5] [] c17_ZaC))) c35_ZaC)))
noncomputable abbrev T_ZaC(nf:Nat):XT:=[e_ZaB nf]
noncomputable def m_ZaC(nf:Nat)(a:List Typing)(left:Int):Option (Int):=runF (T_ZaC nf) nf [.v (kL (kR 8)),.v kI] [.t 4 (.v kI)] ir_ZaC (a,left,())
noncomputable def X_ZaC{R:Type}(nf:Nat):C->Env->(Xt->Env->Option R)->Option R:=xc (R:=R) (T_ZaC nf).S nf
noncomputable def l16_ZaC(nf:Nat)(m16:Nat)(a:List Typing)(x1_16:Int)(x5_16:Int):Option (Int):=xit [0,1,5] [] (X_ZaC nf c17_ZaC) (qB 0 (qS (X_ZaC nf c35_ZaC) (KF [.t 4 (.v kI)]))) m16 ⟨[(0,.v (kL (kR 8)) a),(1,.v kI x1_16),(5,.v kI x5_16)],[]⟩
theorem l16_ZaC_eq(nf:Nat)(m16:Nat)(a:List Typing)(x1_16:Int)(x5_16:Int):l16_ZaC nf (m16+1) a x1_16 x5_16=(br (decide (x5_16<(List.length a:Int))) (gg (0<=x5_16∧x5_16<(List.length a:Int))<|cb (m_ZaB nf (gt a x5_16 Typing.zero) x1_16) fun r23=>br (decide (r23<(0:Int))) (some (-1:Int)) (mark (l16_ZaC nf m16 a r23 (w64 (x5_16+(1:Int)))))) (some x1_16)):=by kernel_rfl
theorem m_ZaC_eq(nf:Nat)(a:List Typing)(left:Int):m_ZaC nf a left=(br (decide ((w64 (left-(List.length a:Int)))<(0:Int))) (some (-1:Int)) (mark (l16_ZaC nf nf a (w64 (left-(List.length a:Int))) (0:Int)))):=by kernel_rfl
noncomputable def e_ZaC(nf:Nat):XE:=eF 16 [.v (kL (kR 8)),.v kI] [.v kI] (fun t=>m_ZaC nf t.1 t.2.1)
theorem o_ZaC(nf:Nat):conOK Tryz.prog 16 (e_ZaC nf).con:=by
 have ih:XT.ok Tryz.prog (T_ZaC nf):=by exact⟨o_ZaB nf,trivial⟩
 refine eF_ok fun t x h=> ?_
 obtain⟨a,left,_⟩:=t
 exact runF_ok (N:=27) ih Tryz.func16 (by kernel_rfl) rfl h
def ir_ZaL:C:=.sq (.rg [.bx 1 T0 (kR 8),.al 2 (kR 8)]) (.sq (.rg [.al 3 (kR 8)]) (.sq (.rg [.fa 4 T1 8 0 0,.ld 5 T4 kS,.fa 6 T3 8 0 0,.st T6 T5 kS]) (.sq (.rg [.fa 7 T1 8 1 1,.ld 8 T7 (kR 0),.ca (some 9) 33 [(T8,.v (kR 0))],.fa 10 T3 8 1 1,.st T10 T9 (kR 0)]) (.sq (.rg [.ld 11 T3 (kR 8),.st T2 T11 (kR 8)]) .rt))))
noncomputable abbrev T_ZaL(nf:Nat):XT:=[e_ZaJ nf]
noncomputable def m_ZaL(nf:Nat)(a:Typing):Option (Typing):=runF (T_ZaL nf) nf [.v (kR 8)] [.c 2 (.o (kR 8))] ir_ZaL (a,())
theorem m_ZaL_eq(nf:Nat)(a:Typing):m_ZaL nf a=(cb (m_ZaJ nf nf (Ty.h a.type)) fun r9=>some (Typing.mk a.name (Ty.h r9))):=by kernel_rfl
noncomputable def e_ZaL(nf:Nat):XE:=eF 47 [.v (kR 8)] [.o (kR 8)] (fun t=>m_ZaL nf t.1)
theorem o_ZaL(nf:Nat):conOK Tryz.prog 47 (e_ZaL nf).con:=by
 have ih:XT.ok Tryz.prog (T_ZaL nf):=by exact⟨o_ZaJ nf,trivial⟩
 refine eF_ok fun t x h=> ?_
 obtain⟨a,_⟩:=t
 exact runF_ok (N:=12) ih Tryz.func47 (by kernel_rfl) rfl h
def c19_ZaM:C:=.sq (.rg [.mv 22 T3,.mv 2 T22]) .rt
def c9_ZaM:C:=.sq (.sq (.rg [.mv 8 T4,.mv 9 T0,.ln 10 false T9,.bi 11 .lss T8 T10]) (.cd T11 .skip (.ex 0))) (.sq (.bk 1 (.rg [.mv 14 T3,.mv 15 T4,.mv 16 T0,.mv 17 T4,.ia 18 T16 T17 (kR 8),.ld 19 T18 (kR 8),.ca (some 20) 47 [(T19,.v (kR 8))],.ia 21 T14 T15 (kR 8),.st T21 T20 (kR 8)])) (.rg [.mv 12 T4,.bi 13 .add T12 (.i 1),.mv 4 T13]))
def ir_ZaM:C:=.sq (.rg [.mv 2 (.nl (kR 8))]) (.sq (.rg [.mv 5 T0,.ln 6 false T5,.mk 7 true (kR 8) T6,.mv 3 T7]) (.sq (.sq (.rg [.mv 4 (.i 0)]) (.bk 0 (.lk [0,3,4] [[7]] c9_ZaM))) c19_ZaM))
noncomputable abbrev T_ZaM(nf:Nat):XT:=[e_ZaL nf]
noncomputable def m_ZaM(nf:Nat)(a:List Typing):Option (List Typing):=runF (T_ZaM nf) nf [.v (kL (kR 8))] [.t 2 (.o (kL (kR 8)))] ir_ZaM (a,())
noncomputable def X_ZaM{R:Type}(nf:Nat):C->Env->(Xt->Env->Option R)->Option R:=xc (R:=R) (T_ZaM nf).S nf
noncomputable def l8_ZaM(nf:Nat)(m8:Nat)(a:List Typing)(x4_8:Int)(y7_8:List Typing):Option (List Typing):=xit [0,3,4] [[7]] (X_ZaM nf c9_ZaM) (qB 0 (qS (X_ZaM nf c19_ZaM) (KF [.t 2 (.o (kL (kR 8)))]))) m8 ⟨[(0,.v (kL (kR 8)) a),(3,.sl [7]),(4,.v kI x4_8)],[([7],.row true false (kR 8) y7_8)]⟩
theorem l8_ZaM_eq(nf:Nat)(m8:Nat)(a:List Typing)(x4_8:Int)(y7_8:List Typing):l8_ZaM nf (m8+1) a x4_8 y7_8=(br (decide (x4_8<(List.length a:Int))) (gg (0<=x4_8∧x4_8<(List.length a:Int))<|cb (m_ZaL nf (gt a x4_8 Typing.zero)) fun r20=>gg (0<=x4_8∧x4_8<(List.length y7_8:Int))<|gg (0<=x4_8∧x4_8<(List.length y7_8:Int))<|mark (l8_ZaM nf m8 a (w64 (x4_8+(1:Int))) (List.set y7_8 (Int.toNat x4_8) (Typing.h r20)))) (some y7_8)):=by kernel_rfl
theorem m_ZaM_eq(nf:Nat)(a:List Typing):m_ZaM nf a=(gg (0<=(List.length a:Int)∧(List.length a:Int)<=2147483647)<|mark (l8_ZaM nf nf a (0:Int) (List.replicate (Int.toNat (List.length a:Int)) Typing.zero))):=by kernel_rfl
noncomputable def e_ZaM(nf:Nat):XE:=eF 18 [.v (kL (kR 8))] [.o (kL (kR 8))] (fun t=>m_ZaM nf t.1)
theorem o_ZaM(nf:Nat):conOK Tryz.prog 18 (e_ZaM nf).con:=by
 have ih:XT.ok Tryz.prog (T_ZaM nf):=by exact⟨o_ZaL nf,trivial⟩
 refine eF_ok fun t x h=> ?_
 obtain⟨a,_⟩:=t
 exact runF_ok (N:=23) ih Tryz.func18 (by kernel_rfl) rfl h
def ir_Zaf:C:=.sq (.rg [.bx 2 T0 (kR 8),.bx 3 T1 (kR 8),.mv 4 (.b false)]) (.sq (.sq (.rg [.fa 5 T2 8 0 0,.ld 6 T5 kS,.fa 7 T3 8 0 0,.ld 8 T7 kS,.bi 9 .neq T6 T8]) (.cd T9 (.sq (.rg [.mv 4 (.b false)]) .rt) .skip)) (.sq (.sq (.rg [.fa 10 T2 8 1 1,.ld 11 T10 (kR 0),.fa 12 T3 8 1 1,.ld 13 T12 (kR 0),.cv (some 14) 20 [(T11,.v (kR 0)),(T13,.v (kR 0))],.un 15 .not T14]) (.cd T15 (.sq (.rg [.mv 4 (.b false)]) .rt) .skip)) (.sq (.rg [.mv 4 (.b true)]) .rt)))
noncomputable abbrev T_Zaf(nf:Nat):XT:=[e_Zad nf]
noncomputable def m_Zaf(nf:Nat)(a:Typing)(b:Typing):Option (Bool):=runF (T_Zaf nf) nf [.v (kR 8),.v (kR 8)] [.t 4 (.v .bool)] ir_Zaf (a,b,())
theorem m_Zaf_eq(nf:Nat)(a:Typing)(b:Typing):m_Zaf nf a b=(br (!(a.name==b.name)) (some false) (cb (m_Zad nf nf (Ty.h a.type) (Ty.h b.type)) fun r14=>br (!r14) (some false) (some true))):=by kernel_rfl
noncomputable def e_Zaf(nf:Nat):XE:=eF 54 [.v (kR 8),.v (kR 8)] [.v .bool] (fun t=>m_Zaf nf t.1 t.2.1)
theorem o_Zaf(nf:Nat):conOK Tryz.prog 54 (e_Zaf nf).con:=by
 have ih:XT.ok Tryz.prog (T_Zaf nf):=by exact⟨o_Zad nf,trivial⟩
 refine eF_ok fun t x h=> ?_
 obtain⟨a,b,_⟩:=t
 exact runF_ok (N:=16) ih Tryz.func54 (by kernel_rfl) rfl h
def c31_Zag:C:=.sq (.rg [.mv 4 (.b true)]) .rt
def c15_Zag:C:=.sq (.sq (.rg [.mv 11 T5,.mv 12 T0,.ln 13 false T12,.bi 14 .lss T11 T13]) (.cd T14 .skip (.ex 0))) (.sq (.bk 1 (.sq (.dr [] [.mv 17 T0,.mv 18 T5,.ia 19 T17 T18 (kR 8),.ld 20 T19 (kR 8),.mv 21 T1,.mv 22 T5,.ia 23 T21 T22 (kR 8),.ld 24 T23 (kR 8)] [.cv (some 25) 54 [(T20,.v (kR 8)),(T24,.v (kR 8))],.un 26 .not T25]) (.cd T26 (.sq (.rg [.mv 4 (.b false)]) .rt) .skip))) (.rg [.mv 15 T5,.bi 16 .add T15 (.i 1),.mv 5 T16]))
def ir_Zag:C:=.sq (.rg [.mv 4 (.b false)]) (.sq (.sq (.rg [.mv 6 T0,.ln 7 false T6,.mv 8 T1,.ln 9 false T8,.bi 10 .neq T7 T9]) (.cd T10 (.sq (.rg [.mv 4 (.b false)]) .rt) .skip)) (.sq (.sq (.rg [.mv 5 (.i 0)]) (.bk 0 (.lk [0,1,5] [] c15_Zag))) c31_Zag))
noncomputable abbrev T_Zag(nf:Nat):XT:=[e_Zaf nf]
noncomputable def m_Zag(nf:Nat)(a:List Typing)(b:List Typing):Option (Bool):=runF (T_Zag nf) nf [.v (kL (kR 8)),.v (kL (kR 8))] [.t 4 (.v .bool)] ir_Zag (a,b,())
noncomputable def X_Zag{R:Type}(nf:Nat):C->Env->(Xt->Env->Option R)->Option R:=xc (R:=R) (T_Zag nf).S nf
noncomputable def l14_Zag(nf:Nat)(m14:Nat)(a:List Typing)(b:List Typing)(x5_14:Int):Option (Bool):=xit [0,1,5] [] (X_Zag nf c15_Zag) (qB 0 (qS (X_Zag nf c31_Zag) (KF [.t 4 (.v .bool)]))) m14 ⟨[(0,.v (kL (kR 8)) a),(1,.v (kL (kR 8)) b),(5,.v kI x5_14)],[]⟩
theorem l14_Zag_eq(nf:Nat)(m14:Nat)(a:List Typing)(b:List Typing)(x5_14:Int):l14_Zag nf (m14+1) a b x5_14=(br (decide (x5_14<(List.length a:Int))) (gg (0<=x5_14∧x5_14<(List.length a:Int))<|gg (0<=x5_14∧x5_14<(List.length b:Int))<|cb (m_Zaf nf (gt a x5_14 Typing.zero) (gt b x5_14 Typing.zero)) fun r25=>br (!r25) (some false) (mark (l14_Zag nf m14 a b (w64 (x5_14+(1:Int)))))) (some true)):=by kernel_rfl
theorem m_Zag_eq(nf:Nat)(a:List Typing)(b:List Typing):m_Zag nf a b=(br (!((List.length a:Int)==(List.length b:Int))) (some false) (mark (l14_Zag nf nf a b (0:Int)))):=by kernel_rfl
noncomputable def e_Zag(nf:Nat):XE:=eF 21 [.v (kL (kR 8)),.v (kL (kR 8))] [.v .bool] (fun t=>m_Zag nf t.1 t.2.1)
theorem o_Zag(nf:Nat):conOK Tryz.prog 21 (e_Zag nf).con:=by
 have ih:XT.ok Tryz.prog (T_Zag nf):=by exact⟨o_Zaf nf,trivial⟩
 refine eF_ok fun t x h=> ?_
 obtain⟨a,b,_⟩:=t
 exact runF_ok (N:=27) ih Tryz.func21 (by kernel_rfl) rfl h
def c25_Zap:C:=.sq (.rg [.mv 18 T3,.bi 19 .add (.s [109]) T18,.mv 2 T19]) .rt
def c15_Zap:C:=.sq (.sq (.rg [.mv 6 T0,.bi 7 .gtr T6 (.i 0)]) (.cd T7 .skip (.ex 0))) (.bk 1 (.sq (.rg [.mv 8 T0,.bi 9 .rem T8 (.i 10),.bi 10 .add (.i 48) T9,.ci 11 .u8 T10,.bs 12 true (.int .u8) [T11],.cs 13 T12,.mv 14 T3,.bi 15 .add T13 T14,.mv 3 T15]) (.rg [.mv 16 T0,.bi 17 .quo T16 (.i 10),.mv 0 T17])))
def ir_Zap:C:=.sq (.rg [.mv 2 (.s [])]) (.sq (.sq (.rg [.mv 4 T0,.bi 5 .leq T4 (.i 0)]) (.cd T5 (.sq (.rg [.mv 2 (.s [109,48])]) .rt) .skip)) (.sq (.rg [.mv 3 (.s [])]) (.sq (.bk 0 (.lk [0,3] [] c15_Zap)) c25_Zap)))
noncomputable abbrev T_Zap(nf:Nat):XT:=[]
noncomputable def m_Zap(nf:Nat)(k:Int):Option (Str):=runF (T_Zap nf) nf [.v kI] [.t 2 (.v kS)] ir_Zap (k,())
noncomputable def X_Zap{R:Type}(nf:Nat):C->Env->(Xt->Env->Option R)->Option R:=xc (R:=R) (T_Zap nf).S nf
noncomputable def l14_Zap(nf:Nat)(m14:Nat)(x0_14:Int)(x3_14:Str):Option (Str):=xit [0,3] [] (X_Zap nf c15_Zap) (qB 0 (qS (X_Zap nf c25_Zap) (KF [.t 2 (.v kS)]))) m14 ⟨[(0,.v kI x0_14),(3,.v kS x3_14)],[]⟩
theorem l14_Zap_eq(nf:Nat)(m14:Nat)(x0_14:Int)(x3_14:Str):l14_Zap nf (m14+1) x0_14 x3_14=(br (decide ((0:Int)<x0_14)) (gg ((10:Int)≠0)<|gg (List.length (bytesOf ([(IntKind.u8.wrap (w64 ((48:Int)+(w64 (Int.tmod x0_14 (10:Int))))))]:List Int))+List.length x3_14<=9223372036854775807)<|gg ((10:Int)≠0)<|mark (l14_Zap nf m14 (w64 (Int.tdiv x0_14 (10:Int))) ((bytesOf ([(IntKind.u8.wrap (w64 ((48:Int)+(w64 (Int.tmod x0_14 (10:Int))))))]:List Int))++x3_14))) (gg (List.length ([109]:Str)+List.length x3_14<=9223372036854775807)<|some (([109]:Str)++x3_14))):=by kernel_rfl
theorem m_Zap_eq(nf:Nat)(k:Int):m_Zap nf k=(br (decide (k<=(0:Int))) (some ([109,48]:Str)) (mark (l14_Zap nf nf k ([]:Str)))):=by kernel_rfl
noncomputable def e_Zap(nf:Nat):XE:=eF 56 [.v kI] [.v kS] (fun t=>m_Zap nf t.1)
theorem o_Zap(nf:Nat):conOK Tryz.prog 56 (e_Zap nf).con:=by
 have ih:XT.ok Tryz.prog (T_Zap nf):=by exact trivial
 refine eF_ok fun t x h=> ?_
 obtain⟨k,_⟩:=t
 exact runF_ok (N:=20) ih Tryz.func56 (by kernel_rfl) rfl h
def c19_Zal:C:=.sq (.rg [.mv 19 T1,.mv 4 T19]) .rt
def c7_Zal:C:=.sq (.sq (.rg [.mv 6 T5,.mv 7 T0,.ln 8 false T7,.bi 9 .lss T6 T8]) (.cd T9 .skip (.ex 0))) (.sq (.bk 1 (.sq (.rg [.mv 12 T0,.mv 13 T5,.mv 14 T1,.cv (some 15) 56 [(T14,.v kI)],.ia 16 T12 T13 kS,.st T16 T15 kS]) (.rg [.mv 17 T1,.bi 18 .add T17 (.i 1),.mv 1 T18]))) (.rg [.mv 10 T5,.bi 11 .add T10 (.i 1),.mv 5 T11]))
def ir_Zal:C:=.sq (.rg [.mv 4 (.i 0)]) (.sq (.sq (.rg [.mv 5 (.i 0)]) (.bk 0 (.lk [0,1,5] [[20]] c7_Zal))) c19_Zal)
noncomputable abbrev T_Zal(nf:Nat):XT:=[e_Zap nf]
noncomputable def m_Zal(nf:Nat)(a:List Str)(k:Int):Option (List Str×Int):=runW (T_Zal nf) nf 20 4 kS ir_Zal a k
noncomputable def X_Zal{R:Type}(nf:Nat):C->Env->(Xt->Env->Option R)->Option R:=xc (R:=R) (T_Zal nf).S nf
noncomputable def l6_Zal(nf:Nat)(m6:Nat)(x1_6:Int)(x5_6:Int)(y20_6:List Str):Option (List Str×Int):=xit [0,1,5] [[20]] (X_Zal nf c7_Zal) (qB 0 (qS (X_Zal nf c19_Zal) (KW 4 20 kS))) m6 ⟨[(0,.sl [20]),(1,.v kI x1_6),(5,.v kI x5_6)],[([20],.row true true kS y20_6)]⟩
theorem l6_Zal_eq(nf:Nat)(m6:Nat)(x1_6:Int)(x5_6:Int)(y20_6:List Str):l6_Zal nf (m6+1) x1_6 x5_6 y20_6=(br (decide (x5_6<(List.length y20_6:Int))) (cb (m_Zap nf x1_6) fun r15=>gg (0<=x5_6∧x5_6<(List.length y20_6:Int))<|gg (0<=x5_6∧x5_6<(List.length y20_6:Int))<|mark (l6_Zal nf m6 (w64 (x1_6+(1:Int))) (w64 (x5_6+(1:Int))) (List.set y20_6 (Int.toNat x5_6) r15))) (some (y20_6,x1_6))):=by kernel_rfl
theorem m_Zal_eq(nf:Nat)(a:List Str)(k:Int):m_Zal nf a k=(mark (l6_Zal nf nf k (0:Int) a)):=by kernel_rfl
noncomputable def e_Zal(nf:Nat):XE:=eW 57 kS (fun a j=>m_Zal nf a j)
theorem o_Zal(nf:Nat):conOK Tryz.prog 57 (e_Zal nf).con:=by
 have ih:XT.ok Tryz.prog (T_Zal nf):=by exact⟨o_Zap nf,trivial⟩
 refine eW_ok fun a j x h=> ?_
 exact runW_ok (N:=20) ih Tryz.func57 (by kernel_rfl) rfl h
def c23_Zar:C:=.sq (.rg [.mv 33 T1,.mv 4 T33]) .rt
def c22_Zar:C:=.rg [.mv 10 T5,.bi 11 .add T10 (.i 1),.mv 5 T11]
def c21_Zar:C:=.rl [.mv 26 T0,.mv 27 T5,.ia 28 T26 T27 (kR 0),.fa 29 T28 0 2 2] 30 T29 31 T1 32 58 (kR 0) [.mv 1 T32]
def w21_Zar:C:=.kp [0,1,5] [[34]] c21_Zar
def c7_Zar:C:=.sq (.sq (.rg [.mv 6 T5,.mv 7 T0,.ln 8 false T7,.bi 9 .lss T6 T8]) (.cd T9 .skip (.ex 0))) (.sq (.bk 1 (.sq (.rg [.mv 12 T0,.mv 13 T5,.mv 14 T1,.ia 15 T12 T13 (kR 0),.fa 16 T15 0 0 0,.sf T16 T14 kI]) (.sq (.rg [.mv 17 T1,.bi 18 .add T17 (.i 1),.mv 1 T18]) (.sq (.rl [.mv 19 T0,.mv 20 T5,.ia 21 T19 T20 (kR 0),.fa 22 T21 0 1 1] 23 T22 24 T1 25 57 kS [.mv 1 T25]) w21_Zar)))) c22_Zar)
def ir_Zar:C:=.sq (.rg [.mv 4 (.i 0)]) (.sq (.sq (.rg [.mv 5 (.i 0)]) (.bk 0 (.lk [0,1,5] [[34]] c7_Zar))) c23_Zar)
noncomputable def B_Zar(nf:Nat):XT:=[e_Zal nf]
noncomputable def G_Zar(nf:Nat):Nat->XT
 |0=>[]
 |kf+1=>[eW 58 (kR 0) (fun a j=>(fun(a:List Ty) (k:Int)=>runW (G_Zar nf kf++B_Zar nf) nf 34 4 (kR 0) ir_Zar a k) a j)]
noncomputable abbrev T_Zar(nf kf:Nat):XT:=G_Zar nf kf++B_Zar nf
noncomputable def m_Zar(nf kf:Nat)(a:List Ty)(k:Int):Option (List Ty×Int):=runW (T_Zar nf kf) nf 34 4 (kR 0) ir_Zar a k
noncomputable def X_Zar{R:Type}(nf kf:Nat):C->Env->(Xt->Env->Option R)->Option R:=xc (R:=R) (T_Zar nf kf).S nf
noncomputable def j21_Zar(nf kf:Nat)(m6:Nat)(r25:List Str×Int)(x5_6:Int)(y34_21:List Ty):Option (List Ty×Int):=X_Zar nf kf c21_Zar ⟨[(0,.sl [34]),(1,.v kI r25.2),(5,.v kI x5_6)],[([34],.row true true (kR 0) y34_21)]⟩ (qB 1 (qS (X_Zar nf kf c22_Zar) (qM [0,1,5] [[34]] (X_Zar nf kf c7_Zar) m6 (qB 0 (qS (X_Zar nf kf c23_Zar) (KW 4 34 (kR 0)))))))
noncomputable def l6_Zar(nf kf:Nat)(m6:Nat)(x1_6:Int)(x5_6:Int)(y34_6:List Ty):Option (List Ty×Int):=xit [0,1,5] [[34]] (X_Zar nf kf c7_Zar) (qB 0 (qS (X_Zar nf kf c23_Zar) (KW 4 34 (kR 0)))) m6 ⟨[(0,.sl [34]),(1,.v kI x1_6),(5,.v kI x5_6)],[([34],.row true true (kR 0) y34_6)]⟩
theorem j21_Zar_eq(nf kf:Nat)(m6:Nat)(r25:List Str×Int)(x5_6:Int)(y34_21:List Ty):j21_Zar nf (kf+1) m6 r25 x5_6 y34_21=(gg (0<=x5_6∧x5_6<(List.length y34_21:Int))<|gg (0<=x5_6∧x5_6<(List.length y34_21:Int))<|cb (m_Zar nf kf ((gt y34_21 x5_6 Ty.zero).args) r25.2) fun r32=>mark (l6_Zar nf (kf+1) m6 r32.2 (w64 (x5_6+(1:Int))) (List.set y34_21 (Int.toNat x5_6) (Ty.mk ((gt y34_21 x5_6 Ty.zero).kind) ((gt y34_21 x5_6 Ty.zero).labels) r32.1)))):=by kernel_rfl
theorem l6_Zar_eq(nf kf:Nat)(m6:Nat)(x1_6:Int)(x5_6:Int)(y34_6:List Ty):l6_Zar nf (kf+1) (m6+1) x1_6 x5_6 y34_6=(br (decide (x5_6<(List.length y34_6:Int))) (gg (0<=x5_6∧x5_6<(List.length y34_6:Int))<|gg (0<=x5_6∧x5_6<(List.length y34_6:Int))<|gg (0<=x5_6∧x5_6<(List.length (List.set y34_6 (Int.toNat x5_6) (Ty.mk x1_6 ((gt y34_6 x5_6 Ty.zero).labels) ((gt y34_6 x5_6 Ty.zero).args))):Int))<|gg (0<=x5_6∧x5_6<(List.length (List.set y34_6 (Int.toNat x5_6) (Ty.mk x1_6 ((gt y34_6 x5_6 Ty.zero).labels) ((gt y34_6 x5_6 Ty.zero).args))):Int))<|cb (m_Zal nf ((gt (List.set y34_6 (Int.toNat x5_6) (Ty.mk x1_6 ((gt y34_6 x5_6 Ty.zero).labels) ((gt y34_6 x5_6 Ty.zero).args))) x5_6 Ty.zero).labels) (w64 (x1_6+(1:Int)))) fun r25=>mark (j21_Zar nf (kf+1) m6 r25 x5_6 (List.set (List.set y34_6 (Int.toNat x5_6) (Ty.mk x1_6 ((gt y34_6 x5_6 Ty.zero).labels) ((gt y34_6 x5_6 Ty.zero).args))) (Int.toNat x5_6) (Ty.mk ((gt (List.set y34_6 (Int.toNat x5_6) (Ty.mk x1_6 ((gt y34_6 x5_6 Ty.zero).labels) ((gt y34_6 x5_6 Ty.zero).args))) x5_6 Ty.zero).kind) r25.1 ((gt (List.set y34_6 (Int.toNat x5_6) (Ty.mk x1_6 ((gt y34_6 x5_6 Ty.zero).labels) ((gt y34_6 x5_6 Ty.zero).args))) x5_6 Ty.zero).args))))) (some (y34_6,x1_6))):=by
 unfold l6_Zar j21_Zar c7_Zar c23_Zar w21_Zar c22_Zar
 generalize c21_Zar=x0
 revert x0
 refine id ?_
 intro x0
 kernel_rfl
theorem m_Zar_eq(nf kf:Nat)(a:List Ty)(k:Int):m_Zar nf (kf+1) a k=(mark (l6_Zar nf (kf+1) nf k (0:Int) a)):=by kernel_rfl
noncomputable def e_Zar(nf:Nat):XE:=eW 58 (kR 0) (fun a j=>m_Zar nf nf a j)
theorem gok_Zar(nf:Nat):∀kf:Nat,XT.ok Tryz.prog (G_Zar nf kf++B_Zar nf)
 |0=>by exact⟨o_Zal nf,trivial⟩
 |kf+1=>by
  have ih:=gok_Zar nf kf
  refine⟨?_,(by exact⟨o_Zal nf,trivial⟩)⟩
  ·refine eW_ok fun a j x h=> ?_
   exact runW_ok (N:=34) ih Tryz.func58 (by kernel_rfl) rfl h
theorem o_Zar(nf:Nat):conOK Tryz.prog 58 (e_Zar nf).con:=by
 have ih:=gok_Zar nf nf
 refine eW_ok fun a j x h=> ?_
 exact runW_ok (N:=34) ih Tryz.func58 (by kernel_rfl) rfl h
def c27_Zam:C:=.sq (.rg [.mv 44 T1,.mv 4 T44]) .rt
def c26_Zam:C:=.rg [.mv 10 T5,.bi 11 .add T10 (.i 1),.mv 5 T11]
def w26_Zam:C:=.kp [0,1,5] [[45]] c26_Zam
def c25_Zam:C:=.rl [.mv 36 T0,.mv 37 T5,.ia 38 T36 T37 (kR 4),.fa 39 T38 4 1 1,.fa 40 T39 0 2 2] 41 T40 42 T1 43 58 (kR 0) [.mv 1 T43]
def w25_Zam:C:=.kp [0,1,5] [[45]] c25_Zam
def c21_Zam:C:=.sq (.rg [.mv 26 T1,.bi 27 .add T26 (.i 1),.mv 1 T27]) (.sq (.rl [.mv 28 T0,.mv 29 T5,.ia 30 T28 T29 (kR 4),.fa 31 T30 4 1 1,.fa 32 T31 0 1 1] 33 T32 34 T1 35 57 kS [.mv 1 T35]) w25_Zam)
def w21_Zam:C:=.kp [0,1,5] [[45]] c21_Zam
def c7_Zam:C:=.sq (.sq (.rg [.mv 6 T5,.mv 7 T0,.ln 8 false T7,.bi 9 .lss T6 T8]) (.cd T9 .skip (.ex 0))) (.sq (.bk 1 (.sq (.rg [.mv 12 T0,.mv 13 T5,.mv 14 T1,.cv (some 15) 56 [(T14,.v kI)],.ia 16 T12 T13 (kR 4),.fa 17 T16 4 0 0,.sf T17 T15 kS]) (.sq (.rg [.mv 18 T1,.bi 19 .add T18 (.i 1),.mv 1 T19]) (.sq (.rg [.mv 20 T0,.mv 21 T5,.mv 22 T1,.ia 23 T20 T21 (kR 4),.fa 24 T23 4 1 1,.fa 25 T24 0 0 0,.sf T25 T22 kI]) w21_Zam)))) w26_Zam)
def ir_Zam:C:=.sq (.rg [.mv 4 (.i 0)]) (.sq (.sq (.rg [.mv 5 (.i 0)]) (.bk 0 (.lk [0,1,5] [[45]] c7_Zam))) c27_Zam)
noncomputable abbrev T_Zam(nf:Nat):XT:=[e_Zap nf,e_Zal nf,e_Zar nf]
noncomputable def m_Zam(nf:Nat)(a:List TDecl)(k:Int):Option (List TDecl×Int):=runW (T_Zam nf) nf 45 4 (kR 4) ir_Zam a k
noncomputable def X_Zam{R:Type}(nf:Nat):C->Env->(Xt->Env->Option R)->Option R:=xc (R:=R) (T_Zam nf).S nf
noncomputable def j25_Zam(nf:Nat)(m6:Nat)(r35:List Str×Int)(x5_6:Int)(y45_25:List TDecl):Option (List TDecl×Int):=X_Zam nf c25_Zam ⟨[(0,.sl [45]),(1,.v kI r35.2),(5,.v kI x5_6)],[([45],.row true true (kR 4) y45_25)]⟩ (qB 1 (qS (X_Zam nf w26_Zam) (qM [0,1,5] [[45]] (X_Zam nf c7_Zam) m6 (qB 0 (qS (X_Zam nf c27_Zam) (KW 4 45 (kR 4)))))))
noncomputable def j21_Zam(nf:Nat)(m6:Nat)(x1_6:Int)(x5_6:Int)(y45_21:List TDecl):Option (List TDecl×Int):=X_Zam nf c21_Zam ⟨[(0,.sl [45]),(1,.v kI (w64 (x1_6+(1:Int)))),(5,.v kI x5_6)],[([45],.row true true (kR 4) y45_21)]⟩ (qB 1 (qS (X_Zam nf w26_Zam) (qM [0,1,5] [[45]] (X_Zam nf c7_Zam) m6 (qB 0 (qS (X_Zam nf c27_Zam) (KW 4 45 (kR 4)))))))
noncomputable def j26_Zam(nf:Nat)(m6:Nat)(r43:List Ty×Int)(x5_6:Int)(y45_26:List TDecl):Option (List TDecl×Int):=X_Zam nf c26_Zam ⟨[(0,.sl [45]),(1,.v kI r43.2),(5,.v kI x5_6)],[([45],.row true true (kR 4) y45_26)]⟩ (qM [0,1,5] [[45]] (X_Zam nf c7_Zam) m6 (qB 0 (qS (X_Zam nf c27_Zam) (KW 4 45 (kR 4)))))
noncomputable def l6_Zam(nf:Nat)(m6:Nat)(x1_6:Int)(x5_6:Int)(y45_6:List TDecl):Option (List TDecl×Int):=xit [0,1,5] [[45]] (X_Zam nf c7_Zam) (qB 0 (qS (X_Zam nf c27_Zam) (KW 4 45 (kR 4)))) m6 ⟨[(0,.sl [45]),(1,.v kI x1_6),(5,.v kI x5_6)],[([45],.row true true (kR 4) y45_6)]⟩
theorem j25_Zam_eq(nf:Nat)(m6:Nat)(r35:List Str×Int)(x5_6:Int)(y45_25:List TDecl):j25_Zam nf m6 r35 x5_6 y45_25=(gg (0<=x5_6∧x5_6<(List.length y45_25:Int))<|gg (0<=x5_6∧x5_6<(List.length y45_25:Int))<|cb (m_Zar nf nf (((gt y45_25 x5_6 TDecl.zero).row).args) r35.2) fun r43=>mark (j26_Zam nf m6 r43 x5_6 (List.set y45_25 (Int.toNat x5_6) (TDecl.mk ((gt y45_25 x5_6 TDecl.zero).name) (Ty.mk (((gt y45_25 x5_6 TDecl.zero).row).kind) (((gt y45_25 x5_6 TDecl.zero).row).labels) r43.1))))):=by
 unfold j25_Zam j26_Zam c25_Zam c27_Zam w26_Zam
 generalize c26_Zam=x0
 revert x0
 refine id ?_
 intro x0
 kernel_rfl
theorem j21_Zam_eq(nf:Nat)(m6:Nat)(x1_6:Int)(x5_6:Int)(y45_21:List TDecl):j21_Zam nf m6 x1_6 x5_6 y45_21=(gg (0<=x5_6∧x5_6<(List.length y45_21:Int))<|gg (0<=x5_6∧x5_6<(List.length y45_21:Int))<|cb (m_Zal nf (((gt y45_21 x5_6 TDecl.zero).row).labels) (w64 ((w64 (x1_6+(1:Int)))+(1:Int)))) fun r35=>mark (j25_Zam nf m6 r35 x5_6 (List.set y45_21 (Int.toNat x5_6) (TDecl.mk ((gt y45_21 x5_6 TDecl.zero).name) (Ty.mk (((gt y45_21 x5_6 TDecl.zero).row).kind) r35.1 (((gt y45_21 x5_6 TDecl.zero).row).args)))))):=by
 unfold j21_Zam j25_Zam c21_Zam c27_Zam w26_Zam w25_Zam
 generalize c26_Zam=x0
 generalize c25_Zam=x1
 revert x0 x1
 refine id ?_
 intro x0 x1
 kernel_rfl
theorem j26_Zam_eq(nf:Nat)(m6:Nat)(r43:List Ty×Int)(x5_6:Int)(y45_26:List TDecl):j26_Zam nf m6 r43 x5_6 y45_26=(mark (l6_Zam nf m6 r43.2 (w64 (x5_6+(1:Int))) y45_26)):=by kernel_rfl
theorem l6_Zam_eq(nf:Nat)(m6:Nat)(x1_6:Int)(x5_6:Int)(y45_6:List TDecl):l6_Zam nf (m6+1) x1_6 x5_6 y45_6=(br (decide (x5_6<(List.length y45_6:Int))) (cb (m_Zap nf x1_6) fun r15=>gg (0<=x5_6∧x5_6<(List.length y45_6:Int))<|gg (0<=x5_6∧x5_6<(List.length y45_6:Int))<|gg (0<=x5_6∧x5_6<(List.length (List.set y45_6 (Int.toNat x5_6) (TDecl.mk r15 (Ty.h ((gt y45_6 x5_6 TDecl.zero).row)))):Int))<|gg (0<=x5_6∧x5_6<(List.length (List.set y45_6 (Int.toNat x5_6) (TDecl.mk r15 (Ty.h ((gt y45_6 x5_6 TDecl.zero).row)))):Int))<|mark (j21_Zam nf m6 x1_6 x5_6 (List.set (List.set y45_6 (Int.toNat x5_6) (TDecl.mk r15 (Ty.h ((gt y45_6 x5_6 TDecl.zero).row)))) (Int.toNat x5_6) (TDecl.mk ((gt (List.set y45_6 (Int.toNat x5_6) (TDecl.mk r15 (Ty.h ((gt y45_6 x5_6 TDecl.zero).row)))) x5_6 TDecl.zero).name) (Ty.mk (w64 (x1_6+(1:Int))) (((gt (List.set y45_6 (Int.toNat x5_6) (TDecl.mk r15 (Ty.h ((gt y45_6 x5_6 TDecl.zero).row)))) x5_6 TDecl.zero).row).labels) (((gt (List.set y45_6 (Int.toNat x5_6) (TDecl.mk r15 (Ty.h ((gt y45_6 x5_6 TDecl.zero).row)))) x5_6 TDecl.zero).row).args)))))) (some (y45_6,x1_6))):=by
 unfold l6_Zam j21_Zam c7_Zam c27_Zam w21_Zam w26_Zam
 generalize c21_Zam=x0
 generalize c26_Zam=x1
 revert x0 x1
 refine id ?_
 intro x0 x1
 kernel_rfl
theorem m_Zam_eq(nf:Nat)(a:List TDecl)(k:Int):m_Zam nf a k=(mark (l6_Zam nf nf k (0:Int) a)):=by kernel_rfl
noncomputable def e_Zam(nf:Nat):XE:=eW 55 (kR 4) (fun a j=>m_Zam nf a j)
theorem o_Zam(nf:Nat):conOK Tryz.prog 55 (e_Zam nf).con:=by
 have ih:XT.ok Tryz.prog (T_Zam nf):=by exact⟨o_Zap nf,o_Zal nf,o_Zar nf,trivial⟩
 refine eW_ok fun a j x h=> ?_
 exact runW_ok (N:=45) ih Tryz.func55 (by kernel_rfl) rfl h
def ir_Zak:C:=.sq (.rg [.bx 2 T0 (kR 5),.mv 4 (.i 0)]) (.sq (.rg [.fa 5 T2 5 0 0,.ld 6 T5 (kL (kR 4)),.mv 7 T1,.cw (some 8) 55 (kR 4) T6 T7,.mv 1 T8]) (.sq (.rg [.mv 9 T1,.mv 4 T9]) .rt))
noncomputable abbrev T_Zak(nf:Nat):XT:=[e_Zam nf]
noncomputable def m_Zak(nf:Nat)(k:Int)(a_tables:List TDecl):Option ((Int)×(List TDecl)):=runQ (T_Zak nf) nf [.ag 5 [.sl 0],.v kI] [.row true (kR 4)] [.row true (kR 4)] [.t 4 (.v kI)] ir_Zak (((),()),k,()) a_tables
theorem m_Zak_eq(nf:Nat)(k:Int)(a_tables:List TDecl):m_Zak nf k a_tables=(cb (m_Zam nf a_tables k) fun r8=>some (r8.2,r8.1)):=by kernel_rfl
noncomputable def e_Zak(nf:Nat):XE:=eQ 22 [.ag 5 [.sl 0],.v kI] [.v kI] [.row true (kR 4)] [.row true (kR 4)] (fun t u=>m_Zak nf t.2.1 u)
theorem o_Zak(nf:Nat):conOK Tryz.prog 22 (e_Zak nf).con:=by
 have ih:XT.ok Tryz.prog (T_Zak nf):=by exact⟨o_Zam nf,trivial⟩
 refine eQ_ok fun t u x h=> ?_
 obtain⟨⟨_,_⟩,k,_⟩:=t
 exact runQ_ok (N:=10) ih Tryz.func22 (by kernel_rfl) rfl rfl rfl rfl rfl h
def c27_Zas:C:=.sq (.rg [.mv 44 T1,.mv 4 T44]) .rt
def c26_Zas:C:=.rg [.mv 10 T5,.bi 11 .add T10 (.i 1),.mv 5 T11]
def w26_Zas:C:=.kp [0,1,5] [[45]] c26_Zas
def c25_Zas:C:=.rl [.mv 36 T0,.mv 37 T5,.ia 38 T36 T37 (kR 8),.fa 39 T38 8 1 1,.fa 40 T39 0 2 2] 41 T40 42 T1 43 58 (kR 0) [.mv 1 T43]
def w25_Zas:C:=.kp [0,1,5] [[45]] c25_Zas
def c21_Zas:C:=.sq (.rg [.mv 26 T1,.bi 27 .add T26 (.i 1),.mv 1 T27]) (.sq (.rl [.mv 28 T0,.mv 29 T5,.ia 30 T28 T29 (kR 8),.fa 31 T30 8 1 1,.fa 32 T31 0 1 1] 33 T32 34 T1 35 57 kS [.mv 1 T35]) w25_Zas)
def w21_Zas:C:=.kp [0,1,5] [[45]] c21_Zas
def c7_Zas:C:=.sq (.sq (.rg [.mv 6 T5,.mv 7 T0,.ln 8 false T7,.bi 9 .lss T6 T8]) (.cd T9 .skip (.ex 0))) (.sq (.bk 1 (.sq (.rg [.mv 12 T0,.mv 13 T5,.mv 14 T1,.cv (some 15) 56 [(T14,.v kI)],.ia 16 T12 T13 (kR 8),.fa 17 T16 8 0 0,.sf T17 T15 kS]) (.sq (.rg [.mv 18 T1,.bi 19 .add T18 (.i 1),.mv 1 T19]) (.sq (.rg [.mv 20 T0,.mv 21 T5,.mv 22 T1,.ia 23 T20 T21 (kR 8),.fa 24 T23 8 1 1,.fa 25 T24 0 0 0,.sf T25 T22 kI]) w21_Zas)))) w26_Zas)
def ir_Zas:C:=.sq (.rg [.mv 4 (.i 0)]) (.sq (.sq (.rg [.mv 5 (.i 0)]) (.bk 0 (.lk [0,1,5] [[45]] c7_Zas))) c27_Zas)
noncomputable abbrev T_Zas(nf:Nat):XT:=[e_Zap nf,e_Zal nf,e_Zar nf]
noncomputable def m_Zas(nf:Nat)(a:List Typing)(k:Int):Option (List Typing×Int):=runW (T_Zas nf) nf 45 4 (kR 8) ir_Zas a k
noncomputable def X_Zas{R:Type}(nf:Nat):C->Env->(Xt->Env->Option R)->Option R:=xc (R:=R) (T_Zas nf).S nf
noncomputable def j25_Zas(nf:Nat)(m6:Nat)(r35:List Str×Int)(x5_6:Int)(y45_25:List Typing):Option (List Typing×Int):=X_Zas nf c25_Zas ⟨[(0,.sl [45]),(1,.v kI r35.2),(5,.v kI x5_6)],[([45],.row true true (kR 8) y45_25)]⟩ (qB 1 (qS (X_Zas nf w26_Zas) (qM [0,1,5] [[45]] (X_Zas nf c7_Zas) m6 (qB 0 (qS (X_Zas nf c27_Zas) (KW 4 45 (kR 8)))))))
noncomputable def j21_Zas(nf:Nat)(m6:Nat)(x1_6:Int)(x5_6:Int)(y45_21:List Typing):Option (List Typing×Int):=X_Zas nf c21_Zas ⟨[(0,.sl [45]),(1,.v kI (w64 (x1_6+(1:Int)))),(5,.v kI x5_6)],[([45],.row true true (kR 8) y45_21)]⟩ (qB 1 (qS (X_Zas nf w26_Zas) (qM [0,1,5] [[45]] (X_Zas nf c7_Zas) m6 (qB 0 (qS (X_Zas nf c27_Zas) (KW 4 45 (kR 8)))))))
noncomputable def j26_Zas(nf:Nat)(m6:Nat)(r43:List Ty×Int)(x5_6:Int)(y45_26:List Typing):Option (List Typing×Int):=X_Zas nf c26_Zas ⟨[(0,.sl [45]),(1,.v kI r43.2),(5,.v kI x5_6)],[([45],.row true true (kR 8) y45_26)]⟩ (qM [0,1,5] [[45]] (X_Zas nf c7_Zas) m6 (qB 0 (qS (X_Zas nf c27_Zas) (KW 4 45 (kR 8)))))
noncomputable def l6_Zas(nf:Nat)(m6:Nat)(x1_6:Int)(x5_6:Int)(y45_6:List Typing):Option (List Typing×Int):=xit [0,1,5] [[45]] (X_Zas nf c7_Zas) (qB 0 (qS (X_Zas nf c27_Zas) (KW 4 45 (kR 8)))) m6 ⟨[(0,.sl [45]),(1,.v kI x1_6),(5,.v kI x5_6)],[([45],.row true true (kR 8) y45_6)]⟩
theorem j25_Zas_eq(nf:Nat)(m6:Nat)(r35:List Str×Int)(x5_6:Int)(y45_25:List Typing):j25_Zas nf m6 r35 x5_6 y45_25=(gg (0<=x5_6∧x5_6<(List.length y45_25:Int))<|gg (0<=x5_6∧x5_6<(List.length y45_25:Int))<|cb (m_Zar nf nf (((gt y45_25 x5_6 Typing.zero).type).args) r35.2) fun r43=>mark (j26_Zas nf m6 r43 x5_6 (List.set y45_25 (Int.toNat x5_6) (Typing.mk ((gt y45_25 x5_6 Typing.zero).name) (Ty.mk (((gt y45_25 x5_6 Typing.zero).type).kind) (((gt y45_25 x5_6 Typing.zero).type).labels) r43.1))))):=by
 unfold j25_Zas j26_Zas c25_Zas c27_Zas w26_Zas
 generalize c26_Zas=x0
 revert x0
 refine id ?_
 intro x0
 kernel_rfl
theorem j21_Zas_eq(nf:Nat)(m6:Nat)(x1_6:Int)(x5_6:Int)(y45_21:List Typing):j21_Zas nf m6 x1_6 x5_6 y45_21=(gg (0<=x5_6∧x5_6<(List.length y45_21:Int))<|gg (0<=x5_6∧x5_6<(List.length y45_21:Int))<|cb (m_Zal nf (((gt y45_21 x5_6 Typing.zero).type).labels) (w64 ((w64 (x1_6+(1:Int)))+(1:Int)))) fun r35=>mark (j25_Zas nf m6 r35 x5_6 (List.set y45_21 (Int.toNat x5_6) (Typing.mk ((gt y45_21 x5_6 Typing.zero).name) (Ty.mk (((gt y45_21 x5_6 Typing.zero).type).kind) r35.1 (((gt y45_21 x5_6 Typing.zero).type).args)))))):=by
 unfold j21_Zas j25_Zas c21_Zas c27_Zas w26_Zas w25_Zas
 generalize c26_Zas=x0
 generalize c25_Zas=x1
 revert x0 x1
 refine id ?_
 intro x0 x1
 kernel_rfl
theorem j26_Zas_eq(nf:Nat)(m6:Nat)(r43:List Ty×Int)(x5_6:Int)(y45_26:List Typing):j26_Zas nf m6 r43 x5_6 y45_26=(mark (l6_Zas nf m6 r43.2 (w64 (x5_6+(1:Int))) y45_26)):=by kernel_rfl
theorem l6_Zas_eq(nf:Nat)(m6:Nat)(x1_6:Int)(x5_6:Int)(y45_6:List Typing):l6_Zas nf (m6+1) x1_6 x5_6 y45_6=(br (decide (x5_6<(List.length y45_6:Int))) (cb (m_Zap nf x1_6) fun r15=>gg (0<=x5_6∧x5_6<(List.length y45_6:Int))<|gg (0<=x5_6∧x5_6<(List.length y45_6:Int))<|gg (0<=x5_6∧x5_6<(List.length (List.set y45_6 (Int.toNat x5_6) (Typing.mk r15 (Ty.h ((gt y45_6 x5_6 Typing.zero).type)))):Int))<|gg (0<=x5_6∧x5_6<(List.length (List.set y45_6 (Int.toNat x5_6) (Typing.mk r15 (Ty.h ((gt y45_6 x5_6 Typing.zero).type)))):Int))<|mark (j21_Zas nf m6 x1_6 x5_6 (List.set (List.set y45_6 (Int.toNat x5_6) (Typing.mk r15 (Ty.h ((gt y45_6 x5_6 Typing.zero).type)))) (Int.toNat x5_6) (Typing.mk ((gt (List.set y45_6 (Int.toNat x5_6) (Typing.mk r15 (Ty.h ((gt y45_6 x5_6 Typing.zero).type)))) x5_6 Typing.zero).name) (Ty.mk (w64 (x1_6+(1:Int))) (((gt (List.set y45_6 (Int.toNat x5_6) (Typing.mk r15 (Ty.h ((gt y45_6 x5_6 Typing.zero).type)))) x5_6 Typing.zero).type).labels) (((gt (List.set y45_6 (Int.toNat x5_6) (Typing.mk r15 (Ty.h ((gt y45_6 x5_6 Typing.zero).type)))) x5_6 Typing.zero).type).args)))))) (some (y45_6,x1_6))):=by
 unfold l6_Zas j21_Zas c7_Zas c27_Zas w21_Zas w26_Zas
 generalize c21_Zas=x0
 generalize c26_Zas=x1
 revert x0 x1
 refine id ?_
 intro x0 x1
 kernel_rfl
theorem m_Zas_eq(nf:Nat)(a:List Typing)(k:Int):m_Zas nf a k=(mark (l6_Zas nf nf k (0:Int) a)):=by kernel_rfl
noncomputable def e_Zas(nf:Nat):XE:=eW 23 (kR 8) (fun a j=>m_Zas nf a j)
theorem o_Zas(nf:Nat):conOK Tryz.prog 23 (e_Zas nf).con:=by
 have ih:XT.ok Tryz.prog (T_Zas nf):=by exact⟨o_Zap nf,o_Zal nf,o_Zar nf,trivial⟩
 refine eW_ok fun a j x h=> ?_
 exact runW_ok (N:=45) ih Tryz.func23 (by kernel_rfl) rfl h
def ir_Zaq:C:=.sq (.rg [.bx 2 T0 (kR 0),.mv 4 (.i 0)]) (.sq (.rg [.fa 5 T2 0 1 1,.ld 6 T5 (kL kS),.mv 7 T1,.cw (some 8) 57 kS T6 T7,.mv 1 T8]) (.sq (.rg [.fa 9 T2 0 2 2,.ld 10 T9 (kL (kR 0)),.mv 11 T1,.cw (some 12) 58 (kR 0) T10 T11,.mv 1 T12]) (.sq (.rg [.mv 13 T1,.mv 4 T13]) .rt)))
noncomputable abbrev T_Zaq(nf:Nat):XT:=[e_Zal nf,e_Zar nf]
noncomputable def m_Zaq(nf:Nat)(a_kind:Int)(k:Int)(a_labels:List Str)(a_args:List Ty):Option ((Int)×(List Str)×(List Ty)):=runQ (T_Zaq nf) nf [.ag 0 [.v kI,.sl 0,.sl 1],.v kI] [.row true kS,.row true (kR 0)] [.row true kS,.row true (kR 0)] [.t 4 (.v kI)] ir_Zaq ((a_kind,(),(),()),k,()) (a_labels,a_args)
theorem m_Zaq_eq(nf:Nat)(a_kind:Int)(k:Int)(a_labels:List Str)(a_args:List Ty):m_Zaq nf a_kind k a_labels a_args=(cb (m_Zal nf a_labels k) fun r8=>cb (m_Zar nf nf a_args r8.2) fun r12=>some (r12.2,(r8.1,r12.1))):=by kernel_rfl
noncomputable def e_Zaq(nf:Nat):XE:=eQ 25 [.ag 0 [.v kI,.sl 0,.sl 1],.v kI] [.v kI] [.row true kS,.row true (kR 0)] [.row true kS,.row true (kR 0)] (fun t u=>m_Zaq nf t.1.1 t.2.1 u.1 u.2)
theorem o_Zaq(nf:Nat):conOK Tryz.prog 25 (e_Zaq nf).con:=by
 have ih:XT.ok Tryz.prog (T_Zaq nf):=by exact⟨o_Zal nf,o_Zar nf,trivial⟩
 refine eQ_ok fun t u x h=> ?_
 obtain⟨⟨a_kind,_,_,_⟩,k,_⟩:=t
 exact runQ_ok (N:=14) ih Tryz.func25 (by kernel_rfl) rfl rfl rfl rfl rfl h
def c39_Zao:C:=.sq (.rg [.mv 72 T1,.mv 4 T72]) .rt
def c38_Zao:C:=.rg [.mv 10 T5,.bi 11 .add T10 (.i 1),.mv 5 T11]
def w38_Zao:C:=.kp [0,1,5] [[73]] c38_Zao
def c37_Zao:C:=.rl [.mv 65 T0,.mv 66 T5,.ia 67 T65 T66 (kR 2),.fa 68 T67 2 5 7] 69 T68 70 T1 71 59 (kR 2) [.mv 1 T71]
def w37_Zao:C:=.kp [0,1,5] [[73]] c37_Zao
def c35_Zao:C:=.sq (.rl [.mv 58 T0,.mv 59 T5,.ia 60 T58 T59 (kR 2),.fa 61 T60 2 4 6] 62 T61 63 T1 64 57 kS [.mv 1 T64]) w37_Zao
def w35_Zao:C:=.kp [0,1,5] [[73]] c35_Zao
def c33_Zao:C:=.sq (.rl [.mv 50 T0,.mv 51 T5,.ia 52 T50 T51 (kR 2),.fa 53 T52 2 3 3,.fa 54 T53 0 2 2] 55 T54 56 T1 57 58 (kR 0) [.mv 1 T57]) w35_Zao
def w33_Zao:C:=.kp [0,1,5] [[73]] c33_Zao
def c29_Zao:C:=.sq (.rg [.mv 40 T1,.bi 41 .add T40 (.i 1),.mv 1 T41]) (.sq (.rl [.mv 42 T0,.mv 43 T5,.ia 44 T42 T43 (kR 2),.fa 45 T44 2 3 3,.fa 46 T45 0 1 1] 47 T46 48 T1 49 57 kS [.mv 1 T49]) w33_Zao)
def w29_Zao:C:=.kp [0,1,5] [[73]] c29_Zao
def c25_Zao:C:=.sq (.rg [.mv 32 T1,.bi 33 .add T32 (.i 1),.mv 1 T33]) (.sq (.rg [.mv 34 T0,.mv 35 T5,.mv 36 T1,.ia 37 T34 T35 (kR 2),.fa 38 T37 2 3 3,.fa 39 T38 0 0 0,.sf T39 T36 kI]) w29_Zao)
def w25_Zao:C:=.kp [0,1,5] [[73]] c25_Zao
def c21_Zao:C:=.sq (.rg [.mv 25 T1,.bi 26 .add T25 (.i 1),.mv 1 T26]) (.sq (.rg [.mv 27 T0,.mv 28 T5,.mv 29 T1,.ia 30 T27 T28 (kR 2),.fa 31 T30 2 2 2,.sf T31 T29 kI]) w25_Zao)
def w21_Zao:C:=.kp [0,1,5] [[73]] c21_Zao
def c17_Zao:C:=.sq (.rg [.mv 17 T1,.bi 18 .add T17 (.i 1),.mv 1 T18]) (.sq (.rg [.mv 19 T0,.mv 20 T5,.mv 21 T1,.cv (some 22) 56 [(T21,.v kI)],.ia 23 T19 T20 (kR 2),.fa 24 T23 2 1 1,.sf T24 T22 kS]) w21_Zao)
def w17_Zao:C:=.kp [0,1,5] [[73]] c17_Zao
def c7_Zao:C:=.sq (.sq (.rg [.mv 6 T5,.mv 7 T0,.ln 8 false T7,.bi 9 .lss T6 T8]) (.cd T9 .skip (.ex 0))) (.sq (.bk 1 (.sq (.rg [.mv 12 T0,.mv 13 T5,.mv 14 T1,.ia 15 T12 T13 (kR 2),.fa 16 T15 2 0 0,.sf T16 T14 kI]) w17_Zao)) w38_Zao)
def ir_Zao:C:=.sq (.rg [.mv 4 (.i 0)]) (.sq (.sq (.rg [.mv 5 (.i 0)]) (.bk 0 (.lk [0,1,5] [[73]] c7_Zao))) c39_Zao)
noncomputable def B_Zao(nf:Nat):XT:=[e_Zap nf,e_Zal nf,e_Zar nf]
noncomputable def G_Zao(nf:Nat):Nat->XT
 |0=>[]
 |kf+1=>[eW 59 (kR 2) (fun a j=>(fun(a:List Tm) (k:Int)=>runW (G_Zao nf kf++B_Zao nf) nf 73 4 (kR 2) ir_Zao a k) a j)]
noncomputable abbrev T_Zao(nf kf:Nat):XT:=G_Zao nf kf++B_Zao nf
noncomputable def m_Zao(nf kf:Nat)(a:List Tm)(k:Int):Option (List Tm×Int):=runW (T_Zao nf kf) nf 73 4 (kR 2) ir_Zao a k
noncomputable def X_Zao{R:Type}(nf kf:Nat):C->Env->(Xt->Env->Option R)->Option R:=xc (R:=R) (T_Zao nf kf).S nf
noncomputable def j37_Zao(nf kf:Nat)(m6:Nat)(r64:List Str×Int)(x5_6:Int)(y73_37:List Tm):Option (List Tm×Int):=X_Zao nf kf c37_Zao ⟨[(0,.sl [73]),(1,.v kI r64.2),(5,.v kI x5_6)],[([73],.row true true (kR 2) y73_37)]⟩ (qB 1 (qS (X_Zao nf kf w38_Zao) (qM [0,1,5] [[73]] (X_Zao nf kf c7_Zao) m6 (qB 0 (qS (X_Zao nf kf c39_Zao) (KW 4 73 (kR 2)))))))
noncomputable def j35_Zao(nf kf:Nat)(m6:Nat)(r57:List Ty×Int)(x5_6:Int)(y73_35:List Tm):Option (List Tm×Int):=X_Zao nf kf c35_Zao ⟨[(0,.sl [73]),(1,.v kI r57.2),(5,.v kI x5_6)],[([73],.row true true (kR 2) y73_35)]⟩ (qB 1 (qS (X_Zao nf kf w38_Zao) (qM [0,1,5] [[73]] (X_Zao nf kf c7_Zao) m6 (qB 0 (qS (X_Zao nf kf c39_Zao) (KW 4 73 (kR 2)))))))
noncomputable def j33_Zao(nf kf:Nat)(m6:Nat)(r49:List Str×Int)(x5_6:Int)(y73_33:List Tm):Option (List Tm×Int):=X_Zao nf kf c33_Zao ⟨[(0,.sl [73]),(1,.v kI r49.2),(5,.v kI x5_6)],[([73],.row true true (kR 2) y73_33)]⟩ (qB 1 (qS (X_Zao nf kf w38_Zao) (qM [0,1,5] [[73]] (X_Zao nf kf c7_Zao) m6 (qB 0 (qS (X_Zao nf kf c39_Zao) (KW 4 73 (kR 2)))))))
noncomputable def j29_Zao(nf kf:Nat)(m6:Nat)(x1_6:Int)(x5_6:Int)(y73_29:List Tm):Option (List Tm×Int):=X_Zao nf kf c29_Zao ⟨[(0,.sl [73]),(1,.v kI (w64 ((w64 ((w64 (x1_6+(1:Int)))+(1:Int)))+(1:Int)))),(5,.v kI x5_6)],[([73],.row true true (kR 2) y73_29)]⟩ (qB 1 (qS (X_Zao nf kf w38_Zao) (qM [0,1,5] [[73]] (X_Zao nf kf c7_Zao) m6 (qB 0 (qS (X_Zao nf kf c39_Zao) (KW 4 73 (kR 2)))))))
noncomputable def j25_Zao(nf kf:Nat)(m6:Nat)(x1_6:Int)(x5_6:Int)(y73_25:List Tm):Option (List Tm×Int):=X_Zao nf kf c25_Zao ⟨[(0,.sl [73]),(1,.v kI (w64 ((w64 (x1_6+(1:Int)))+(1:Int)))),(5,.v kI x5_6)],[([73],.row true true (kR 2) y73_25)]⟩ (qB 1 (qS (X_Zao nf kf w38_Zao) (qM [0,1,5] [[73]] (X_Zao nf kf c7_Zao) m6 (qB 0 (qS (X_Zao nf kf c39_Zao) (KW 4 73 (kR 2)))))))
noncomputable def j21_Zao(nf kf:Nat)(m6:Nat)(x1_6:Int)(x5_6:Int)(y73_21:List Tm):Option (List Tm×Int):=X_Zao nf kf c21_Zao ⟨[(0,.sl [73]),(1,.v kI (w64 (x1_6+(1:Int)))),(5,.v kI x5_6)],[([73],.row true true (kR 2) y73_21)]⟩ (qB 1 (qS (X_Zao nf kf w38_Zao) (qM [0,1,5] [[73]] (X_Zao nf kf c7_Zao) m6 (qB 0 (qS (X_Zao nf kf c39_Zao) (KW 4 73 (kR 2)))))))
noncomputable def j17_Zao(nf kf:Nat)(m6:Nat)(x1_6:Int)(x5_6:Int)(y73_17:List Tm):Option (List Tm×Int):=X_Zao nf kf c17_Zao ⟨[(0,.sl [73]),(1,.v kI x1_6),(5,.v kI x5_6)],[([73],.row true true (kR 2) y73_17)]⟩ (qB 1 (qS (X_Zao nf kf w38_Zao) (qM [0,1,5] [[73]] (X_Zao nf kf c7_Zao) m6 (qB 0 (qS (X_Zao nf kf c39_Zao) (KW 4 73 (kR 2)))))))
noncomputable def j38_Zao(nf kf:Nat)(m6:Nat)(r71:List Tm×Int)(x5_6:Int)(y73_38:List Tm):Option (List Tm×Int):=X_Zao nf kf c38_Zao ⟨[(0,.sl [73]),(1,.v kI r71.2),(5,.v kI x5_6)],[([73],.row true true (kR 2) y73_38)]⟩ (qM [0,1,5] [[73]] (X_Zao nf kf c7_Zao) m6 (qB 0 (qS (X_Zao nf kf c39_Zao) (KW 4 73 (kR 2)))))
noncomputable def l6_Zao(nf kf:Nat)(m6:Nat)(x1_6:Int)(x5_6:Int)(y73_6:List Tm):Option (List Tm×Int):=xit [0,1,5] [[73]] (X_Zao nf kf c7_Zao) (qB 0 (qS (X_Zao nf kf c39_Zao) (KW 4 73 (kR 2)))) m6 ⟨[(0,.sl [73]),(1,.v kI x1_6),(5,.v kI x5_6)],[([73],.row true true (kR 2) y73_6)]⟩
theorem j37_Zao_eq(nf kf:Nat)(m6:Nat)(r64:List Str×Int)(x5_6:Int)(y73_37:List Tm):j37_Zao nf (kf+1) m6 r64 x5_6 y73_37=(gg (0<=x5_6∧x5_6<(List.length y73_37:Int))<|gg (0<=x5_6∧x5_6<(List.length y73_37:Int))<|cb (m_Zao nf kf ((gt y73_37 x5_6 Tm.zero).args) r64.2) fun r71=>mark (j38_Zao nf (kf+1) m6 r71 x5_6 (List.set y73_37 (Int.toNat x5_6) (Tm.mk ((gt y73_37 x5_6 Tm.zero).kind) ((gt y73_37 x5_6 Tm.zero).name) ((gt y73_37 x5_6 Tm.zero).n) (Ty.h ((gt y73_37 x5_6 Tm.zero).type)) ((gt y73_37 x5_6 Tm.zero).labels) r71.1)))):=by
 unfold j37_Zao j38_Zao c37_Zao c39_Zao w38_Zao
 generalize c38_Zao=x0
 revert x0
 refine id ?_
 intro x0
 kernel_rfl
theorem j35_Zao_eq(nf kf:Nat)(m6:Nat)(r57:List Ty×Int)(x5_6:Int)(y73_35:List Tm):j35_Zao nf (kf+1) m6 r57 x5_6 y73_35=(gg (0<=x5_6∧x5_6<(List.length y73_35:Int))<|gg (0<=x5_6∧x5_6<(List.length y73_35:Int))<|cb (m_Zal nf ((gt y73_35 x5_6 Tm.zero).labels) r57.2) fun r64=>mark (j37_Zao nf (kf+1) m6 r64 x5_6 (List.set y73_35 (Int.toNat x5_6) (Tm.mk ((gt y73_35 x5_6 Tm.zero).kind) ((gt y73_35 x5_6 Tm.zero).name) ((gt y73_35 x5_6 Tm.zero).n) (Ty.h ((gt y73_35 x5_6 Tm.zero).type)) r64.1 ((gt y73_35 x5_6 Tm.zero).args))))):=by
 unfold j35_Zao j37_Zao c35_Zao c39_Zao w38_Zao w37_Zao
 generalize c38_Zao=x0
 generalize c37_Zao=x1
 revert x0 x1
 refine id ?_
 intro x0 x1
 kernel_rfl
theorem j33_Zao_eq(nf kf:Nat)(m6:Nat)(r49:List Str×Int)(x5_6:Int)(y73_33:List Tm):j33_Zao nf (kf+1) m6 r49 x5_6 y73_33=(gg (0<=x5_6∧x5_6<(List.length y73_33:Int))<|gg (0<=x5_6∧x5_6<(List.length y73_33:Int))<|cb (m_Zar nf nf (((gt y73_33 x5_6 Tm.zero).type).args) r49.2) fun r57=>mark (j35_Zao nf (kf+1) m6 r57 x5_6 (List.set y73_33 (Int.toNat x5_6) (Tm.mk ((gt y73_33 x5_6 Tm.zero).kind) ((gt y73_33 x5_6 Tm.zero).name) ((gt y73_33 x5_6 Tm.zero).n) (Ty.mk (((gt y73_33 x5_6 Tm.zero).type).kind) (((gt y73_33 x5_6 Tm.zero).type).labels) r57.1) ((gt y73_33 x5_6 Tm.zero).labels) ((gt y73_33 x5_6 Tm.zero).args))))):=by
 unfold j33_Zao j35_Zao c33_Zao c39_Zao w38_Zao w35_Zao
 generalize c38_Zao=x0
 generalize c35_Zao=x1
 revert x0 x1
 refine id ?_
 intro x0 x1
 kernel_rfl
theorem j29_Zao_eq(nf kf:Nat)(m6:Nat)(x1_6:Int)(x5_6:Int)(y73_29:List Tm):j29_Zao nf (kf+1) m6 x1_6 x5_6 y73_29=(gg (0<=x5_6∧x5_6<(List.length y73_29:Int))<|gg (0<=x5_6∧x5_6<(List.length y73_29:Int))<|cb (m_Zal nf (((gt y73_29 x5_6 Tm.zero).type).labels) (w64 ((w64 ((w64 ((w64 (x1_6+(1:Int)))+(1:Int)))+(1:Int)))+(1:Int)))) fun r49=>mark (j33_Zao nf (kf+1) m6 r49 x5_6 (List.set y73_29 (Int.toNat x5_6) (Tm.mk ((gt y73_29 x5_6 Tm.zero).kind) ((gt y73_29 x5_6 Tm.zero).name) ((gt y73_29 x5_6 Tm.zero).n) (Ty.mk (((gt y73_29 x5_6 Tm.zero).type).kind) r49.1 (((gt y73_29 x5_6 Tm.zero).type).args)) ((gt y73_29 x5_6 Tm.zero).labels) ((gt y73_29 x5_6 Tm.zero).args))))):=by
 unfold j29_Zao j33_Zao c29_Zao c39_Zao w38_Zao w33_Zao
 generalize c38_Zao=x0
 generalize c33_Zao=x1
 revert x0 x1
 refine id ?_
 intro x0 x1
 kernel_rfl
theorem j25_Zao_eq(nf kf:Nat)(m6:Nat)(x1_6:Int)(x5_6:Int)(y73_25:List Tm):j25_Zao nf (kf+1) m6 x1_6 x5_6 y73_25=(gg (0<=x5_6∧x5_6<(List.length y73_25:Int))<|gg (0<=x5_6∧x5_6<(List.length y73_25:Int))<|mark (j29_Zao nf (kf+1) m6 x1_6 x5_6 (List.set y73_25 (Int.toNat x5_6) (Tm.mk ((gt y73_25 x5_6 Tm.zero).kind) ((gt y73_25 x5_6 Tm.zero).name) ((gt y73_25 x5_6 Tm.zero).n) (Ty.mk (w64 ((w64 ((w64 (x1_6+(1:Int)))+(1:Int)))+(1:Int))) (((gt y73_25 x5_6 Tm.zero).type).labels) (((gt y73_25 x5_6 Tm.zero).type).args)) ((gt y73_25 x5_6 Tm.zero).labels) ((gt y73_25 x5_6 Tm.zero).args))))):=by
 unfold j25_Zao j29_Zao c25_Zao c39_Zao w38_Zao w29_Zao
 generalize c38_Zao=x0
 generalize c29_Zao=x1
 revert x0 x1
 refine id ?_
 intro x0 x1
 kernel_rfl
theorem j21_Zao_eq(nf kf:Nat)(m6:Nat)(x1_6:Int)(x5_6:Int)(y73_21:List Tm):j21_Zao nf (kf+1) m6 x1_6 x5_6 y73_21=(gg (0<=x5_6∧x5_6<(List.length y73_21:Int))<|gg (0<=x5_6∧x5_6<(List.length y73_21:Int))<|mark (j25_Zao nf (kf+1) m6 x1_6 x5_6 (List.set y73_21 (Int.toNat x5_6) (Tm.mk ((gt y73_21 x5_6 Tm.zero).kind) ((gt y73_21 x5_6 Tm.zero).name) (w64 ((w64 (x1_6+(1:Int)))+(1:Int))) (Ty.h ((gt y73_21 x5_6 Tm.zero).type)) ((gt y73_21 x5_6 Tm.zero).labels) ((gt y73_21 x5_6 Tm.zero).args))))):=by
 unfold j21_Zao j25_Zao c21_Zao c39_Zao w38_Zao w25_Zao
 generalize c38_Zao=x0
 generalize c25_Zao=x1
 revert x0 x1
 refine id ?_
 intro x0 x1
 kernel_rfl
theorem j17_Zao_eq(nf kf:Nat)(m6:Nat)(x1_6:Int)(x5_6:Int)(y73_17:List Tm):j17_Zao nf (kf+1) m6 x1_6 x5_6 y73_17=(cb (m_Zap nf (w64 (x1_6+(1:Int)))) fun r22=>gg (0<=x5_6∧x5_6<(List.length y73_17:Int))<|gg (0<=x5_6∧x5_6<(List.length y73_17:Int))<|mark (j21_Zao nf (kf+1) m6 x1_6 x5_6 (List.set y73_17 (Int.toNat x5_6) (Tm.mk ((gt y73_17 x5_6 Tm.zero).kind) r22 ((gt y73_17 x5_6 Tm.zero).n) (Ty.h ((gt y73_17 x5_6 Tm.zero).type)) ((gt y73_17 x5_6 Tm.zero).labels) ((gt y73_17 x5_6 Tm.zero).args))))):=by
 unfold j17_Zao j21_Zao c17_Zao c39_Zao w38_Zao w21_Zao
 generalize c38_Zao=x0
 generalize c21_Zao=x1
 revert x0 x1
 refine id ?_
 intro x0 x1
 kernel_rfl
theorem j38_Zao_eq(nf kf:Nat)(m6:Nat)(r71:List Tm×Int)(x5_6:Int)(y73_38:List Tm):j38_Zao nf (kf+1) m6 r71 x5_6 y73_38=(mark (l6_Zao nf (kf+1) m6 r71.2 (w64 (x5_6+(1:Int))) y73_38)):=by kernel_rfl
theorem l6_Zao_eq(nf kf:Nat)(m6:Nat)(x1_6:Int)(x5_6:Int)(y73_6:List Tm):l6_Zao nf (kf+1) (m6+1) x1_6 x5_6 y73_6=(br (decide (x5_6<(List.length y73_6:Int))) (gg (0<=x5_6∧x5_6<(List.length y73_6:Int))<|gg (0<=x5_6∧x5_6<(List.length y73_6:Int))<|mark (j17_Zao nf (kf+1) m6 x1_6 x5_6 (List.set y73_6 (Int.toNat x5_6) (Tm.mk x1_6 ((gt y73_6 x5_6 Tm.zero).name) ((gt y73_6 x5_6 Tm.zero).n) (Ty.h ((gt y73_6 x5_6 Tm.zero).type)) ((gt y73_6 x5_6 Tm.zero).labels) ((gt y73_6 x5_6 Tm.zero).args))))) (some (y73_6,x1_6))):=by
 unfold l6_Zao j17_Zao c7_Zao c39_Zao w17_Zao w38_Zao
 generalize c17_Zao=x0
 generalize c38_Zao=x1
 revert x0 x1
 refine id ?_
 intro x0 x1
 kernel_rfl
theorem m_Zao_eq(nf kf:Nat)(a:List Tm)(k:Int):m_Zao nf (kf+1) a k=(mark (l6_Zao nf (kf+1) nf k (0:Int) a)):=by kernel_rfl
noncomputable def e_Zao(nf:Nat):XE:=eW 59 (kR 2) (fun a j=>m_Zao nf nf a j)
theorem gok_Zao(nf:Nat):∀kf:Nat,XT.ok Tryz.prog (G_Zao nf kf++B_Zao nf)
 |0=>by exact⟨o_Zap nf,o_Zal nf,o_Zar nf,trivial⟩
 |kf+1=>by
  have ih:=gok_Zao nf kf
  refine⟨?_,(by exact⟨o_Zap nf,o_Zal nf,o_Zar nf,trivial⟩)⟩
  ·refine eW_ok fun a j x h=> ?_
   exact runW_ok (N:=73) ih Tryz.func59 (by kernel_rfl) rfl h
theorem o_Zao(nf:Nat):conOK Tryz.prog 59 (e_Zao nf).con:=by
 have ih:=gok_Zao nf nf
 refine eW_ok fun a j x h=> ?_
 exact runW_ok (N:=73) ih Tryz.func59 (by kernel_rfl) rfl h
def ir_Zan:C:=.sq (.rg [.bx 2 T0 (kR 2),.mv 4 (.i 0)]) (.sq (.rg [.fa 5 T2 2 3 3,.ld 6 T5 (kR 0),.mv 7 T1,.cq (some 8) 25 [(T6,.q),(T7,.v kI)],.mv 1 T8]) (.sq (.rg [.fa 9 T2 2 4 6,.ld 10 T9 (kL kS),.mv 11 T1,.cw (some 12) 57 kS T10 T11,.mv 1 T12]) (.sq (.rg [.fa 13 T2 2 5 7,.ld 14 T13 (kL (kR 2)),.mv 15 T1,.cw (some 16) 59 (kR 2) T14 T15,.mv 1 T16]) (.sq (.rg [.mv 17 T1,.mv 4 T17]) .rt))))
noncomputable abbrev T_Zan(nf:Nat):XT:=[e_Zaq nf,e_Zal nf,e_Zao nf]
noncomputable def m_Zan(nf:Nat)(a_kind:Int)(a_name:Str)(a_n:Int)(a_type_kind:Int)(k:Int)(a_type_labels:List Str)(a_type_args:List Ty)(a_labels:List Str)(a_args:List Tm):Option ((Int)×(List Str)×(List Ty)×(List Str)×(List Tm)):=runQ (T_Zan nf) nf [.ag 2 [.v kI,.v kS,.v kI,.v kI,.sl 0,.sl 1,.sl 2,.sl 3],.v kI] [.row true kS,.row true (kR 0),.row true kS,.row true (kR 2)] [.row true kS,.row true (kR 0),.row true kS,.row true (kR 2)] [.t 4 (.v kI)] ir_Zan ((a_kind,a_name,a_n,a_type_kind,(),(),(),(),()),k,()) (a_type_labels,a_type_args,a_labels,a_args)
theorem m_Zan_eq(nf:Nat)(a_kind:Int)(a_name:Str)(a_n:Int)(a_type_kind:Int)(k:Int)(a_type_labels:List Str)(a_type_args:List Ty)(a_labels:List Str)(a_args:List Tm):m_Zan nf a_kind a_name a_n a_type_kind k a_type_labels a_type_args a_labels a_args=(cb (m_Zaq nf a_type_kind k a_type_labels a_type_args) fun r8=>cb (m_Zal nf a_labels r8.1) fun r12=>cb (m_Zao nf nf a_args r12.2) fun r16=>some (r16.2,(r8.2.1,r8.2.2,r12.1,r16.1))):=by kernel_rfl
noncomputable def e_Zan(nf:Nat):XE:=eQ 24 [.ag 2 [.v kI,.v kS,.v kI,.v kI,.sl 0,.sl 1,.sl 2,.sl 3],.v kI] [.v kI] [.row true kS,.row true (kR 0),.row true kS,.row true (kR 2)] [.row true kS,.row true (kR 0),.row true kS,.row true (kR 2)] (fun t u=>m_Zan nf t.1.1 t.1.2.1 t.1.2.2.1 t.1.2.2.2.1 t.2.1 u.1 u.2.1 u.2.2.1 u.2.2.2)
theorem o_Zan(nf:Nat):conOK Tryz.prog 24 (e_Zan nf).con:=by
 have ih:XT.ok Tryz.prog (T_Zan nf):=by exact⟨o_Zaq nf,o_Zal nf,o_Zao nf,trivial⟩
 refine eQ_ok fun t u x h=> ?_
 obtain⟨⟨a_kind,a_name,a_n,a_type_kind,_,_,_,_,_⟩,k,_⟩:=t
 exact runQ_ok (N:=18) ih Tryz.func24 (by kernel_rfl) rfl rfl rfl rfl rfl h
def c25_Zah:C:=.sq (.rg [.mv 21 T1,.mv 4 T21]) .rt
def c7_Zah:C:=.sq (.sq (.rg [.mv 6 T5,.mv 7 T0,.ln 8 false T7,.bi 9 .lss T6 T8]) (.cd T9 .skip (.ex 0))) (.sq (.bk 1 (.sq (.sq (.dr [] [.mv 12 T0,.mv 13 T5,.ia 14 T12 T13 kS,.ld 15 T14 kS,.mv 16 T1,.cv (some 17) 56 [(T16,.v kI)]] [.bi 18 .neq T15 T17]) (.cd T18 (.sq (.rg [.mv 4 (.i (-1))]) .rt) .skip)) (.rg [.mv 19 T1,.bi 20 .add T19 (.i 1),.mv 1 T20]))) (.rg [.mv 10 T5,.bi 11 .add T10 (.i 1),.mv 5 T11]))
def ir_Zah:C:=.sq (.rg [.mv 4 (.i 0)]) (.sq (.sq (.rg [.mv 5 (.i 0)]) (.bk 0 (.lk [0,1,5] [] c7_Zah))) c25_Zah)
noncomputable abbrev T_Zah(nf:Nat):XT:=[e_Zap nf]
noncomputable def m_Zah(nf:Nat)(a:List Str)(k:Int):Option (Int):=runF (T_Zah nf) nf [.v (kL kS),.v kI] [.t 4 (.v kI)] ir_Zah (a,k,())
noncomputable def X_Zah{R:Type}(nf:Nat):C->Env->(Xt->Env->Option R)->Option R:=xc (R:=R) (T_Zah nf).S nf
noncomputable def l6_Zah(nf:Nat)(m6:Nat)(a:List Str)(x1_6:Int)(x5_6:Int):Option (Int):=xit [0,1,5] [] (X_Zah nf c7_Zah) (qB 0 (qS (X_Zah nf c25_Zah) (KF [.t 4 (.v kI)]))) m6 ⟨[(0,.v (kL kS) a),(1,.v kI x1_6),(5,.v kI x5_6)],[]⟩
theorem l6_Zah_eq(nf:Nat)(m6:Nat)(a:List Str)(x1_6:Int)(x5_6:Int):l6_Zah nf (m6+1) a x1_6 x5_6=(br (decide (x5_6<(List.length a:Int))) (gg (0<=x5_6∧x5_6<(List.length a:Int))<|cb (m_Zap nf x1_6) fun r17=>br (!((gt a x5_6 ([]:Str))==r17)) (some (-1:Int)) (mark (l6_Zah nf m6 a (w64 (x1_6+(1:Int))) (w64 (x5_6+(1:Int)))))) (some x1_6)):=by kernel_rfl
theorem m_Zah_eq(nf:Nat)(a:List Str)(k:Int):m_Zah nf a k=(mark (l6_Zah nf nf a k (0:Int))):=by kernel_rfl
noncomputable def e_Zah(nf:Nat):XE:=eF 60 [.v (kL kS),.v kI] [.v kI] (fun t=>m_Zah nf t.1 t.2.1)
theorem o_Zah(nf:Nat):conOK Tryz.prog 60 (e_Zah nf).con:=by
 have ih:XT.ok Tryz.prog (T_Zah nf):=by exact⟨o_Zap nf,trivial⟩
 refine eF_ok fun t x h=> ?_
 obtain⟨a,k,_⟩:=t
 exact runF_ok (N:=22) ih Tryz.func60 (by kernel_rfl) rfl h
def c45_Zaj:C:=.sq (.rg [.mv 39 T1,.mv 4 T39]) .rt
def c7_Zaj:C:=.sq (.sq (.rg [.mv 6 T5,.mv 7 T0,.ln 8 false T7,.bi 9 .lss T6 T8]) (.cd T9 .skip (.ex 0))) (.sq (.bk 1 (.sq (.sq (.rg [.mv 12 T0,.mv 13 T5,.ia 14 T12 T13 (kR 0),.fa 15 T14 0 0 0,.ld 16 T15 kI,.mv 17 T1,.bi 18 .neq T16 T17]) (.cd T18 (.sq (.rg [.mv 4 (.i (-1))]) .rt) .skip)) (.sq (.rg [.mv 19 T1,.bi 20 .add T19 (.i 1),.mv 1 T20]) (.sq (.rg [.mv 21 T0,.mv 22 T5,.ia 23 T21 T22 (kR 0),.fa 24 T23 0 1 1,.ld 25 T24 (kL kS),.mv 26 T1,.cv (some 27) 60 [(T25,.v (kL kS)),(T26,.v kI)],.mv 1 T27]) (.sq (.sq (.rg [.mv 28 T1,.bi 29 .lss T28 (.i 0)]) (.cd T29 (.sq (.rg [.mv 4 (.i (-1))]) .rt) .skip)) (.sq (.rg [.mv 30 T0,.mv 31 T5,.ia 32 T30 T31 (kR 0),.fa 33 T32 0 2 2,.ld 34 T33 (kL (kR 0)),.mv 35 T1,.cv (some 36) 61 [(T34,.v (kL (kR 0))),(T35,.v kI)],.mv 1 T36]) (.sq (.rg [.mv 37 T1,.bi 38 .lss T37 (.i 0)]) (.cd T38 (.sq (.rg [.mv 4 (.i (-1))]) .rt) .skip)))))))) (.rg [.mv 10 T5,.bi 11 .add T10 (.i 1),.mv 5 T11]))
def ir_Zaj:C:=.sq (.rg [.mv 4 (.i 0)]) (.sq (.sq (.rg [.mv 5 (.i 0)]) (.bk 0 (.lk [0,1,5] [] c7_Zaj))) c45_Zaj)
noncomputable def B_Zaj(nf:Nat):XT:=[e_Zah nf]
noncomputable def G_Zaj(nf:Nat):Nat->XT
 |0=>[]
 |kf+1=>[eF 61 [.v (kL (kR 0)),.v kI] [.v kI] (fun t=>(fun(a:List Ty) (k:Int)=>runF (G_Zaj nf kf++B_Zaj nf) nf [.v (kL (kR 0)),.v kI] [.t 4 (.v kI)] ir_Zaj (a,k,())) t.1 t.2.1)]
noncomputable abbrev T_Zaj(nf kf:Nat):XT:=G_Zaj nf kf++B_Zaj nf
noncomputable def m_Zaj(nf kf:Nat)(a:List Ty)(k:Int):Option (Int):=runF (T_Zaj nf kf) nf [.v (kL (kR 0)),.v kI] [.t 4 (.v kI)] ir_Zaj (a,k,())
noncomputable def X_Zaj{R:Type}(nf kf:Nat):C->Env->(Xt->Env->Option R)->Option R:=xc (R:=R) (T_Zaj nf kf).S nf
noncomputable def l6_Zaj(nf kf:Nat)(m6:Nat)(a:List Ty)(x1_6:Int)(x5_6:Int):Option (Int):=xit [0,1,5] [] (X_Zaj nf kf c7_Zaj) (qB 0 (qS (X_Zaj nf kf c45_Zaj) (KF [.t 4 (.v kI)]))) m6 ⟨[(0,.v (kL (kR 0)) a),(1,.v kI x1_6),(5,.v kI x5_6)],[]⟩
theorem l6_Zaj_eq(nf kf:Nat)(m6:Nat)(a:List Ty)(x1_6:Int)(x5_6:Int):l6_Zaj nf (kf+1) (m6+1) a x1_6 x5_6=(br (decide (x5_6<(List.length a:Int))) (gg (0<=x5_6∧x5_6<(List.length a:Int))<|br (!(((gt a x5_6 Ty.zero).kind)==x1_6)) (some (-1:Int)) (gg (0<=x5_6∧x5_6<(List.length a:Int))<|cb (m_Zah nf ((gt a x5_6 Ty.zero).labels) (w64 (x1_6+(1:Int)))) fun r27=>br (decide (r27<(0:Int))) (some (-1:Int)) (gg (0<=x5_6∧x5_6<(List.length a:Int))<|cb (m_Zaj nf kf ((gt a x5_6 Ty.zero).args) r27) fun r36=>br (decide (r36<(0:Int))) (some (-1:Int)) (mark (l6_Zaj nf (kf+1) m6 a r36 (w64 (x5_6+(1:Int)))))))) (some x1_6)):=by kernel_rfl
theorem m_Zaj_eq(nf kf:Nat)(a:List Ty)(k:Int):m_Zaj nf (kf+1) a k=(mark (l6_Zaj nf (kf+1) nf a k (0:Int))):=by kernel_rfl
noncomputable def e_Zaj(nf:Nat):XE:=eF 61 [.v (kL (kR 0)),.v kI] [.v kI] (fun t=>m_Zaj nf nf t.1 t.2.1)
theorem gok_Zaj(nf:Nat):∀kf:Nat,XT.ok Tryz.prog (G_Zaj nf kf++B_Zaj nf)
 |0=>by exact⟨o_Zah nf,trivial⟩
 |kf+1=>by
  have ih:=gok_Zaj nf kf
  refine⟨?_,(by exact⟨o_Zah nf,trivial⟩)⟩
  ·refine eF_ok fun t x h=> ?_
   obtain⟨a,k,_⟩:=t
   exact runF_ok (N:=40) ih Tryz.func61 (by kernel_rfl) rfl h
theorem o_Zaj(nf:Nat):conOK Tryz.prog 61 (e_Zaj nf).con:=by
 have ih:=gok_Zaj nf nf
 refine eF_ok fun t x h=> ?_
 obtain⟨a,k,_⟩:=t
 exact runF_ok (N:=40) ih Tryz.func61 (by kernel_rfl) rfl h
def ir_Zai:C:=.sq (.rg [.bx 2 T0 (kR 0),.mv 4 (.i 0)]) (.sq (.rg [.fa 5 T2 0 1 1,.ld 6 T5 (kL kS),.mv 7 T1,.cv (some 8) 60 [(T6,.v (kL kS)),(T7,.v kI)],.mv 1 T8]) (.sq (.sq (.rg [.mv 9 T1,.bi 10 .lss T9 (.i 0)]) (.cd T10 (.sq (.rg [.mv 4 (.i (-1))]) .rt) .skip)) (.sq (.rg [.fa 11 T2 0 2 2,.ld 12 T11 (kL (kR 0)),.mv 13 T1,.cv (some 14) 61 [(T12,.v (kL (kR 0))),(T13,.v kI)],.mv 1 T14]) (.sq (.sq (.rg [.mv 15 T1,.bi 16 .lss T15 (.i 0)]) (.cd T16 (.sq (.rg [.mv 4 (.i (-1))]) .rt) .skip)) (.sq (.rg [.mv 17 T1,.mv 4 T17]) .rt)))))
noncomputable abbrev T_Zai(nf:Nat):XT:=[e_Zah nf,e_Zaj nf]
noncomputable def m_Zai(nf:Nat)(a:Ty)(k:Int):Option (Int):=runF (T_Zai nf) nf [.v (kR 0),.v kI] [.t 4 (.v kI)] ir_Zai (a,k,())
theorem m_Zai_eq(nf:Nat)(a:Ty)(k:Int):m_Zai nf a k=(cb (m_Zah nf a.labels k) fun r8=>br (decide (r8<(0:Int))) (some (-1:Int)) (cb (m_Zaj nf nf a.args r8) fun r14=>br (decide (r14<(0:Int))) (some (-1:Int)) (some r14))):=by kernel_rfl
noncomputable def e_Zai(nf:Nat):XE:=eF 26 [.v (kR 0),.v kI] [.v kI] (fun t=>m_Zai nf t.1 t.2.1)
theorem o_Zai(nf:Nat):conOK Tryz.prog 26 (e_Zai nf).con:=by
 have ih:XT.ok Tryz.prog (T_Zai nf):=by exact⟨o_Zah nf,o_Zaj nf,trivial⟩
 refine eF_ok fun t x h=> ?_
 obtain⟨a,k,_⟩:=t
 exact runF_ok (N:=18) ih Tryz.func26 (by kernel_rfl) rfl h
end Go.Q
