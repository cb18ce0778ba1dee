/- Plans: the program's side. -/
import Derived.Test.YtmkelbchboiliaaGreatB20
import Derived.Test.YtmkelbchboiliaaGreatProg
import Derived.KernelRfl
set_option linter.unusedVariables false
set_option linter.unusedSimpArgs false
namespace Go.Q
open Go.Proofs
set_option maxRecDepth 20000
set_option maxHeartbeats 4000000
def ir_Zj:C:=.sq (.rg [.bx 2 T0 (kR 2),.bx 3 T1 (kR 2),.mv 4 (.b false)]) (.sq (.rg [.fa 5 T2 2 0 0,.ld 6 T5 kI,.fa 7 T3 2 0 0,.ld 8 T7 kI,.bi 9 .eql T6 T8,.mv 10 T9,.g 10 true (.fa 11 T2 2 1 1),.g 10 true (.ld 12 T11 kS),.g 10 true (.fa 13 T3 2 1 1),.g 10 true (.ld 14 T13 kS),.g 10 true (.bi 15 .eql T12 T14),.pk 16 T10 T15 (.b false),.mv 17 T16,.g 17 true (.fa 18 T2 2 2 2),.g 17 true (.ld 19 T18 kI),.g 17 true (.fa 20 T3 2 2 2),.g 17 true (.ld 21 T20 kI),.g 17 true (.bi 22 .eql T19 T21),.pk 23 T17 T22 (.b false),.mv 24 T23,.g 24 true (.fa 25 T2 2 3 3),.g 24 true (.ld 26 T25 (kR 0)),.g 24 true (.fa 27 T3 2 3 3),.g 24 true (.ld 28 T27 (kR 0)),.g 24 true (.cv (some 29) 167 [(T26,.v (kR 0)),(T28,.v (kR 0))]),.pk 30 T24 T29 (.b false),.mv 31 T30,.g 31 true (.fa 32 T2 2 4 6),.g 31 true (.ld 33 T32 (kL kS)),.g 31 true (.fa 34 T3 2 4 6),.g 31 true (.ld 35 T34 (kL kS)),.g 31 true (.cv (some 36) 149 [(T33,.v (kL kS)),(T35,.v (kL kS))]),.pk 37 T31 T36 (.b false),.mv 38 T37,.g 38 true (.fa 39 T2 2 5 7),.g 38 true (.ld 40 T39 (kL (kR 2))),.g 38 true (.fa 41 T3 2 5 7),.g 38 true (.ld 42 T41 (kL (kR 2))),.g 38 true (.cv (some 43) 168 [(T40,.v (kL (kR 2))),(T42,.v (kL (kR 2))),((.f 143),.fn)]),.pk 44 T38 T43 (.b false),.mv 4 T44]) .rt)
def c35_ZaS:C:=.sq (.rg [.mv 6 (.b true)]) .rt
def c15_ZaS:C:=.sq (.rg [.bi 18 .lss T17 T16]) (.sq (.cd T18 .skip (.ex 0)) (.sq (.bk 1 (.sq (.rg [.mv 19 T17,.ia 20 T15 T17 (kR 2),.ld 21 T20 (kR 2),.al 8 (kR 2),.mv 7 T19,.st T8 T21 (kR 2)]) (.sq (.rg [.mv 22 T1,.mv 23 T7,.ia 24 T22 T23 (kR 2),.ld 25 T24 (kR 2),.al 9 (kR 2),.st T9 T25 (kR 2)]) (.sq (.rg [.mv 26 T2,.ld 27 T8 (kR 2),.ld 28 T9 (kR 2),.cf (some 29) T26 [(T27,.v (kR 2)),(T28,.v (kR 2))],.un 30 .not T29]) (.cd T30 (.sq (.rg [.mv 6 (.b false)]) .rt) .skip))))) (.rg [.bi 31 .add T17 (.i 1),.mv 17 T31])))
def ir_ZaS:C:=.sq (.rg [.mv 6 (.b false)]) (.sq (.sq (.rg [.mv 10 T0,.ln 11 false T10,.mv 12 T1,.ln 13 false T12,.bi 14 .neq T11 T13]) (.cd T14 (.sq (.rg [.mv 6 (.b false)]) .rt) .skip)) (.sq (.sq (.rg [.mv 15 T0,.ln 16 false T15,.mv 17 (.i 0)]) (.bk 0 (.lk [1,2,15,16,17] [] c15_ZaS))) c35_ZaS))
noncomputable def B_Zj(nf:Nat):XT:=[e_Zk nf,e_ZaU nf]
noncomputable def G_Zj(nf:Nat):Nat->XT
 |0=>[]
 |kf+1=>[eF 143 [.v (kR 2),.v (kR 2)] [.v .bool] (fun t=>(fun(a:Tm) (b:Tm)=>runF (G_Zj nf kf++B_Zj nf) nf [.v (kR 2),.v (kR 2)] [.t 4 (.v .bool)] ir_Zj (a,b,())) t.1 t.2.1),
  eF 168 [.v (kL (kR 2)),.v (kL (kR 2)),.fn 143 []] [.v .bool] (fun t=>(fun(s1:List Tm) (s2:List Tm)=>runF (G_Zj nf kf++B_Zj nf) nf [.v (kL (kR 2)),.v (kL (kR 2)),.fn 143 []] [.t 6 (.v .bool)] ir_ZaS (s1,s2,(()),())) t.1 t.2.1)]
noncomputable abbrev T_Zj(nf kf:Nat):XT:=G_Zj nf kf++B_Zj nf
noncomputable abbrev T_ZaS(nf kf:Nat):XT:=G_Zj nf kf++B_Zj nf
noncomputable def m_Zj(nf kf:Nat)(a:Tm)(b:Tm):Option (Bool):=runF (T_Zj nf kf) nf [.v (kR 2),.v (kR 2)] [.t 4 (.v .bool)] ir_Zj (a,b,())
noncomputable def m_ZaS(nf kf:Nat)(s1:List Tm)(s2:List Tm):Option (Bool):=runF (T_ZaS nf kf) nf [.v (kL (kR 2)),.v (kL (kR 2)),.fn 143 []] [.t 6 (.v .bool)] ir_ZaS (s1,s2,(()),())
noncomputable def X_ZaS{R:Type}(nf kf:Nat):C->Env->(Xt->Env->Option R)->Option R:=xc (R:=R) (T_ZaS nf kf).S nf
theorem m_Zj_eq(nf kf:Nat)(a:Tm)(b:Tm):m_Zj nf (kf+1) a b=(br ((a.kind==b.kind)==true) (br ((a.name==b.name)==true) (br ((a.n==b.n)==true) (cb (m_Zk nf nf (Ty.h a.type) (Ty.h b.type)) fun r29=>br (r29==true) (cb (m_ZaU nf a.labels b.labels) fun r36=>br (r36==true) (cb (m_ZaS nf kf a.args b.args) fun r43=>some r43) (some false)) (some false)) (some false)) (some false)) (some false)):=by kernel_rfl
noncomputable def e_Zj(nf:Nat):XE:=eF 143 [.v (kR 2),.v (kR 2)] [.v .bool] (fun t=>m_Zj nf nf t.1 t.2.1)
noncomputable def l14_ZaS(nf kf:Nat)(m14:Nat)(s2:List Tm)(s1:List Tm)(x17_14:Int):Option (Bool):=xit [1,2,15,16,17] [] (X_ZaS nf kf c15_ZaS) (qB 0 (qS (X_ZaS nf kf c35_ZaS) (KF [.t 6 (.v .bool)]))) m14 ⟨[(1,.v (kL (kR 2)) s2),(2,.fn 143 []),(15,.v (kL (kR 2)) s1),(16,.v kI (List.length s1:Int)),(17,.v kI x17_14)],[]⟩
theorem l14_ZaS_eq(nf kf:Nat)(m14:Nat)(s2:List Tm)(s1:List Tm)(x17_14:Int):l14_ZaS nf (kf+1) (m14+1) s2 s1 x17_14=(br (decide (x17_14<(List.length s1:Int))) (gg (0<=x17_14∧x17_14<(List.length s1:Int))<|gg (0<=x17_14∧x17_14<(List.length s2:Int))<|cb (m_Zj nf kf (Tm.h (gt s1 x17_14 Tm.zero)) (Tm.h (gt s2 x17_14 Tm.zero))) fun r29=>br (!r29) (some false) (mark (l14_ZaS nf (kf+1) m14 s2 s1 (w64 (x17_14+(1:Int)))))) (some true)):=by kernel_rfl
theorem m_ZaS_eq(nf kf:Nat)(s1:List Tm)(s2:List Tm):m_ZaS nf (kf+1) s1 s2=(br (!((List.length s1:Int)==(List.length s2:Int))) (some false) (mark (l14_ZaS nf (kf+1) nf s2 s1 (0:Int)))):=by kernel_rfl
theorem gok_Zj(nf:Nat):∀kf:Nat,XT.ok Tryz.prog (G_Zj nf kf++B_Zj nf)
 |0=>by exact⟨o_Zk nf,o_ZaU nf,trivial⟩
 |kf+1=>by
  have ih:=gok_Zj nf kf
  refine⟨?_,?_,(by exact⟨o_Zk nf,o_ZaU nf,trivial⟩)⟩
  ·refine eF_ok fun t x h=> ?_
   obtain⟨a,b,_⟩:=t
   exact runF_ok (N:=45) ih Tryz.func143 (by kernel_rfl) rfl h
  ·refine eF_ok fun t x h=> ?_
   obtain⟨s1,s2,_,_⟩:=t
   exact runF_ok (N:=32) ih Tryz.func168 (by kernel_rfl) rfl h
theorem o_Zj(nf:Nat):conOK Tryz.prog 143 (e_Zj nf).con:=by
 have ih:=gok_Zj nf nf
 refine eF_ok fun t x h=> ?_
 obtain⟨a,b,_⟩:=t
 exact runF_ok (N:=45) ih Tryz.func143 (by kernel_rfl) rfl h
def ir_ZJ:C:=.sq (.rg [.bx 1 T0 (kR 2),.mv 2 (.b false)]) (.sq (.rg [.ld 3 T1 (kR 2),.bd 4 2 [],.cv (some 5) 143 [(T3,.v (kR 2)),(T4,.v (kR 2))],.mv 2 T5]) .rt)
noncomputable abbrev T_ZJ(nf:Nat):XT:=[e_Zj nf]
noncomputable def m_ZJ(nf:Nat)(e:Tm):Option (Bool):=runF (T_ZJ nf) nf [.v (kR 2)] [.t 2 (.v .bool)] ir_ZJ (e,())
theorem m_ZJ_eq(nf:Nat)(e:Tm):m_ZJ nf e=(cb (m_Zj nf nf (Tm.h e) (Tm.mk (0:Int) ([]:Str) (0:Int) (Ty.mk (0:Int) ([]:List Str) ([]:List Ty)) ([]:List Str) ([]:List Tm))) fun r5=>some r5):=by kernel_rfl
noncomputable def e_ZJ(nf:Nat):XE:=eF 104 [.v (kR 2)] [.v .bool] (fun t=>m_ZJ nf t.1)
theorem o_ZJ(nf:Nat):conOK Tryz.prog 104 (e_ZJ nf).con:=by
 have ih:XT.ok Tryz.prog (T_ZJ nf):=by exact⟨o_Zj nf,trivial⟩
 refine eF_ok fun t x h=> ?_
 obtain⟨e,_⟩:=t
 exact runF_ok (N:=6) ih Tryz.func104 (by kernel_rfl) rfl h
def c56_Zy:C:=.sq (.rg [.mv 4 (.b true)]) .rt
def c38_Zy:C:=.sq (.rg [.bi 40 .lss T39 T38]) (.sq (.cd T40 .skip (.ex 1)) (.sq (.bk 2 (.sq (.rg [.mv 41 T39,.mv 5 T41]) (.sq (.dr [] [.mv 42 T0,.nck 43 T42,.fa 44 T43 2 5 7,.ld 45 T44 (kL (kR 2)),.mv 46 T5,.ia 47 T45 T46 (kR 2),.mv 48 T0,.nck 49 T48,.fa 50 T49 2 0 0,.ld 51 T50 kI,.bi 52 .eql T51 (.i 6)] [.cv (some 53) 141 [(T47,.v (.ptr (kR 2))),(T52,.v .bool)],.un 54 .not T53]) (.cd T54 (.sq (.rg [.mv 4 (.b false)]) .rt) .skip)))) (.rg [.bi 55 .add T39 (.i 1),.mv 39 T55])))
def c33_Zy:C:=.sq (.sq (.rg [.mv 34 T0,.nck 35 T34,.fa 36 T35 2 5 7,.ld 37 T36 (kL (kR 2)),.ln 38 false T37,.mv 39 (.i 0)]) (.bk 1 (.lk [0,38,39] [] c38_Zy))) c56_Zy
def w33_Zy:C:=.kp [0] [] c33_Zy
def c27_Zy:C:=.cd T33 (.sq (.rg [.mv 4 (.b false)]) .rt) .skip
def w27_Zy:C:=.kp [0,33] [] c27_Zy
def c18_Zy:C:=.cd T13 (.sq (.rg [.mv 4 (.b false)]) .rt) (.sq (.rg [.bi 17 .eql T9 (.i 10),.mv 16 T17]) (.cd T16 (.sq (.rg [.mv 18 T0,.nck 19 T18,.fa 20 T19 2 5 7,.ld 21 T20 (kL (kR 2)),.ln 22 false T21,.bi 23 .eql T22 (.i 0),.mv 24 T23,.g 24 false (.mv 25 T0),.g 24 false (.nck 26 T25),.g 24 false (.fa 27 T26 2 5 7),.g 24 false (.ld 28 T27 (kL (kR 2))),.g 24 false (.ia 29 T28 (.i 0) (kR 2)),.g 24 false (.fa 30 T29 2 0 0),.g 24 false (.ld 31 T30 kI),.g 24 false (.bi 32 .neq T31 (.i 12)),.pk 33 T24 (.b true) T32]) w27_Zy) .skip))
def w18_Zy:C:=.kp [0,9,13] [] c18_Zy
def ir_Zy:C:=.sq (.rg [.mv 4 (.b false)]) (.sq (.sq (.rg [.mv 6 T0,.nck 7 T6,.fa 8 T7 2 0 0,.ld 9 T8 kI]) (.bk 0 (.sq (.rg [.bi 11 .eql T9 (.i 1),.mv 10 T11]) (.cd T10 (.sq (.rg [.mv 12 T1,.mv 4 T12]) .rt) (.sq (.sq (.rg [.bi 14 .eql T9 (.i 13),.mv 13 T14]) (.cd T13 .skip (.rg [.bi 15 .eql T9 (.i 14),.mv 13 T15]))) w18_Zy))))) w33_Zy)
noncomputable def B_Zy(nf:Nat):XT:=[]
noncomputable def G_Zy(nf:Nat):Nat->XT
 |0=>[]
 |kf+1=>[eF 141 [.p (kR 2),.v .bool] [.v .bool] (fun t=>(fun(e:Tm) (field:Bool)=>runF (G_Zy nf kf++B_Zy nf) nf [.p (kR 2),.v .bool] [.t 4 (.v .bool)] ir_Zy (e,field,())) t.1 t.2.1)]
noncomputable abbrev T_Zy(nf kf:Nat):XT:=G_Zy nf kf++B_Zy nf
noncomputable def m_Zy(nf kf:Nat)(e:Tm)(field:Bool):Option (Bool):=runF (T_Zy nf kf) nf [.p (kR 2),.v .bool] [.t 4 (.v .bool)] ir_Zy (e,field,())
noncomputable def X_Zy{R:Type}(nf kf:Nat):C->Env->(Xt->Env->Option R)->Option R:=xc (R:=R) (T_Zy nf kf).S nf
noncomputable def j27_Zy(nf kf:Nat)(e:Tm)(x33_27:Bool):Option (Bool):=X_Zy nf kf c27_Zy ⟨[(0,.v (.ptr (kR 2)) (some e)),(33,.v .bool x33_27)],[]⟩ (qB 0 (qS (X_Zy nf kf w33_Zy) (KF [.t 4 (.v .bool)])))
noncomputable def j18_Zy(nf kf:Nat)(e:Tm)(x13_18:Bool):Option (Bool):=X_Zy nf kf c18_Zy ⟨[(0,.v (.ptr (kR 2)) (some e)),(9,.v kI e.kind),(13,.v .bool x13_18)],[]⟩ (qB 0 (qS (X_Zy nf kf w33_Zy) (KF [.t 4 (.v .bool)])))
noncomputable def l37_Zy(nf kf:Nat)(m37:Nat)(e:Tm)(x39_37:Int):Option (Bool):=xit [0,38,39] [] (X_Zy nf kf c38_Zy) (qB 1 (qS (X_Zy nf kf c56_Zy) (KF [.t 4 (.v .bool)]))) m37 ⟨[(0,.v (.ptr (kR 2)) (some e)),(38,.v kI (List.length e.args:Int)),(39,.v kI x39_37)],[]⟩
noncomputable def j33_Zy(nf kf:Nat)(e:Tm):Option (Bool):=X_Zy nf kf c33_Zy ⟨[(0,.v (.ptr (kR 2)) (some e))],[]⟩ (KF [.t 4 (.v .bool)])
theorem j27_Zy_eq(nf kf:Nat)(e:Tm)(x33_27:Bool):j27_Zy nf (kf+1) e x33_27=(br x33_27 (some false) (mark (j33_Zy nf (kf+1) e))):=by
 unfold j27_Zy j33_Zy c27_Zy w33_Zy
 generalize c33_Zy=x0
 revert x0
 refine id ?_
 intro x0
 kernel_rfl
theorem j18_Zy_eq(nf kf:Nat)(e:Tm)(x13_18:Bool):j18_Zy nf (kf+1) e x13_18=(br x13_18 (some false) (br (e.kind==(10:Int)) (br (((List.length e.args:Int)==(0:Int))==false) (gg (0<=(0:Int)∧(0:Int)<(List.length e.args:Int))<|mark (j27_Zy nf (kf+1) e (!(((gt e.args (0:Int) Tm.zero).kind)==(12:Int))))) (mark (j27_Zy nf (kf+1) e true))) (mark (j33_Zy nf (kf+1) e)))):=by
 unfold j18_Zy j27_Zy j33_Zy c18_Zy w33_Zy w27_Zy
 generalize c33_Zy=x0
 generalize c27_Zy=x1
 revert x0 x1
 refine id ?_
 intro x0 x1
 kernel_rfl
theorem l37_Zy_eq(nf kf:Nat)(m37:Nat)(e:Tm)(x39_37:Int):l37_Zy nf (kf+1) (m37+1) e x39_37=(br (decide (x39_37<(List.length e.args:Int))) (gg (0<=x39_37∧x39_37<(List.length e.args:Int))<|cb (m_Zy nf kf (gt e.args x39_37 Tm.zero) (e.kind==(6:Int))) fun r53=>br (!r53) (some false) (mark (l37_Zy nf (kf+1) m37 e (w64 (x39_37+(1:Int)))))) (some true)):=by kernel_rfl
theorem j33_Zy_eq(nf kf:Nat)(e:Tm):j33_Zy nf (kf+1) e=(mark (l37_Zy nf (kf+1) nf e (0:Int))):=by kernel_rfl
theorem m_Zy_eq(nf kf:Nat)(e:Tm)(field:Bool):m_Zy nf (kf+1) e field=(br (e.kind==(1:Int)) (some field) (br (e.kind==(13:Int)) (mark (j18_Zy nf (kf+1) e (e.kind==(13:Int)))) (mark (j18_Zy nf (kf+1) e (e.kind==(14:Int)))))):=by
 unfold m_Zy j18_Zy ir_Zy w18_Zy w33_Zy
 generalize c18_Zy=x0
 generalize c33_Zy=x1
 revert x0 x1
 refine id ?_
 intro x0 x1
 kernel_rfl
noncomputable def e_Zy(nf:Nat):XE:=eF 141 [.p (kR 2),.v .bool] [.v .bool] (fun t=>m_Zy nf nf t.1 t.2.1)
theorem gok_Zy(nf:Nat):∀kf:Nat,XT.ok Tryz.prog (G_Zy nf kf++B_Zy nf)
 |0=>by exact trivial
 |kf+1=>by
  have ih:=gok_Zy nf kf
  refine⟨?_,(by exact trivial)⟩
  ·refine eF_ok fun t x h=> ?_
   obtain⟨e,field,_⟩:=t
   exact runF_ok (N:=56) ih Tryz.func141 (by kernel_rfl) rfl h
theorem o_Zy(nf:Nat):conOK Tryz.prog 141 (e_Zy nf).con:=by
 have ih:=gok_Zy nf nf
 refine eF_ok fun t x h=> ?_
 obtain⟨e,field,_⟩:=t
 exact runF_ok (N:=56) ih Tryz.func141 (by kernel_rfl) rfl h
def c10_ZD:C:=.sq (.rg [.ld 20 T4 (kR 5),.bd 21 42 [(0,1,T20)],.al 9 (kR 42),.st T9 T21 (kR 42)]) (.sq (.gz 9 (.ptr (kR 42)) (.rg [.mv 23 T1,.mv 24 T2,.ca (some 25) 142 [(T9,.v (.ptr (kR 42))),(T23,.v (kL (kR 8))),(T24,.v (.ptr (kR 2)))],.mv 22 T25,.xt 26 T22 0,.xt 27 T22 1,.al 10 (kR 0),.st T10 T26 (kR 0),.mv 11 T27])) (.sq (.rg [.mv 28 T11,.mv 29 T28,.g 29 true (.fa 30 T10 0 0 0),.g 29 true (.ld 31 T30 kI),.g 29 true (.mv 32 T3),.g 29 true (.bi 33 .eql T31 T32),.pk 34 T29 T33 (.b false),.mv 8 T34]) .rt))
def c5_ZD:C:=.cd T19 (.sq (.rg [.mv 8 (.b false)]) .rt) .skip
def w5_ZD:C:=.kp [1,2,3,4,19] [[4]] c5_ZD
def ir_ZD:C:=.sq (.rg [.bx 4 T0 (kR 5),.mv 8 (.b false)]) (.sq (.sq (.rg [.mv 12 T2,.cv (some 13) 140 [(T12,.v (.ptr (kR 2)))],.un 14 .not T13,.mv 15 T14,.g 15 false (.mv 16 T2),.g 15 false (.cv (some 17) 141 [(T16,.v (.ptr (kR 2))),((.b false),.v .bool)]),.g 15 false (.un 18 .not T17),.pk 19 T15 (.b true) T18]) w5_ZD) c10_ZD)
noncomputable abbrev T_ZD(nf:Nat):XT:=[e_ZS nf,e_Zy nf,e_ZX nf]
noncomputable def m_ZD(nf:Nat)(s:Schema)(ctx:List Typing)(e:Tm)(kind:Int):Option (Bool):=runF (T_ZD nf) nf [.v (kR 5),.v (kL (kR 8)),.p (kR 2),.v kI] [.t 8 (.v .bool)] ir_ZD (s,ctx,e,kind,())
noncomputable def X_ZD{R:Type}(nf:Nat):C->Env->(Xt->Env->Option R)->Option R:=xc (R:=R) (T_ZD nf).S nf
noncomputable def j5_ZD(nf:Nat)(ctx:List Typing)(e:Tm)(kind:Int)(s:Schema)(x19_5:Bool):Option (Bool):=X_ZD nf c5_ZD ⟨[(1,.v (kL (kR 8)) ctx),(2,.v (.ptr (kR 2)) (some e)),(3,.v kI kind),(4,.pt [4] 0),(19,.v .bool x19_5)],[([4],.box [.v (kL (kR 4)) s.tables])]⟩ (qS (X_ZD nf c10_ZD) (KF [.t 8 (.v .bool)]))
theorem j5_ZD_eq(nf:Nat)(ctx:List Typing)(e:Tm)(kind:Int)(s:Schema)(x19_5:Bool):j5_ZD nf ctx e kind s x19_5=(br x19_5 (some false) (cb (m_ZX nf nf (Typer.mk s) ctx e) fun r25=>br (r25.2==true) (some (r25.1.kind==kind)) (some false))):=by kernel_rfl
theorem m_ZD_eq(nf:Nat)(s:Schema)(ctx:List Typing)(e:Tm)(kind:Int):m_ZD nf s ctx e kind=(cb (m_ZS nf nf e) fun r13=>br ((!r13)==false) (cb (m_Zy nf nf e false) fun r17=>mark (j5_ZD nf ctx e kind s (!r17))) (mark (j5_ZD nf ctx e kind s true))):=by
 unfold m_ZD j5_ZD ir_ZD w5_ZD c10_ZD
 generalize c5_ZD=x0
 revert x0
 refine id ?_
 intro x0
 kernel_rfl
noncomputable def e_ZD(nf:Nat):XE:=eF 103 [.v (kR 5),.v (kL (kR 8)),.p (kR 2),.v kI] [.v .bool] (fun t=>m_ZD nf t.1 t.2.1 t.2.2.1 t.2.2.2.1)
theorem o_ZD(nf:Nat):conOK Tryz.prog 103 (e_ZD nf).con:=by
 have ih:XT.ok Tryz.prog (T_ZD nf):=by exact⟨o_ZS nf,o_Zy nf,o_ZX nf,trivial⟩
 refine eF_ok fun t x h=> ?_
 obtain⟨s,ctx,e,kind,_⟩:=t
 exact runF_ok (N:=35) ih Tryz.func103 (by kernel_rfl) rfl h
def c31_ZC:C:=.sq (.rg [.mv 51 T1,.mv 6 T51,.mv 7 (.b true)]) .rt
def c30_ZC:C:=.rg [.bi 50 .add T16 (.i 1),.mv 16 T50]
def c29_ZC:C:=.rg [.mv 45 T1,.fa 46 T9 3 0 0,.ld 47 T46 kS,.ld 48 T10 (kR 0),.cv (some 49) 83 [(T45,.v (kL (kR 8))),(T47,.v kS),(T48,.v (kR 0))],.mv 1 T49]
def c24_ZC:C:=.cd T44 (.sq (.rg [.mv 6 (.nl (kR 8)),.mv 7 (.b false)]) .rt) .skip
def w24_ZC:C:=.kp [1,3,9,10,14,15,16,44] [[3],[9],[10]] c24_ZC
def c7_ZC:C:=.sq (.rg [.bi 17 .lss T16 T15]) (.sq (.cd T17 .skip (.ex 0)) (.sq (.bk 1 (.sq (.rg [.ia 18 T14 T16 (kR 3),.ld 19 T18 (kR 3),.al 9 (kR 3),.st T9 T19 (kR 3)]) (.sq (.rg [.ld 21 T3 (kR 5),.fa 22 T9 3 1 1,.ld 23 T22 kS,.ca (some 24) 81 [(T21,.v (kR 5)),(T23,.v kS)],.mv 20 T24,.xt 25 T20 0,.xt 26 T20 1,.al 10 (kR 0),.st T10 T25 (kR 0),.mv 11 T26]) (.sq (.sq (.rg [.mv 28 T1,.fa 29 T9 3 0 0,.ld 30 T29 kS,.ca (some 31) 82 [(T28,.v (kL (kR 8))),(T30,.v kS)],.mv 27 T31,.xt 32 T27 0,.xt 33 T27 1,.al 12 (kR 0),.st T12 T32 (kR 0),.mv 13 T33]) (.sq (.rg [.mv 34 T11,.un 35 .not T34,.mv 36 T35,.g 36 false (.mv 37 T13),.pk 38 T36 (.b true) T37,.mv 39 T38,.g 39 false (.fa 40 T9 3 0 0),.g 39 false (.ld 41 T40 kS),.g 39 false (.cv (some 42) 79 [(T41,.v kS)]),.g 39 false (.un 43 .not T42),.pk 44 T39 (.b true) T43]) w24_ZC)) c29_ZC)))) c30_ZC))
def ir_ZC:C:=.sq (.rg [.bx 3 T0 (kR 5),.mv 6 (.nl (kR 8)),.mv 7 (.b false)]) (.sq (.sq (.rg [.mv 14 T2,.ln 15 false T14,.mv 16 (.i 0)]) (.bk 0 (.lk [1,3,14,15,16] [[3]] c7_ZC))) c31_ZC)
noncomputable abbrev T_ZC(nf:Nat):XT:=[e_Zv nf,e_ZE nf,e_Zp nf,e_ZZ nf]
noncomputable def m_ZC(nf:Nat)(s:Schema)(ctx:List Typing)(gens:List Gen):Option ((List Typing)×Bool):=runF (T_ZC nf) nf [.v (kR 5),.v (kL (kR 8)),.v (kL (kR 3))] [.t 6 (.v (kL (kR 8))),.t 7 (.v .bool)] ir_ZC (s,ctx,gens,())
noncomputable def X_ZC{R:Type}(nf:Nat):C->Env->(Xt->Env->Option R)->Option R:=xc (R:=R) (T_ZC nf).S nf
noncomputable def j24_ZC(nf:Nat)(m6:Nat)(x1_6:List Typing)(gens:List Gen)(x16_6:Int)(s:Schema)(r24:Ty×Bool)(x44_24:Bool):Option ((List Typing)×Bool):=X_ZC nf c24_ZC ⟨[(1,.v (kL (kR 8)) x1_6),(3,.pt [3] 0),(9,.pt [9] 0),(10,.pt [10] 0),(14,.v (kL (kR 3)) gens),(15,.v kI (List.length gens:Int)),(16,.v kI x16_6),(44,.v .bool x44_24)],[([3],.box [.v (kL (kR 4)) s.tables]),([9],.box [.v kS ((gt gens x16_6 Gen.zero).var),.v kS ((gt gens x16_6 Gen.zero).table)]),([10],.box [.v kI r24.1.kind,.v (kL kS) r24.1.labels,.v (kL (kR 0)) r24.1.args])]⟩ (qS (X_ZC nf c29_ZC) (qB 1 (qS (X_ZC nf c30_ZC) (qM [1,3,14,15,16] [[3]] (X_ZC nf c7_ZC) m6 (qB 0 (qS (X_ZC nf c31_ZC) (KF [.t 6 (.v (kL (kR 8))),.t 7 (.v .bool)])))))))
noncomputable def l6_ZC(nf:Nat)(m6:Nat)(gens:List Gen)(s:Schema)(x1_6:List Typing)(x16_6:Int):Option ((List Typing)×Bool):=xit [1,3,14,15,16] [[3]] (X_ZC nf c7_ZC) (qB 0 (qS (X_ZC nf c31_ZC) (KF [.t 6 (.v (kL (kR 8))),.t 7 (.v .bool)]))) m6 ⟨[(1,.v (kL (kR 8)) x1_6),(3,.pt [3] 0),(14,.v (kL (kR 3)) gens),(15,.v kI (List.length gens:Int)),(16,.v kI x16_6)],[([3],.box [.v (kL (kR 4)) s.tables])]⟩
theorem j24_ZC_eq(nf:Nat)(m6:Nat)(x1_6:List Typing)(gens:List Gen)(x16_6:Int)(s:Schema)(r24:Ty×Bool)(x44_24:Bool):j24_ZC nf m6 x1_6 gens x16_6 s r24 x44_24=(br x44_24 (some (([]:List Typing),false)) (cb (m_ZZ nf x1_6 ((gt gens x16_6 Gen.zero).var) (Ty.h r24.1)) fun r49=>mark (l6_ZC nf m6 gens s r49 (w64 (x16_6+(1:Int)))))):=by kernel_rfl
theorem l6_ZC_eq(nf:Nat)(m6:Nat)(gens:List Gen)(s:Schema)(x1_6:List Typing)(x16_6:Int):l6_ZC nf (m6+1) gens s x1_6 x16_6=(br (decide (x16_6<(List.length gens:Int))) (gg (0<=x16_6∧x16_6<(List.length gens:Int))<|cb (m_Zv nf s ((gt gens x16_6 Gen.zero).table)) fun r24=>cb (m_ZE nf x1_6 ((gt gens x16_6 Gen.zero).var)) fun r31=>br ((!r24.2)==false) (br (r31.2==false) (cb (m_Zp nf ((gt gens x16_6 Gen.zero).var)) fun r42=>mark (j24_ZC nf m6 x1_6 gens x16_6 s r24 (!r42))) (mark (j24_ZC nf m6 x1_6 gens x16_6 s r24 true))) (mark (j24_ZC nf m6 x1_6 gens x16_6 s r24 true))) (some (x1_6,true))):=by
 unfold l6_ZC j24_ZC c7_ZC c31_ZC w24_ZC c29_ZC c30_ZC
 generalize c24_ZC=x0
 revert x0
 refine id ?_
 intro x0
 kernel_rfl
theorem m_ZC_eq(nf:Nat)(s:Schema)(ctx:List Typing)(gens:List Gen):m_ZC nf s ctx gens=(mark (l6_ZC nf nf gens s ctx (0:Int))):=by kernel_rfl
noncomputable def e_ZC(nf:Nat):XE:=eF 40 [.v (kR 5),.v (kL (kR 8)),.v (kL (kR 3))] [.v (kL (kR 8)),.v .bool] (fun t=>m_ZC nf t.1 t.2.1 t.2.2.1)
theorem o_ZC(nf:Nat):conOK Tryz.prog 40 (e_ZC nf).con:=by
 have ih:XT.ok Tryz.prog (T_ZC nf):=by exact⟨o_Zv nf,o_ZE nf,o_Zp nf,o_ZZ nf,trivial⟩
 refine eF_ok fun t x h=> ?_
 obtain⟨s,ctx,gens,_⟩:=t
 exact runF_ok (N:=52) ih Tryz.func40 (by kernel_rfl) rfl h
end Go.Q
