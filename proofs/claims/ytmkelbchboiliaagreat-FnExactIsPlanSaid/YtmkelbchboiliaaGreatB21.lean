/- Plans: the program's side. -/
import Derived.Test.YtmkelbchboiliaaGreatB20
import Derived.Test.YtmkelbchboiliaaGreatProg
import Derived.KernelRfl
set_option linter.unusedVariables false
set_option linter.unusedSimpArgs false
namespace Go.Q
open Go.Proofs
set_option maxRecDepth 20000
set_option maxHeartbeats 4000000
def ir_Zh:C:=.sq (.rg [.bx 2 T0 (kR 2),.bx 3 T1 (kR 2),.mv 4 (.b false)]) (.sq (.rg [.fa 5 T2 2 0 0,.ld 6 T5 kI,.fa 7 T3 2 0 0,.ld 8 T7 kI,.bi 9 .eql T6 T8,.mv 10 T9,.g 10 true (.fa 11 T2 2 1 1),.g 10 true (.ld 12 T11 kS),.g 10 true (.fa 13 T3 2 1 1),.g 10 true (.ld 14 T13 kS),.g 10 true (.bi 15 .eql T12 T14),.pk 16 T10 T15 (.b false),.mv 17 T16,.g 17 true (.fa 18 T2 2 2 2),.g 17 true (.ld 19 T18 kI),.g 17 true (.fa 20 T3 2 2 2),.g 17 true (.ld 21 T20 kI),.g 17 true (.bi 22 .eql T19 T21),.pk 23 T17 T22 (.b false),.mv 24 T23,.g 24 true (.fa 25 T2 2 3 3),.g 24 true (.ld 26 T25 (kR 0)),.g 24 true (.fa 27 T3 2 3 3),.g 24 true (.ld 28 T27 (kR 0)),.g 24 true (.cv (some 29) 167 [(T26,.v (kR 0)),(T28,.v (kR 0))]),.pk 30 T24 T29 (.b false),.mv 31 T30,.g 31 true (.fa 32 T2 2 4 6),.g 31 true (.ld 33 T32 (kL kS)),.g 31 true (.fa 34 T3 2 4 6),.g 31 true (.ld 35 T34 (kL kS)),.g 31 true (.cv (some 36) 149 [(T33,.v (kL kS)),(T35,.v (kL kS))]),.pk 37 T31 T36 (.b false),.mv 38 T37,.g 38 true (.fa 39 T2 2 5 7),.g 38 true (.ld 40 T39 (kL (kR 2))),.g 38 true (.fa 41 T3 2 5 7),.g 38 true (.ld 42 T41 (kL (kR 2))),.g 38 true (.cv (some 43) 168 [(T40,.v (kL (kR 2))),(T42,.v (kL (kR 2))),((.f 143),.fn)]),.pk 44 T38 T43 (.b false),.mv 4 T44]) .rt)
def c35_ZaF:C:=.sq (.rg [.mv 6 (.b true)]) .rt
def c15_ZaF:C:=.sq (.rg [.bi 18 .lss T17 T16]) (.sq (.cd T18 .skip (.ex 0)) (.sq (.bk 1 (.sq (.rg [.mv 19 T17,.ia 20 T15 T17 (kR 2),.ld 21 T20 (kR 2),.al 8 (kR 2),.mv 7 T19,.st T8 T21 (kR 2)]) (.sq (.rg [.mv 22 T1,.mv 23 T7,.ia 24 T22 T23 (kR 2),.ld 25 T24 (kR 2),.al 9 (kR 2),.st T9 T25 (kR 2)]) (.sq (.rg [.mv 26 T2,.ld 27 T8 (kR 2),.ld 28 T9 (kR 2),.cf (some 29) T26 [(T27,.v (kR 2)),(T28,.v (kR 2))],.un 30 .not T29]) (.cd T30 (.sq (.rg [.mv 6 (.b false)]) .rt) .skip))))) (.rg [.bi 31 .add T17 (.i 1),.mv 17 T31])))
def ir_ZaF:C:=.sq (.rg [.mv 6 (.b false)]) (.sq (.sq (.rg [.mv 10 T0,.ln 11 false T10,.mv 12 T1,.ln 13 false T12,.bi 14 .neq T11 T13]) (.cd T14 (.sq (.rg [.mv 6 (.b false)]) .rt) .skip)) (.sq (.sq (.rg [.mv 15 T0,.ln 16 false T15,.mv 17 (.i 0)]) (.bk 0 (.lk [1,2,15,16,17] [] c15_ZaF))) c35_ZaF))
noncomputable def B_Zh(nf:Nat):XT:=[e_Zi nf,e_ZaH nf]
noncomputable def G_Zh(nf:Nat):Nat->XT
 |0=>[]
 |kf+1=>[eF 143 [.v (kR 2),.v (kR 2)] [.v .bool] (fun t=>(fun(a:Tm) (b:Tm)=>runF (G_Zh nf kf++B_Zh nf) nf [.v (kR 2),.v (kR 2)] [.t 4 (.v .bool)] ir_Zh (a,b,())) t.1 t.2.1),
  eF 168 [.v (kL (kR 2)),.v (kL (kR 2)),.fn 143 []] [.v .bool] (fun t=>(fun(s1:List Tm) (s2:List Tm)=>runF (G_Zh nf kf++B_Zh nf) nf [.v (kL (kR 2)),.v (kL (kR 2)),.fn 143 []] [.t 6 (.v .bool)] ir_ZaF (s1,s2,(()),())) t.1 t.2.1)]
noncomputable abbrev T_Zh(nf kf:Nat):XT:=G_Zh nf kf++B_Zh nf
noncomputable abbrev T_ZaF(nf kf:Nat):XT:=G_Zh nf kf++B_Zh nf
noncomputable def m_Zh(nf kf:Nat)(a:Tm)(b:Tm):Option (Bool):=runF (T_Zh nf kf) nf [.v (kR 2),.v (kR 2)] [.t 4 (.v .bool)] ir_Zh (a,b,())
noncomputable def m_ZaF(nf kf:Nat)(s1:List Tm)(s2:List Tm):Option (Bool):=runF (T_ZaF nf kf) nf [.v (kL (kR 2)),.v (kL (kR 2)),.fn 143 []] [.t 6 (.v .bool)] ir_ZaF (s1,s2,(()),())
noncomputable def X_ZaF{R:Type}(nf kf:Nat):C->Env->(Xt->Env->Option R)->Option R:=xc (R:=R) (T_ZaF nf kf).S nf
theorem m_Zh_eq(nf kf:Nat)(a:Tm)(b:Tm):m_Zh nf (kf+1) a b=(br ((a.kind==b.kind)==true) (br ((a.name==b.name)==true) (br ((a.n==b.n)==true) (cb (m_Zi nf nf (Ty.h a.type) (Ty.h b.type)) fun r29=>br (r29==true) (cb (m_ZaH nf a.labels b.labels) fun r36=>br (r36==true) (cb (m_ZaF nf kf a.args b.args) fun r43=>some r43) (some false)) (some false)) (some false)) (some false)) (some false)):=by kernel_rfl
noncomputable def e_Zh(nf:Nat):XE:=eF 143 [.v (kR 2),.v (kR 2)] [.v .bool] (fun t=>m_Zh nf nf t.1 t.2.1)
noncomputable def l14_ZaF(nf kf:Nat)(m14:Nat)(s2:List Tm)(s1:List Tm)(x17_14:Int):Option (Bool):=xit [1,2,15,16,17] [] (X_ZaF nf kf c15_ZaF) (qB 0 (qS (X_ZaF nf kf c35_ZaF) (KF [.t 6 (.v .bool)]))) m14 ⟨[(1,.v (kL (kR 2)) s2),(2,.fn 143 []),(15,.v (kL (kR 2)) s1),(16,.v kI (List.length s1:Int)),(17,.v kI x17_14)],[]⟩
theorem l14_ZaF_eq(nf kf:Nat)(m14:Nat)(s2:List Tm)(s1:List Tm)(x17_14:Int):l14_ZaF nf (kf+1) (m14+1) s2 s1 x17_14=(br (decide (x17_14<(List.length s1:Int))) (gg (0<=x17_14∧x17_14<(List.length s1:Int))<|gg (0<=x17_14∧x17_14<(List.length s2:Int))<|cb (m_Zh nf kf (Tm.h (gt s1 x17_14 Tm.zero)) (Tm.h (gt s2 x17_14 Tm.zero))) fun r29=>br (!r29) (some false) (mark (l14_ZaF nf (kf+1) m14 s2 s1 (w64 (x17_14+(1:Int)))))) (some true)):=by kernel_rfl
theorem m_ZaF_eq(nf kf:Nat)(s1:List Tm)(s2:List Tm):m_ZaF nf (kf+1) s1 s2=(br (!((List.length s1:Int)==(List.length s2:Int))) (some false) (mark (l14_ZaF nf (kf+1) nf s2 s1 (0:Int)))):=by kernel_rfl
theorem gok_Zh(nf:Nat):∀kf:Nat,XT.ok Tryz.prog (G_Zh nf kf++B_Zh nf)
 |0=>by exact⟨o_Zi nf,o_ZaH nf,trivial⟩
 |kf+1=>by
  have ih:=gok_Zh nf kf
  refine⟨?_,?_,(by exact⟨o_Zi nf,o_ZaH nf,trivial⟩)⟩
  ·refine eF_ok fun t x h=> ?_
   obtain⟨a,b,_⟩:=t
   exact runF_ok (N:=45) ih Tryz.func143 (by kernel_rfl) rfl h
  ·refine eF_ok fun t x h=> ?_
   obtain⟨s1,s2,_,_⟩:=t
   exact runF_ok (N:=32) ih Tryz.func168 (by kernel_rfl) rfl h
theorem o_Zh(nf:Nat):conOK Tryz.prog 143 (e_Zh nf).con:=by
 have ih:=gok_Zh nf nf
 refine eF_ok fun t x h=> ?_
 obtain⟨a,b,_⟩:=t
 exact runF_ok (N:=45) ih Tryz.func143 (by kernel_rfl) rfl h
def ir_ZE:C:=.sq (.rg [.bx 1 T0 (kR 2),.mv 2 (.b false)]) (.sq (.rg [.ld 3 T1 (kR 2),.bd 4 2 [],.cv (some 5) 143 [(T3,.v (kR 2)),(T4,.v (kR 2))],.mv 2 T5]) .rt)
noncomputable abbrev T_ZE(nf:Nat):XT:=[e_Zh nf]
noncomputable def m_ZE(nf:Nat)(e:Tm):Option (Bool):=runF (T_ZE nf) nf [.v (kR 2)] [.t 2 (.v .bool)] ir_ZE (e,())
theorem m_ZE_eq(nf:Nat)(e:Tm):m_ZE nf e=(cb (m_Zh nf nf (Tm.h e) (Tm.mk (0:Int) ([]:Str) (0:Int) (Ty.mk (0:Int) ([]:List Str) ([]:List Ty)) ([]:List Str) ([]:List Tm))) fun r5=>some r5):=by kernel_rfl
noncomputable def e_ZE(nf:Nat):XE:=eF 104 [.v (kR 2)] [.v .bool] (fun t=>m_ZE nf t.1)
theorem o_ZE(nf:Nat):conOK Tryz.prog 104 (e_ZE nf).con:=by
 have ih:XT.ok Tryz.prog (T_ZE nf):=by exact⟨o_Zh nf,trivial⟩
 refine eF_ok fun t x h=> ?_
 obtain⟨e,_⟩:=t
 exact runF_ok (N:=6) ih Tryz.func104 (by kernel_rfl) rfl h
def c56_Zu:C:=.sq (.rg [.mv 4 (.b true)]) .rt
def c38_Zu:C:=.sq (.rg [.bi 40 .lss T39 T38]) (.sq (.cd T40 .skip (.ex 1)) (.sq (.bk 2 (.sq (.rg [.mv 41 T39,.mv 5 T41]) (.sq (.dr [] [.mv 42 T0,.nck 43 T42,.fa 44 T43 2 5 7,.ld 45 T44 (kL (kR 2)),.mv 46 T5,.ia 47 T45 T46 (kR 2),.mv 48 T0,.nck 49 T48,.fa 50 T49 2 0 0,.ld 51 T50 kI,.bi 52 .eql T51 (.i 6)] [.cv (some 53) 141 [(T47,.v (.ptr (kR 2))),(T52,.v .bool)],.un 54 .not T53]) (.cd T54 (.sq (.rg [.mv 4 (.b false)]) .rt) .skip)))) (.rg [.bi 55 .add T39 (.i 1),.mv 39 T55])))
def c33_Zu:C:=.sq (.sq (.rg [.mv 34 T0,.nck 35 T34,.fa 36 T35 2 5 7,.ld 37 T36 (kL (kR 2)),.ln 38 false T37,.mv 39 (.i 0)]) (.bk 1 (.lk [0,38,39] [] c38_Zu))) c56_Zu
def w33_Zu:C:=.kp [0] [] c33_Zu
def c27_Zu:C:=.cd T33 (.sq (.rg [.mv 4 (.b false)]) .rt) .skip
def w27_Zu:C:=.kp [0,33] [] c27_Zu
def c18_Zu:C:=.cd T13 (.sq (.rg [.mv 4 (.b false)]) .rt) (.sq (.rg [.bi 17 .eql T9 (.i 10),.mv 16 T17]) (.cd T16 (.sq (.rg [.mv 18 T0,.nck 19 T18,.fa 20 T19 2 5 7,.ld 21 T20 (kL (kR 2)),.ln 22 false T21,.bi 23 .eql T22 (.i 0),.mv 24 T23,.g 24 false (.mv 25 T0),.g 24 false (.nck 26 T25),.g 24 false (.fa 27 T26 2 5 7),.g 24 false (.ld 28 T27 (kL (kR 2))),.g 24 false (.ia 29 T28 (.i 0) (kR 2)),.g 24 false (.fa 30 T29 2 0 0),.g 24 false (.ld 31 T30 kI),.g 24 false (.bi 32 .neq T31 (.i 12)),.pk 33 T24 (.b true) T32]) w27_Zu) .skip))
def w18_Zu:C:=.kp [0,9,13] [] c18_Zu
def ir_Zu:C:=.sq (.rg [.mv 4 (.b false)]) (.sq (.sq (.rg [.mv 6 T0,.nck 7 T6,.fa 8 T7 2 0 0,.ld 9 T8 kI]) (.bk 0 (.sq (.rg [.bi 11 .eql T9 (.i 1),.mv 10 T11]) (.cd T10 (.sq (.rg [.mv 12 T1,.mv 4 T12]) .rt) (.sq (.sq (.rg [.bi 14 .eql T9 (.i 13),.mv 13 T14]) (.cd T13 .skip (.rg [.bi 15 .eql T9 (.i 14),.mv 13 T15]))) w18_Zu))))) w33_Zu)
noncomputable def B_Zu(nf:Nat):XT:=[]
noncomputable def G_Zu(nf:Nat):Nat->XT
 |0=>[]
 |kf+1=>[eF 141 [.p (kR 2),.v .bool] [.v .bool] (fun t=>(fun(e:Tm) (field:Bool)=>runF (G_Zu nf kf++B_Zu nf) nf [.p (kR 2),.v .bool] [.t 4 (.v .bool)] ir_Zu (e,field,())) t.1 t.2.1)]
noncomputable abbrev T_Zu(nf kf:Nat):XT:=G_Zu nf kf++B_Zu nf
noncomputable def m_Zu(nf kf:Nat)(e:Tm)(field:Bool):Option (Bool):=runF (T_Zu nf kf) nf [.p (kR 2),.v .bool] [.t 4 (.v .bool)] ir_Zu (e,field,())
noncomputable def X_Zu{R:Type}(nf kf:Nat):C->Env->(Xt->Env->Option R)->Option R:=xc (R:=R) (T_Zu nf kf).S nf
noncomputable def j27_Zu(nf kf:Nat)(e:Tm)(x33_27:Bool):Option (Bool):=X_Zu nf kf c27_Zu ⟨[(0,.v (.ptr (kR 2)) (some e)),(33,.v .bool x33_27)],[]⟩ (qB 0 (qS (X_Zu nf kf w33_Zu) (KF [.t 4 (.v .bool)])))
noncomputable def j18_Zu(nf kf:Nat)(e:Tm)(x13_18:Bool):Option (Bool):=X_Zu nf kf c18_Zu ⟨[(0,.v (.ptr (kR 2)) (some e)),(9,.v kI e.kind),(13,.v .bool x13_18)],[]⟩ (qB 0 (qS (X_Zu nf kf w33_Zu) (KF [.t 4 (.v .bool)])))
noncomputable def l37_Zu(nf kf:Nat)(m37:Nat)(e:Tm)(x39_37:Int):Option (Bool):=xit [0,38,39] [] (X_Zu nf kf c38_Zu) (qB 1 (qS (X_Zu nf kf c56_Zu) (KF [.t 4 (.v .bool)]))) m37 ⟨[(0,.v (.ptr (kR 2)) (some e)),(38,.v kI (List.length e.args:Int)),(39,.v kI x39_37)],[]⟩
noncomputable def j33_Zu(nf kf:Nat)(e:Tm):Option (Bool):=X_Zu nf kf c33_Zu ⟨[(0,.v (.ptr (kR 2)) (some e))],[]⟩ (KF [.t 4 (.v .bool)])
theorem j27_Zu_eq(nf kf:Nat)(e:Tm)(x33_27:Bool):j27_Zu nf (kf+1) e x33_27=(br x33_27 (some false) (mark (j33_Zu nf (kf+1) e))):=by
 unfold j27_Zu j33_Zu c27_Zu w33_Zu
 generalize c33_Zu=x0
 revert x0
 refine id ?_
 intro x0
 kernel_rfl
theorem j18_Zu_eq(nf kf:Nat)(e:Tm)(x13_18:Bool):j18_Zu nf (kf+1) e x13_18=(br x13_18 (some false) (br (e.kind==(10:Int)) (br (((List.length e.args:Int)==(0:Int))==false) (gg (0<=(0:Int)∧(0:Int)<(List.length e.args:Int))<|mark (j27_Zu nf (kf+1) e (!(((gt e.args (0:Int) Tm.zero).kind)==(12:Int))))) (mark (j27_Zu nf (kf+1) e true))) (mark (j33_Zu nf (kf+1) e)))):=by
 unfold j18_Zu j27_Zu j33_Zu c18_Zu w33_Zu w27_Zu
 generalize c33_Zu=x0
 generalize c27_Zu=x1
 revert x0 x1
 refine id ?_
 intro x0 x1
 kernel_rfl
theorem l37_Zu_eq(nf kf:Nat)(m37:Nat)(e:Tm)(x39_37:Int):l37_Zu nf (kf+1) (m37+1) e x39_37=(br (decide (x39_37<(List.length e.args:Int))) (gg (0<=x39_37∧x39_37<(List.length e.args:Int))<|cb (m_Zu nf kf (gt e.args x39_37 Tm.zero) (e.kind==(6:Int))) fun r53=>br (!r53) (some false) (mark (l37_Zu nf (kf+1) m37 e (w64 (x39_37+(1:Int)))))) (some true)):=by kernel_rfl
theorem j33_Zu_eq(nf kf:Nat)(e:Tm):j33_Zu nf (kf+1) e=(mark (l37_Zu nf (kf+1) nf e (0:Int))):=by kernel_rfl
theorem m_Zu_eq(nf kf:Nat)(e:Tm)(field:Bool):m_Zu nf (kf+1) e field=(br (e.kind==(1:Int)) (some field) (br (e.kind==(13:Int)) (mark (j18_Zu nf (kf+1) e (e.kind==(13:Int)))) (mark (j18_Zu nf (kf+1) e (e.kind==(14:Int)))))):=by
 unfold m_Zu j18_Zu ir_Zu w18_Zu w33_Zu
 generalize c18_Zu=x0
 generalize c33_Zu=x1
 revert x0 x1
 refine id ?_
 intro x0 x1
 kernel_rfl
noncomputable def e_Zu(nf:Nat):XE:=eF 141 [.p (kR 2),.v .bool] [.v .bool] (fun t=>m_Zu nf nf t.1 t.2.1)
theorem gok_Zu(nf:Nat):∀kf:Nat,XT.ok Tryz.prog (G_Zu nf kf++B_Zu nf)
 |0=>by exact trivial
 |kf+1=>by
  have ih:=gok_Zu nf kf
  refine⟨?_,(by exact trivial)⟩
  ·refine eF_ok fun t x h=> ?_
   obtain⟨e,field,_⟩:=t
   exact runF_ok (N:=56) ih Tryz.func141 (by kernel_rfl) rfl h
theorem o_Zu(nf:Nat):conOK Tryz.prog 141 (e_Zu nf).con:=by
 have ih:=gok_Zu nf nf
 refine eF_ok fun t x h=> ?_
 obtain⟨e,field,_⟩:=t
 exact runF_ok (N:=56) ih Tryz.func141 (by kernel_rfl) rfl h
def c10_Zy:C:=.sq (.rg [.ld 20 T4 (kR 5),.bd 21 42 [(0,1,T20)],.al 9 (kR 42),.st T9 T21 (kR 42)]) (.sq (.gz 9 (.ptr (kR 42)) (.rg [.mv 23 T1,.mv 24 T2,.ca (some 25) 142 [(T9,.v (.ptr (kR 42))),(T23,.v (kL (kR 8))),(T24,.v (.ptr (kR 2)))],.mv 22 T25,.xt 26 T22 0,.xt 27 T22 1,.al 10 (kR 0),.st T10 T26 (kR 0),.mv 11 T27])) (.sq (.rg [.mv 28 T11,.mv 29 T28,.g 29 true (.fa 30 T10 0 0 0),.g 29 true (.ld 31 T30 kI),.g 29 true (.mv 32 T3),.g 29 true (.bi 33 .eql T31 T32),.pk 34 T29 T33 (.b false),.mv 8 T34]) .rt))
def c5_Zy:C:=.cd T19 (.sq (.rg [.mv 8 (.b false)]) .rt) .skip
def w5_Zy:C:=.kp [1,2,3,4,19] [[4]] c5_Zy
def ir_Zy:C:=.sq (.rg [.bx 4 T0 (kR 5),.mv 8 (.b false)]) (.sq (.sq (.rg [.mv 12 T2,.cv (some 13) 140 [(T12,.v (.ptr (kR 2)))],.un 14 .not T13,.mv 15 T14,.g 15 false (.mv 16 T2),.g 15 false (.cv (some 17) 141 [(T16,.v (.ptr (kR 2))),((.b false),.v .bool)]),.g 15 false (.un 18 .not T17),.pk 19 T15 (.b true) T18]) w5_Zy) c10_Zy)
noncomputable abbrev T_Zy(nf:Nat):XT:=[e_ZR nf,e_Zu nf,e_ZV nf]
noncomputable def m_Zy(nf:Nat)(s:Schema)(ctx:List Typing)(e:Tm)(kind:Int):Option (Bool):=runF (T_Zy nf) nf [.v (kR 5),.v (kL (kR 8)),.p (kR 2),.v kI] [.t 8 (.v .bool)] ir_Zy (s,ctx,e,kind,())
noncomputable def X_Zy{R:Type}(nf:Nat):C->Env->(Xt->Env->Option R)->Option R:=xc (R:=R) (T_Zy nf).S nf
noncomputable def j5_Zy(nf:Nat)(ctx:List Typing)(e:Tm)(kind:Int)(s:Schema)(x19_5:Bool):Option (Bool):=X_Zy nf c5_Zy ⟨[(1,.v (kL (kR 8)) ctx),(2,.v (.ptr (kR 2)) (some e)),(3,.v kI kind),(4,.pt [4] 0),(19,.v .bool x19_5)],[([4],.box [.v (kL (kR 4)) s.tables])]⟩ (qS (X_Zy nf c10_Zy) (KF [.t 8 (.v .bool)]))
theorem j5_Zy_eq(nf:Nat)(ctx:List Typing)(e:Tm)(kind:Int)(s:Schema)(x19_5:Bool):j5_Zy nf ctx e kind s x19_5=(br x19_5 (some false) (cb (m_ZV nf nf (Typer.mk s) ctx e) fun r25=>br (r25.2==true) (some (r25.1.kind==kind)) (some false))):=by kernel_rfl
theorem m_Zy_eq(nf:Nat)(s:Schema)(ctx:List Typing)(e:Tm)(kind:Int):m_Zy nf s ctx e kind=(cb (m_ZR nf nf e) fun r13=>br ((!r13)==false) (cb (m_Zu nf nf e false) fun r17=>mark (j5_Zy nf ctx e kind s (!r17))) (mark (j5_Zy nf ctx e kind s true))):=by
 unfold m_Zy j5_Zy ir_Zy w5_Zy c10_Zy
 generalize c5_Zy=x0
 revert x0
 refine id ?_
 intro x0
 kernel_rfl
noncomputable def e_Zy(nf:Nat):XE:=eF 103 [.v (kR 5),.v (kL (kR 8)),.p (kR 2),.v kI] [.v .bool] (fun t=>m_Zy nf t.1 t.2.1 t.2.2.1 t.2.2.2.1)
theorem o_Zy(nf:Nat):conOK Tryz.prog 103 (e_Zy nf).con:=by
 have ih:XT.ok Tryz.prog (T_Zy nf):=by exact⟨o_ZR nf,o_Zu nf,o_ZV nf,trivial⟩
 refine eF_ok fun t x h=> ?_
 obtain⟨s,ctx,e,kind,_⟩:=t
 exact runF_ok (N:=35) ih Tryz.func103 (by kernel_rfl) rfl h
def c31_Zx:C:=.sq (.rg [.mv 51 T1,.mv 6 T51,.mv 7 (.b true)]) .rt
def c30_Zx:C:=.rg [.bi 50 .add T16 (.i 1),.mv 16 T50]
def c29_Zx:C:=.rg [.mv 45 T1,.fa 46 T9 3 0 0,.ld 47 T46 kS,.ld 48 T10 (kR 0),.cv (some 49) 83 [(T45,.v (kL (kR 8))),(T47,.v kS),(T48,.v (kR 0))],.mv 1 T49]
def c24_Zx:C:=.cd T44 (.sq (.rg [.mv 6 (.nl (kR 8)),.mv 7 (.b false)]) .rt) .skip
def w24_Zx:C:=.kp [1,3,9,10,14,15,16,44] [[3],[9],[10]] c24_Zx
def c7_Zx:C:=.sq (.rg [.bi 17 .lss T16 T15]) (.sq (.cd T17 .skip (.ex 0)) (.sq (.bk 1 (.sq (.rg [.ia 18 T14 T16 (kR 3),.ld 19 T18 (kR 3),.al 9 (kR 3),.st T9 T19 (kR 3)]) (.sq (.rg [.ld 21 T3 (kR 5),.fa 22 T9 3 1 1,.ld 23 T22 kS,.ca (some 24) 81 [(T21,.v (kR 5)),(T23,.v kS)],.mv 20 T24,.xt 25 T20 0,.xt 26 T20 1,.al 10 (kR 0),.st T10 T25 (kR 0),.mv 11 T26]) (.sq (.sq (.rg [.mv 28 T1,.fa 29 T9 3 0 0,.ld 30 T29 kS,.ca (some 31) 82 [(T28,.v (kL (kR 8))),(T30,.v kS)],.mv 27 T31,.xt 32 T27 0,.xt 33 T27 1,.al 12 (kR 0),.st T12 T32 (kR 0),.mv 13 T33]) (.sq (.rg [.mv 34 T11,.un 35 .not T34,.mv 36 T35,.g 36 false (.mv 37 T13),.pk 38 T36 (.b true) T37,.mv 39 T38,.g 39 false (.fa 40 T9 3 0 0),.g 39 false (.ld 41 T40 kS),.g 39 false (.cv (some 42) 79 [(T41,.v kS)]),.g 39 false (.un 43 .not T42),.pk 44 T39 (.b true) T43]) w24_Zx)) c29_Zx)))) c30_Zx))
def ir_Zx:C:=.sq (.rg [.bx 3 T0 (kR 5),.mv 6 (.nl (kR 8)),.mv 7 (.b false)]) (.sq (.sq (.rg [.mv 14 T2,.ln 15 false T14,.mv 16 (.i 0)]) (.bk 0 (.lk [1,3,14,15,16] [[3]] c7_Zx))) c31_Zx)
noncomputable abbrev T_Zx(nf:Nat):XT:=[e_Zr nf,e_Zz nf,e_Zk nf,e_ZX nf]
noncomputable def m_Zx(nf:Nat)(s:Schema)(ctx:List Typing)(gens:List Gen):Option ((List Typing)×Bool):=runF (T_Zx nf) nf [.v (kR 5),.v (kL (kR 8)),.v (kL (kR 3))] [.t 6 (.v (kL (kR 8))),.t 7 (.v .bool)] ir_Zx (s,ctx,gens,())
noncomputable def X_Zx{R:Type}(nf:Nat):C->Env->(Xt->Env->Option R)->Option R:=xc (R:=R) (T_Zx nf).S nf
noncomputable def j24_Zx(nf:Nat)(m6:Nat)(x1_6:List Typing)(gens:List Gen)(x16_6:Int)(s:Schema)(r24:Ty×Bool)(x44_24:Bool):Option ((List Typing)×Bool):=X_Zx nf c24_Zx ⟨[(1,.v (kL (kR 8)) x1_6),(3,.pt [3] 0),(9,.pt [9] 0),(10,.pt [10] 0),(14,.v (kL (kR 3)) gens),(15,.v kI (List.length gens:Int)),(16,.v kI x16_6),(44,.v .bool x44_24)],[([3],.box [.v (kL (kR 4)) s.tables]),([9],.box [.v kS ((gt gens x16_6 Gen.zero).var),.v kS ((gt gens x16_6 Gen.zero).table)]),([10],.box [.v kI r24.1.kind,.v (kL kS) r24.1.labels,.v (kL (kR 0)) r24.1.args])]⟩ (qS (X_Zx nf c29_Zx) (qB 1 (qS (X_Zx nf c30_Zx) (qM [1,3,14,15,16] [[3]] (X_Zx nf c7_Zx) m6 (qB 0 (qS (X_Zx nf c31_Zx) (KF [.t 6 (.v (kL (kR 8))),.t 7 (.v .bool)])))))))
noncomputable def l6_Zx(nf:Nat)(m6:Nat)(gens:List Gen)(s:Schema)(x1_6:List Typing)(x16_6:Int):Option ((List Typing)×Bool):=xit [1,3,14,15,16] [[3]] (X_Zx nf c7_Zx) (qB 0 (qS (X_Zx nf c31_Zx) (KF [.t 6 (.v (kL (kR 8))),.t 7 (.v .bool)]))) m6 ⟨[(1,.v (kL (kR 8)) x1_6),(3,.pt [3] 0),(14,.v (kL (kR 3)) gens),(15,.v kI (List.length gens:Int)),(16,.v kI x16_6)],[([3],.box [.v (kL (kR 4)) s.tables])]⟩
theorem j24_Zx_eq(nf:Nat)(m6:Nat)(x1_6:List Typing)(gens:List Gen)(x16_6:Int)(s:Schema)(r24:Ty×Bool)(x44_24:Bool):j24_Zx nf m6 x1_6 gens x16_6 s r24 x44_24=(br x44_24 (some (([]:List Typing),false)) (cb (m_ZX nf x1_6 ((gt gens x16_6 Gen.zero).var) (Ty.h r24.1)) fun r49=>mark (l6_Zx nf m6 gens s r49 (w64 (x16_6+(1:Int)))))):=by kernel_rfl
theorem l6_Zx_eq(nf:Nat)(m6:Nat)(gens:List Gen)(s:Schema)(x1_6:List Typing)(x16_6:Int):l6_Zx nf (m6+1) gens s x1_6 x16_6=(br (decide (x16_6<(List.length gens:Int))) (gg (0<=x16_6∧x16_6<(List.length gens:Int))<|cb (m_Zr nf s ((gt gens x16_6 Gen.zero).table)) fun r24=>cb (m_Zz nf x1_6 ((gt gens x16_6 Gen.zero).var)) fun r31=>br ((!r24.2)==false) (br (r31.2==false) (cb (m_Zk nf ((gt gens x16_6 Gen.zero).var)) fun r42=>mark (j24_Zx nf m6 x1_6 gens x16_6 s r24 (!r42))) (mark (j24_Zx nf m6 x1_6 gens x16_6 s r24 true))) (mark (j24_Zx nf m6 x1_6 gens x16_6 s r24 true))) (some (x1_6,true))):=by
 unfold l6_Zx j24_Zx c7_Zx c31_Zx w24_Zx c29_Zx c30_Zx
 generalize c24_Zx=x0
 revert x0
 refine id ?_
 intro x0
 kernel_rfl
theorem m_Zx_eq(nf:Nat)(s:Schema)(ctx:List Typing)(gens:List Gen):m_Zx nf s ctx gens=(mark (l6_Zx nf nf gens s ctx (0:Int))):=by kernel_rfl
noncomputable def e_Zx(nf:Nat):XE:=eF 40 [.v (kR 5),.v (kL (kR 8)),.v (kL (kR 3))] [.v (kL (kR 8)),.v .bool] (fun t=>m_Zx nf t.1 t.2.1 t.2.2.1)
theorem o_Zx(nf:Nat):conOK Tryz.prog 40 (e_Zx nf).con:=by
 have ih:XT.ok Tryz.prog (T_Zx nf):=by exact⟨o_Zr nf,o_Zz nf,o_Zk nf,o_ZX nf,trivial⟩
 refine eF_ok fun t x h=> ?_
 obtain⟨s,ctx,gens,_⟩:=t
 exact runF_ok (N:=52) ih Tryz.func40 (by kernel_rfl) rfl h
def c25_ZP:C:=.sq (.rg [.mv 40 T1,.mv 4 T40]) .rt
def c13_ZP:C:=.sq (.rg [.bi 29 .lss T28 T27]) (.sq (.cd T29 .skip (.ex 0)) (.sq (.bk 1 (.sq (.rg [.mv 30 T28,.mv 5 T30]) (.rg [.mv 31 T0,.nck 32 T31,.fa 33 T32 17 5 12,.ld 34 T33 (kL (kR 17)),.mv 35 T5,.ia 36 T34 T35 (kR 17),.mv 37 T1,.cq (some 38) 41 [(T36,.v (.ptr (kR 17))),(T37,.rw true (kR 3))],.rn 1 [1000] T38]))) (.rg [.bi 39 .add T28 (.i 1),.mv 28 T39])))
def c8_ZP:C:=.sq (.sq (.rg [.mv 23 T0,.nck 24 T23,.fa 25 T24 17 5 12,.ld 26 T25 (kL (kR 17)),.ln 27 false T26,.mv 28 (.i 0)]) (.bk 0 (.lk [0,1,27,28] [[1000]] c13_ZP))) c25_ZP
def w8_ZP:C:=.kp [0,1] [[1000]] c8_ZP
def ir_ZP:C:=.sq (.rg [.mv 4 (.nl (kR 3))]) (.sq (.sq (.rg [.mv 6 T0,.nck 7 T6,.fa 8 T7 17 0 0,.ld 9 T8 kI,.bi 10 .eql T9 (.i 2)]) (.cd T10 (.dr [21] [.mv 11 T1,.mv 12 T0,.nck 13 T12,.fa 14 T13 17 1 1,.ld 15 T14 kS,.mv 16 T0,.nck 17 T16,.fa 18 T17 17 2 2,.ld 19 T18 kS,.bd 20 3 [(0,1,T15),(1,1,T19)],.bs 21 true (kR 3) [T20]] [.ap 22 [1000] true (kR 3) T11 T21,.mv 1 T22]) .skip)) w8_ZP)
noncomputable def B_ZP(nf:Nat):XT:=[]
noncomputable def G_ZP(nf:Nat):Nat->XT
 |0=>[]
 |kf+1=>[eQ 41 [.p (kR 17),.sl 0] [.o (kL (kR 3))] [.row true (kR 3)] [.gone] (fun t u=>(fun(p:Plan) (out:List Gen)=>runQ (G_ZP nf kf++B_ZP nf) nf [.p (kR 17),.sl 0] [.row true (kR 3)] [.gone] [.t 4 (.o (kL (kR 3)))] ir_ZP (p,(),()) out) t.1 u)]
noncomputable abbrev T_ZP(nf kf:Nat):XT:=G_ZP nf kf++B_ZP nf
noncomputable def m_ZP(nf kf:Nat)(p:Plan)(out:List Gen):Option ((List Gen)×Unit):=runQ (T_ZP nf kf) nf [.p (kR 17),.sl 0] [.row true (kR 3)] [.gone] [.t 4 (.o (kL (kR 3)))] ir_ZP (p,(),()) out
noncomputable def X_ZP{R:Type}(nf kf:Nat):C->Env->(Xt->Env->Option R)->Option R:=xc (R:=R) (T_ZP nf kf).S nf
noncomputable def l12_ZP(nf kf:Nat)(m12:Nat)(p:Plan)(x28_12:Int)(y1000_12:List Gen):Option ((List Gen)×Unit):=xit [0,1,27,28] [[1000]] (X_ZP nf kf c13_ZP) (qB 0 (qS (X_ZP nf kf c25_ZP) (KQ [.t 4 (.o (kL (kR 3)))] [.gone]))) m12 ⟨[(0,.v (.ptr (kR 17)) (some p)),(1,.sl [1000]),(27,.v kI (List.length p.args:Int)),(28,.v kI x28_12)],[([1000],.row true false (kR 3) y1000_12)]⟩
noncomputable def j8_ZP(nf kf:Nat)(p:Plan)(y1000_8:List Gen):Option ((List Gen)×Unit):=X_ZP nf kf c8_ZP ⟨[(0,.v (.ptr (kR 17)) (some p)),(1,.sl [1000])],[([1000],.row true false (kR 3) y1000_8)]⟩ (KQ [.t 4 (.o (kL (kR 3)))] [.gone])
theorem l12_ZP_eq(nf kf:Nat)(m12:Nat)(p:Plan)(x28_12:Int)(y1000_12:List Gen):l12_ZP nf (kf+1) (m12+1) p x28_12 y1000_12=(br (decide (x28_12<(List.length p.args:Int))) (gg (0<=x28_12∧x28_12<(List.length p.args:Int))<|cb (m_ZP nf kf (gt p.args x28_12 Plan.zero) y1000_12) fun r38=>mark (l12_ZP nf (kf+1) m12 p (w64 (x28_12+(1:Int))) r38.1)) (some (y1000_12,()))):=by kernel_rfl
theorem j8_ZP_eq(nf kf:Nat)(p:Plan)(y1000_8:List Gen):j8_ZP nf (kf+1) p y1000_8=(mark (l12_ZP nf (kf+1) nf p (0:Int) y1000_8)):=by kernel_rfl
theorem m_ZP_eq(nf kf:Nat)(p:Plan)(out:List Gen):m_ZP nf (kf+1) p out=(br (p.kind==(2:Int)) (gg (List.length out+List.length ([(Gen.mk p.var p.table)]:List Gen)<=33554432)<|mark (j8_ZP nf (kf+1) p (out++([(Gen.mk p.var p.table)]:List Gen)))) (mark (j8_ZP nf (kf+1) p out))):=by
 unfold m_ZP j8_ZP ir_ZP w8_ZP
 generalize c8_ZP=x0
 revert x0
 refine id ?_
 intro x0
 kernel_rfl
noncomputable def e_ZP(nf:Nat):XE:=eQ 41 [.p (kR 17),.sl 0] [.o (kL (kR 3))] [.row true (kR 3)] [.gone] (fun t u=>m_ZP nf nf t.1 u)
theorem gok_ZP(nf:Nat):∀kf:Nat,XT.ok Tryz.prog (G_ZP nf kf++B_ZP nf)
 |0=>by exact trivial
 |kf+1=>by
  have ih:=gok_ZP nf kf
  refine⟨?_,(by exact trivial)⟩
  ·refine eQ_ok fun t u x h=> ?_
   obtain⟨p,_,_⟩:=t
   exact runQ_ok (N:=41) ih Tryz.func41 (by kernel_rfl) rfl rfl rfl rfl rfl h
theorem o_ZP(nf:Nat):conOK Tryz.prog 41 (e_ZP nf).con:=by
 have ih:=gok_ZP nf nf
 refine eQ_ok fun t u x h=> ?_
 obtain⟨p,_,_⟩:=t
 exact runQ_ok (N:=41) ih Tryz.func41 (by kernel_rfl) rfl rfl rfl rfl rfl h
def c35_ZL:C:=.sq (.rg [.mv 2 (.i (-1)),.mv 3 (.i (-1))]) .rt
def c12_ZL:C:=.cd T5 (.sq (.rg [.mv 2 (.i 0),.mv 3 (.i 0)]) .rt) (.sq (.rg [.bi 9 .eql T4 (.i 3),.mv 8 T9]) (.cd T8 (.sq (.rg [.mv 2 (.i 2),.mv 3 (.i 0)]) .rt) (.sq (.rg [.bi 11 .eql T4 (.i 4),.mv 10 T11]) (.cd T10 (.sq (.rg [.mv 2 (.i 1),.mv 3 (.i 0)]) .rt) (.sq (.rg [.bi 13 .eql T4 (.i 5),.mv 12 T13]) (.cd T12 (.sq (.rg [.mv 2 (.i 2),.mv 3 (.i 2)]) .rt) .skip))))))
def w12_ZL:C:=.kp [4,5] [] c12_ZL
def ir_ZL:C:=.sq (.rg [.mv 2 (.i 0),.mv 3 (.i 0)]) (.sq (.sq (.rg [.mv 4 T0]) (.bk 0 (.sq (.sq (.rg [.bi 6 .eql T4 (.i 1),.mv 5 T6]) (.cd T5 .skip (.rg [.bi 7 .eql T4 (.i 2),.mv 5 T7]))) w12_ZL))) c35_ZL)
noncomputable abbrev T_ZL(nf:Nat):XT:=[]
noncomputable def m_ZL(nf:Nat)(kind:Int):Option (Int×Int):=runF (T_ZL nf) nf [.v kI] [.t 2 (.v kI),.t 3 (.v kI)] ir_ZL (kind,())
noncomputable def X_ZL{R:Type}(nf:Nat):C->Env->(Xt->Env->Option R)->Option R:=xc (R:=R) (T_ZL nf).S nf
noncomputable def j12_ZL(nf:Nat)(kind:Int)(x5_12:Bool):Option (Int×Int):=X_ZL nf c12_ZL ⟨[(4,.v kI kind),(5,.v .bool x5_12)],[]⟩ (qB 0 (qS (X_ZL nf c35_ZL) (KF [.t 2 (.v kI),.t 3 (.v kI)])))
theorem j12_ZL_eq(nf:Nat)(kind:Int)(x5_12:Bool):j12_ZL nf kind x5_12=(br x5_12 (some ((0:Int),(0:Int))) (br (kind==(3:Int)) (some ((2:Int),(0:Int))) (br (kind==(4:Int)) (some ((1:Int),(0:Int))) (br (kind==(5:Int)) (some ((2:Int),(2:Int))) (some ((-1:Int),(-1:Int))))))):=by kernel_rfl
theorem m_ZL_eq(nf:Nat)(kind:Int):m_ZL nf kind=(br (kind==(1:Int)) (mark (j12_ZL nf kind (kind==(1:Int)))) (mark (j12_ZL nf kind (kind==(2:Int))))):=by
 unfold m_ZL j12_ZL ir_ZL w12_ZL c35_ZL
 generalize c12_ZL=x0
 revert x0
 refine id ?_
 intro x0
 kernel_rfl
noncomputable def e_ZL(nf:Nat):XE:=eF 125 [.v kI] [.v kI,.v kI] (fun t=>m_ZL nf t.1)
theorem o_ZL(nf:Nat):conOK Tryz.prog 125 (e_ZL nf).con:=by
 have ih:XT.ok Tryz.prog (T_ZL nf):=by exact trivial
 refine eF_ok fun t x h=> ?_
 obtain⟨kind,_⟩:=t
 exact runF_ok (N:=14) ih Tryz.func125 (by kernel_rfl) rfl h
def ir_ZO:C:=.sq (.rg [.mv 4 (.nl (kR 8))]) (.sq (.dr [16] [.ld 8 T1 (kR 5),.ld 9 T2 (.ptr (kR 17)),.nck 10 T9,.fa 11 T10 17 5 12,.ld 12 T11 (kL (kR 17)),.mv 13 T0,.ia 14 T12 T13 (kR 17),.cnw 15 41 [(T14,.v (.ptr (kR 17))),((.nl (kR 3)),.rw true (kR 3))],.ca (some 16) 40 [(T8,.v (kR 5)),((.nl (kR 8)),.v (kL (kR 8))),(T15,.v (kL (kR 3)))],.mv 7 T16,.xt 17 T7 0,.xt 18 T7 1,.mv 5 T17] [.mv 6 T18]) (.sq (.rg [.mv 19 T5,.mv 4 T19]) .rt))
noncomputable abbrev T_ZO(nf:Nat):XT:=[e_ZP nf,e_Zx nf]
noncomputable def m_ZO(nf:Nat)(i:Int)(s:Schema)(p:Option Plan):Option (List Typing):=runF (T_ZO nf) nf [.v kI,.p (kR 5),.p (.ptr (kR 17))] [.t 4 (.v (kL (kR 8)))] ir_ZO (i,s,p,())
theorem m_ZO_eq(nf:Nat)(i:Int)(s:Schema)(p:Option Plan):m_ZO nf i s p=(Option.bind p fun p10=>gg (0<=i∧i<(List.length p10.args:Int))<|cb (m_ZP nf nf (gt p10.args i Plan.zero) ([]:List Gen)) fun r15=>cb (m_Zx nf s ([]:List Typing) r15.1) fun r16=>some r16.1):=by kernel_rfl
noncomputable def e_ZO(nf:Nat):XE:=eF 126 [.v kI,.p (kR 5),.p (.ptr (kR 17))] [.v (kL (kR 8))] (fun t=>m_ZO nf t.1 t.2.1 t.2.2.1)
theorem o_ZO(nf:Nat):conOK Tryz.prog 126 (e_ZO nf).con:=by
 have ih:XT.ok Tryz.prog (T_ZO nf):=by exact⟨o_ZP nf,o_Zx nf,trivial⟩
 refine eF_ok fun t x h=> ?_
 obtain⟨i,s,p,_⟩:=t
 exact runF_ok (N:=20) ih Tryz.func126 (by kernel_rfl) rfl h
def c12_ZN:C:=.sq (.rg [.mf 68 126 [T2,T3],.mv 7 T68]) (.sq (.sq (.rg [.ld 69 T3 (.ptr (kR 17)),.nck 70 T69,.fa 71 T70 17 0 0,.ld 72 T71 kI]) (.bk 0 (.sq (.rg [.bi 74 .eql T72 (.i 4),.mv 73 T74]) (.cd T73 (.sq (.dr [77] [.ld 75 T2 (kR 5),.mv 76 T7,.cf (some 77) T76 [((.i 0),.v kI)],.ld 78 T3 (.ptr (kR 17)),.nck 79 T78,.fa 80 T79 17 3 3] [.cv (some 81) 103 [(T75,.v (kR 5)),(T77,.v (kL (kR 8))),(T80,.v (.ptr (kR 2))),((.i 2),.v kI)],.mv 4 T81]) .rt) (.sq (.rg [.bi 83 .eql T72 (.i 5),.mv 82 T83]) (.cd T82 (.sq (.dr [86] [.ld 84 T2 (kR 5),.mv 85 T7,.cf (some 86) T85 [((.i 0),.v kI)],.ld 87 T3 (.ptr (kR 17)),.nck 88 T87,.fa 89 T88 17 4 11,.ld 90 T89 (kL (kR 2)),.ia 91 T90 (.i 0) (kR 2),.cv (some 92) 103 [(T84,.v (kR 5)),(T86,.v (kL (kR 8))),(T91,.v (.ptr (kR 2))),((.i 1),.v kI)],.mv 93 T92,.g 93 true (.ld 94 T2 (kR 5)),.g 93 true (.mv 95 T7),.g 93 true (.cfr 96 T95 [((.i 1),.v kI)]),.g 93 true (.ld 97 T3 (.ptr (kR 17))),.g 93 true (.nck 98 T97),.g 93 true (.fa 99 T98 17 4 11),.g 93 true (.ld 100 T99 (kL (kR 2))),.g 93 true (.ia 101 T100 (.i 1) (kR 2))] [.g 93 true (.cv (some 102) 103 [(T94,.v (kR 5)),(T96,.v (kL (kR 8))),(T101,.v (.ptr (kR 2))),((.i 1),.v kI)]),.pk 103 T93 T102 (.b false),.mv 4 T103]) .rt) .skip)))))) (.sq (.rg [.mv 4 (.b true)]) .rt))
def c7_ZN:C:=.cd T67 (.sq (.rg [.mv 4 (.b false)]) .rt) .skip
def w7_ZN:C:=.kp [2,3,67] [] c7_ZN
def ir_ZN:C:=.sq (.rg [.bz 2 T0 (kR 5),.bz 3 T1 (.ptr (kR 17)),.mv 4 (.b false)]) (.sq (.rg [.ld 9 T3 (.ptr (kR 17)),.nck 10 T9,.fa 11 T10 17 0 0,.ld 12 T11 kI,.ca (some 13) 125 [(T12,.v kI)],.mv 8 T13,.xt 14 T8 0,.xt 15 T8 1,.mv 5 T14,.mv 6 T15]) (.sq (.sq (.rg [.ld 16 T3 (.ptr (kR 17)),.nck 17 T16,.fa 18 T17 17 5 12,.ld 19 T18 (kL (kR 17)),.ln 20 false T19,.mv 21 T5,.bi 22 .neq T20 T21,.mv 23 T22,.g 23 false (.ld 24 T3 (.ptr (kR 17))),.g 23 false (.nck 25 T24),.g 23 false (.fa 26 T25 17 4 11),.g 23 false (.ld 27 T26 (kL (kR 2))),.g 23 false (.ln 28 false T27),.g 23 false (.mv 29 T6),.g 23 false (.bi 30 .neq T28 T29),.pk 31 T23 (.b true) T30,.mv 32 T31,.g 32 false (.ld 33 T3 (.ptr (kR 17))),.g 32 false (.nck 34 T33),.g 32 false (.fa 35 T34 17 0 0),.g 32 false (.ld 36 T35 kI),.g 32 false (.bi 37 .neq T36 (.i 2)),.g 32 false (.mv 38 T37),.g 38 true (.ld 39 T3 (.ptr (kR 17))),.g 38 true (.nck 40 T39),.g 38 true (.fa 41 T40 17 1 1),.g 38 true (.ld 42 T41 kS),.g 38 true (.bi 43 .neq T42 (.s [])),.g 38 true (.mv 44 T43),.g 44 false (.ld 45 T3 (.ptr (kR 17))),.g 44 false (.nck 46 T45),.g 44 false (.fa 47 T46 17 2 2),.g 44 false (.ld 48 T47 kS),.g 44 false (.bi 49 .neq T48 (.s [])),.g 38 true (.pk 50 T44 (.b true) T49),.g 32 false (.pk 51 T38 T50 (.b false)),.pk 52 T32 (.b true) T51,.mv 53 T52,.g 53 false (.ld 54 T3 (.ptr (kR 17))),.g 53 false (.nck 55 T54),.g 53 false (.fa 56 T55 17 0 0),.g 53 false (.ld 57 T56 kI),.g 53 false (.bi 58 .neq T57 (.i 4)),.g 53 false (.mv 59 T58),.g 59 true (.ld 60 T3 (.ptr (kR 17))),.g 59 true (.nck 61 T60),.g 59 true (.fa 62 T61 17 3 3),.g 59 true (.ld 63 T62 (kR 2)),.g 59 true (.cv (some 64) 104 [(T63,.v (kR 2))]),.g 59 true (.un 65 .not T64),.g 53 false (.pk 66 T59 T65 (.b false)),.pk 67 T53 (.b true) T66]) w7_ZN) c12_ZN))
noncomputable abbrev T_ZN(nf:Nat):XT:=[e_ZL nf,e_ZE nf,e_ZO nf,e_Zy nf]
noncomputable def m_ZN(nf:Nat)(s:Schema)(p:Plan):Option (Bool):=runF (T_ZN nf) nf [.v (kR 5),.p (kR 17)] [.t 4 (.v .bool)] ir_ZN (s,p,())
noncomputable def X_ZN{R:Type}(nf:Nat):C->Env->(Xt->Env->Option R)->Option R:=xc (R:=R) (T_ZN nf).S nf
noncomputable def j7_ZN(nf:Nat)(s:Schema)(p:Plan)(x67_7:Bool):Option (Bool):=X_ZN nf c7_ZN ⟨[(2,.v (.ptr (kR 5)) (some s)),(3,.v (.ptr (.ptr (kR 17))) (some (some p))),(67,.v .bool x67_7)],[]⟩ (qS (X_ZN nf c12_ZN) (KF [.t 4 (.v .bool)]))
theorem j7_ZN_eq(nf:Nat)(s:Schema)(p:Plan)(x67_7:Bool):j7_ZN nf s p x67_7=(br x67_7 (some false) (br (p.kind==(4:Int)) (cb (m_ZO nf (0:Int) s (some p)) fun r77=>cb (m_Zy nf s r77 p.cond (2:Int)) fun r81=>some r81) (br (p.kind==(5:Int)) (cb (m_ZO nf (0:Int) s (some p)) fun r86=>gg (0<=(0:Int)∧(0:Int)<(List.length p.keys:Int))<|cb (m_Zy nf s r86 (gt p.keys (0:Int) Tm.zero) (1:Int)) fun r92=>br (r92==true) (cb (m_ZO nf (1:Int) s (some p)) fun r96=>gg (0<=(1:Int)∧(1:Int)<(List.length p.keys:Int))<|cb (m_Zy nf s r96 (gt p.keys (1:Int) Tm.zero) (1:Int)) fun r102=>some r102) (some false)) (some true)))):=by kernel_rfl
theorem m_ZN_eq(nf:Nat)(s:Schema)(p:Plan):m_ZN nf s p=(cb (m_ZL nf p.kind) fun r13=>br ((!((List.length p.args:Int)==r13.1))==false) (br ((!((List.length p.keys:Int)==r13.2))==false) (br ((!(p.kind==(2:Int)))==true) (br ((!(p.var==([]:Str)))==false) (br ((!(p.table==([]:Str)))==false) (br ((!(p.kind==(4:Int)))==true) (cb (m_ZE nf p.cond) fun r64=>mark (j7_ZN nf s p (!r64))) (mark (j7_ZN nf s p false))) (mark (j7_ZN nf s p true))) (mark (j7_ZN nf s p true))) (br ((!(p.kind==(4:Int)))==true) (cb (m_ZE nf p.cond) fun r64=>mark (j7_ZN nf s p (!r64))) (mark (j7_ZN nf s p false)))) (mark (j7_ZN nf s p true))) (mark (j7_ZN nf s p true))):=by
 unfold m_ZN j7_ZN ir_ZN w7_ZN c12_ZN
 generalize c7_ZN=x0
 revert x0
 refine id ?_
 intro x0
 kernel_rfl
noncomputable def e_ZN(nf:Nat):XE:=eF 84 [.v (kR 5),.p (kR 17)] [.v .bool] (fun t=>m_ZN nf t.1 t.2.1)
theorem o_ZN(nf:Nat):conOK Tryz.prog 84 (e_ZN nf).con:=by
 have ih:XT.ok Tryz.prog (T_ZN nf):=by exact⟨o_ZL nf,o_ZE nf,o_ZO nf,o_Zy nf,trivial⟩
 refine eF_ok fun t x h=> ?_
 obtain⟨s,p,_⟩:=t
 exact runF_ok (N:=104) ih Tryz.func84 (by kernel_rfl) rfl h
def c25_ZM:C:=.sq (.rg [.ld 24 T2 (kR 5),.mv 25 T1,.cv (some 26) 84 [(T24,.v (kR 5)),(T25,.v (.ptr (kR 17)))],.mv 4 T26]) .rt
def w25_ZM:C:=.kp [1,2] [[2]] c25_ZM
def c7_ZM:C:=.sq (.rg [.bi 12 .lss T11 T10]) (.sq (.cd T12 .skip (.ex 0)) (.sq (.bk 1 (.sq (.rg [.mv 13 T11,.mv 5 T13]) (.sq (.dr [] [.ld 14 T2 (kR 5),.mv 15 T1,.nck 16 T15,.fa 17 T16 17 5 12,.ld 18 T17 (kL (kR 17)),.mv 19 T5,.ia 20 T18 T19 (kR 17)] [.cv (some 21) 42 [(T14,.v (kR 5)),(T20,.v (.ptr (kR 17)))],.un 22 .not T21]) (.cd T22 (.sq (.rg [.mv 4 (.b false)]) .rt) .skip)))) (.rg [.bi 23 .add T11 (.i 1),.mv 11 T23])))
def ir_ZM:C:=.sq (.rg [.bx 2 T0 (kR 5),.mv 4 (.b false)]) (.sq (.sq (.rg [.mv 6 T1,.nck 7 T6,.fa 8 T7 17 5 12,.ld 9 T8 (kL (kR 17)),.ln 10 false T9,.mv 11 (.i 0)]) (.bk 0 (.lk [1,2,10,11] [[2]] c7_ZM))) w25_ZM)
noncomputable def B_ZM(nf:Nat):XT:=[e_ZN nf]
noncomputable def G_ZM(nf:Nat):Nat->XT
 |0=>[]
 |kf+1=>[eF 42 [.v (kR 5),.p (kR 17)] [.v .bool] (fun t=>(fun(s:Schema) (p:Plan)=>runF (G_ZM nf kf++B_ZM nf) nf [.v (kR 5),.p (kR 17)] [.t 4 (.v .bool)] ir_ZM (s,p,())) t.1 t.2.1)]
noncomputable abbrev T_ZM(nf kf:Nat):XT:=G_ZM nf kf++B_ZM nf
noncomputable def m_ZM(nf kf:Nat)(s:Schema)(p:Plan):Option (Bool):=runF (T_ZM nf kf) nf [.v (kR 5),.p (kR 17)] [.t 4 (.v .bool)] ir_ZM (s,p,())
noncomputable def X_ZM{R:Type}(nf kf:Nat):C->Env->(Xt->Env->Option R)->Option R:=xc (R:=R) (T_ZM nf kf).S nf
noncomputable def l6_ZM(nf kf:Nat)(m6:Nat)(p:Plan)(s:Schema)(x11_6:Int):Option (Bool):=xit [1,2,10,11] [[2]] (X_ZM nf kf c7_ZM) (qB 0 (qS (X_ZM nf kf w25_ZM) (KF [.t 4 (.v .bool)]))) m6 ⟨[(1,.v (.ptr (kR 17)) (some p)),(2,.pt [2] 0),(10,.v kI (List.length p.args:Int)),(11,.v kI x11_6)],[([2],.box [.v (kL (kR 4)) s.tables])]⟩
noncomputable def j25_ZM(nf kf:Nat)(p:Plan)(s:Schema):Option (Bool):=X_ZM nf kf c25_ZM ⟨[(1,.v (.ptr (kR 17)) (some p)),(2,.pt [2] 0)],[([2],.box [.v (kL (kR 4)) s.tables])]⟩ (KF [.t 4 (.v .bool)])
theorem l6_ZM_eq(nf kf:Nat)(m6:Nat)(p:Plan)(s:Schema)(x11_6:Int):l6_ZM nf (kf+1) (m6+1) p s x11_6=(br (decide (x11_6<(List.length p.args:Int))) (gg (0<=x11_6∧x11_6<(List.length p.args:Int))<|cb (m_ZM nf kf s (gt p.args x11_6 Plan.zero)) fun r21=>br (!r21) (some false) (mark (l6_ZM nf (kf+1) m6 p s (w64 (x11_6+(1:Int)))))) (mark (j25_ZM nf (kf+1) p s))):=by
 unfold l6_ZM j25_ZM c7_ZM w25_ZM
 generalize c25_ZM=x0
 revert x0
 refine id ?_
 intro x0
 kernel_rfl
theorem j25_ZM_eq(nf kf:Nat)(p:Plan)(s:Schema):j25_ZM nf (kf+1) p s=(cb (m_ZN nf s p) fun r26=>some r26):=by kernel_rfl
theorem m_ZM_eq(nf kf:Nat)(s:Schema)(p:Plan):m_ZM nf (kf+1) s p=(mark (l6_ZM nf (kf+1) nf p s (0:Int))):=by
 unfold m_ZM l6_ZM ir_ZM w25_ZM
 generalize c25_ZM=x0
 revert x0
 refine id ?_
 intro x0
 kernel_rfl
noncomputable def e_ZM(nf:Nat):XE:=eF 42 [.v (kR 5),.p (kR 17)] [.v .bool] (fun t=>m_ZM nf nf t.1 t.2.1)
theorem gok_ZM(nf:Nat):∀kf:Nat,XT.ok Tryz.prog (G_ZM nf kf++B_ZM nf)
 |0=>by exact⟨o_ZN nf,trivial⟩
 |kf+1=>by
  have ih:=gok_ZM nf kf
  refine⟨?_,(by exact⟨o_ZN nf,trivial⟩)⟩
  ·refine eF_ok fun t x h=> ?_
   obtain⟨s,p,_⟩:=t
   exact runF_ok (N:=27) ih Tryz.func42 (by kernel_rfl) rfl h
theorem o_ZM(nf:Nat):conOK Tryz.prog 42 (e_ZM nf).con:=by
 have ih:=gok_ZM nf nf
 refine eF_ok fun t x h=> ?_
 obtain⟨s,p,_⟩:=t
 exact runF_ok (N:=27) ih Tryz.func42 (by kernel_rfl) rfl h
def ir_Zl:C:=.sq (.rg [.bx 2 T0 (kR 5),.bz 3 T1 (kR 17),.mv 4 (.b false)]) (.sq (.sq (.rg [.ld 7 T2 (kR 5),.cv (some 8) 39 [(T7,.v (kR 5))],.un 9 .not T8]) (.cd T9 (.sq (.rg [.mv 4 (.b false)]) .rt) .skip)) (.sq (.dr [13] [.ld 11 T2 (kR 5),.cnw 12 41 [(T3,.v (.ptr (kR 17))),((.nl (kR 3)),.rw true (kR 3))],.ca (some 13) 40 [(T11,.v (kR 5)),((.nl (kR 8)),.v (kL (kR 8))),(T12,.v (kL (kR 3)))],.mv 10 T13,.xt 14 T10 0,.xt 15 T10 1,.mv 5 T14] [.mv 6 T15]) (.sq (.rg [.mv 16 T6,.mv 17 T16,.g 17 true (.ld 18 T2 (kR 5)),.g 17 true (.cv (some 19) 42 [(T18,.v (kR 5)),(T3,.v (.ptr (kR 17)))]),.pk 20 T17 T19 (.b false),.mv 4 T20]) .rt)))
noncomputable abbrev T_Zl(nf:Nat):XT:=[e_Zo nf,e_ZP nf,e_Zx nf,e_ZM nf]
noncomputable def m_Zl(nf:Nat)(s:Schema)(p:Plan):Option (Bool):=runF (T_Zl nf) nf [.v (kR 5),.v (kR 17)] [.t 4 (.v .bool)] ir_Zl (s,p,())
theorem m_Zl_eq(nf:Nat)(s:Schema)(p:Plan):m_Zl nf s p=(cb (m_Zo nf s) fun r8=>br (!r8) (some false) (cb (m_ZP nf nf p ([]:List Gen)) fun r12=>cb (m_Zx nf s ([]:List Typing) r12.1) fun r13=>br (r13.2==true) (cb (m_ZM nf nf s p) fun r19=>some r19) (some false))):=by kernel_rfl
noncomputable def e_Zl(nf:Nat):XE:=eF 11 [.v (kR 5),.v (kR 17)] [.v .bool] (fun t=>m_Zl nf t.1 t.2.1)
theorem o_Zl(nf:Nat):conOK Tryz.prog 11 (e_Zl nf).con:=by
 have ih:XT.ok Tryz.prog (T_Zl nf):=by exact⟨o_Zo nf,o_ZP nf,o_Zx nf,o_ZM nf,trivial⟩
 refine eF_ok fun t x h=> ?_
 obtain⟨s,p,_⟩:=t
 exact runF_ok (N:=21) ih Tryz.func11 (by kernel_rfl) rfl h
end Go.Q
