/- The text of a type, read: the program's side. -/
import Derived.Test.YteidofmblfglkaaC6
import Derived.Test.YteidofmblfglkaaC3
import Derived.Test.YteidofmblfglkaaJn
import Derived.Test.YteidofmblfglkaaProg
import Derived.KernelRfl
set_option linter.unusedVariables false
set_option linter.unusedSimpArgs false
namespace Go.Q
open Go.Proofs
set_option maxRecDepth 20000
set_option maxHeartbeats 4000000
def ir_ZA:C:=.sq (.rg [.mv 4 (.b false)]) (.sq (.rg [.mv 5 T0,.ln 6 true T5,.mv 7 T1,.ln 8 true T7,.bi 9 .geq T6 T8,.mv 10 T9,.g 10 true (.mv 11 T0),.g 10 true (.mv 12 T1),.g 10 true (.ln 13 true T12),.g 10 true (.sx 14 T11 none (some T13)),.g 10 true (.mv 15 T1),.g 10 true (.bi 16 .eql T14 T15),.pk 17 T10 T16 (.b false),.mv 4 T17]) .rt)
noncomputable abbrev T_ZA(nf:Nat):XT:=[]
noncomputable def m_ZA(nf:Nat)(s:Str)(t:Str):Option (Bool):=runF (T_ZA nf) nf [.v kS,.v kS] [.t 4 (.v .bool)] ir_ZA (s,t,())
theorem m_ZA_eq(nf:Nat)(s:Str)(t:Str):m_ZA nf s t=(br ((decide ((List.length t:Int)<=(List.length s:Int)))==true) (gg (0<=(0:Int)∧(0:Int)<=(List.length t:Int)∧(List.length t:Int)<=(List.length s:Int))<|some ((List.drop (Int.toNat (0:Int)) (List.take (Int.toNat (List.length t:Int)) s))==t)) (some false)):=by kernel_rfl
noncomputable def e_ZA(nf:Nat):XE:=eF 123 [.v kS,.v kS] [.v .bool] (fun t=>m_ZA nf t.1 t.2.1)
theorem o_ZA(nf:Nat):conOK Try.prog 123 (e_ZA nf).con:=by
 have ih:XT.ok Try.prog (T_ZA nf):=by exact trivial
 refine eF_ok fun t x h=> ?_
 obtain⟨s,t,_⟩:=t
 exact runF_ok (N:=18) ih Try.func123 (by kernel_rfl) rfl h
def ir_Zap:C:=.sq (.rg [.mv 4 (.b false)]) (.sq (.rg [.mv 5 T0,.mv 6 T1,.cv (some 7) 123 [(T5,.v kS),(T6,.v kS)],.mv 4 T7]) .rt)
noncomputable abbrev T_Zap(nf:Nat):XT:=[e_ZA nf]
noncomputable def m_Zap(nf:Nat)(s:Str)(t:Str):Option (Bool):=runF (T_Zap nf) nf [.v kS,.v kS] [.t 4 (.v .bool)] ir_Zap (s,t,())
theorem m_Zap_eq(nf:Nat)(s:Str)(t:Str):m_Zap nf s t=(cb (m_ZA nf s t) fun r7=>some r7):=by kernel_rfl
noncomputable def e_Zap(nf:Nat):XE:=eF 121 [.v kS,.v kS] [.v .bool] (fun t=>m_Zap nf t.1 t.2.1)
theorem o_Zap(nf:Nat):conOK Try.prog 121 (e_Zap nf).con:=by
 have ih:XT.ok Try.prog (T_Zap nf):=by exact⟨o_ZA nf,trivial⟩
 refine eF_ok fun t x h=> ?_
 obtain⟨s,t,_⟩:=t
 exact runF_ok (N:=8) ih Try.func121 (by kernel_rfl) rfl h
def ir_Zq:C:=.sq (.rg [.mv 4 (.b false)]) (.sq (.dr [] [.mv 5 T0,.nck 6 T5,.fa 7 T6 19 2 2,.ld 8 T7 .bool,.un 9 .not T8,.mv 10 T9,.g 10 true (.mv 11 T0),.g 10 true (.nck 12 T11),.g 10 true (.fa 13 T12 19 0 0),.g 10 true (.ld 14 T13 kS),.g 10 true (.mv 15 T0),.g 10 true (.nck 16 T15),.g 10 true (.fa 17 T16 19 1 1),.g 10 true (.ld 18 T17 kI),.g 10 true (.sx 19 T14 (some T18) none),.g 10 true (.mv 20 T1)] [.g 10 true (.cv (some 21) 121 [(T19,.v kS),(T20,.v kS)]),.pk 22 T10 T21 (.b false),.mv 4 T22]) .rt)
noncomputable abbrev T_Zq(nf:Nat):XT:=[e_Zap nf]
noncomputable def m_Zq(nf:Nat)(t:Str)(r_s:Str)(r_at_:Int)(r_bad:Bool):Option ((Bool)×(Str×Int×Bool×Unit)):=runQ (T_Zq nf) nf [.pt 0 0,.v kS] [.box [.v kS,.v kI,.v .bool]] [.box [.v kS,.v kI,.v .bool]] [.t 4 (.v .bool)] ir_Zq ((),t,()) (r_s,r_at_,r_bad,())
theorem m_Zq_eq(nf:Nat)(t:Str)(r_s:Str)(r_at_:Int)(r_bad:Bool):m_Zq nf t r_s r_at_ r_bad=(br ((!r_bad)==true) (gg (0<=r_at_∧r_at_<=(List.length r_s:Int)∧(List.length r_s:Int)<=(List.length r_s:Int))<|cb (m_Zap nf (List.drop (Int.toNat r_at_) (List.take (Int.toNat (List.length r_s:Int)) r_s)) t) fun r21=>some (r21,(r_s,r_at_,r_bad,()))) (some (false,(r_s,r_at_,r_bad,())))):=by kernel_rfl
noncomputable def e_Zq(nf:Nat):XE:=eQ 106 [.pt 0 0,.v kS] [.v .bool] [.box [.v kS,.v kI,.v .bool]] [.box [.v kS,.v kI,.v .bool]] (fun t u=>m_Zq nf t.2.1 u.1 u.2.1 u.2.2.1)
theorem o_Zq(nf:Nat):conOK Try.prog 106 (e_Zq nf).con:=by
 have ih:XT.ok Try.prog (T_Zq nf):=by exact⟨o_Zap nf,trivial⟩
 refine eQ_ok fun t u x h=> ?_
 obtain⟨_,t,_⟩:=t
 exact runQ_ok (N:=23) ih Try.func106 (by kernel_rfl) rfl rfl rfl rfl rfl h
def ir_Zv:C:=.sq (.rg [.mv 4 (.b false)]) (.sq (.sq (.rg [.mv 5 T0,.mv 6 T1,.cq (some 7) 106 [(T5,.q),(T6,.v kS)],.un 8 .not T7]) (.cd T8 (.sq (.rg [.mv 4 (.b false)]) .rt) .skip)) (.sq (.rg [.mv 9 T0,.nck 10 T9,.fa 11 T10 19 1 1,.ld 12 T11 kI,.mv 13 T1,.ln 14 true T13,.bi 15 .add T12 T14,.nck 16 T9,.fa 17 T16 19 1 1,.st T17 T15 kI]) (.sq (.rg [.mv 4 (.b true)]) .rt)))
noncomputable abbrev T_Zv(nf:Nat):XT:=[e_Zq nf]
noncomputable def m_Zv(nf:Nat)(t:Str)(r_s:Str)(r_at_:Int)(r_bad:Bool):Option ((Bool)×(Str×Int×Bool×Unit)):=runQ (T_Zv nf) nf [.pt 0 0,.v kS] [.box [.v kS,.v kI,.v .bool]] [.box [.v kS,.v kI,.v .bool]] [.t 4 (.v .bool)] ir_Zv ((),t,()) (r_s,r_at_,r_bad,())
theorem m_Zv_eq(nf:Nat)(t:Str)(r_s:Str)(r_at_:Int)(r_bad:Bool):m_Zv nf t r_s r_at_ r_bad=(cb (m_Zq nf t r_s r_at_ r_bad) fun r7=>br (!r7.1) (some (false,(r7.2.1,r7.2.2.1,r7.2.2.2.1,()))) (some (true,(r7.2.1,(w64 (r7.2.2.1+(List.length t:Int))),r7.2.2.2.1,())))):=by kernel_rfl
noncomputable def e_Zv(nf:Nat):XE:=eQ 88 [.pt 0 0,.v kS] [.v .bool] [.box [.v kS,.v kI,.v .bool]] [.box [.v kS,.v kI,.v .bool]] (fun t u=>m_Zv nf t.2.1 u.1 u.2.1 u.2.2.1)
theorem o_Zv(nf:Nat):conOK Try.prog 88 (e_Zv nf).con:=by
 have ih:XT.ok Try.prog (T_Zv nf):=by exact⟨o_Zq nf,trivial⟩
 refine eQ_ok fun t u x h=> ?_
 obtain⟨_,t,_⟩:=t
 exact runQ_ok (N:=18) ih Try.func88 (by kernel_rfl) rfl rfl rfl rfl rfl h
def ir_Zt:C:=.sq (.rg [.mv 4 T0,.mv 5 T1,.cq (some 6) 88 [(T4,.q),(T5,.v kS)],.un 7 .not T6]) (.cd T7 (.rg [.mv 8 T0,.nck 9 T8,.fa 10 T9 19 2 2,.st T10 (.b true) .bool]) .skip)
noncomputable abbrev T_Zt(nf:Nat):XT:=[e_Zv nf]
noncomputable def m_Zt(nf:Nat)(t:Str)(r_s:Str)(r_at_:Int)(r_bad:Bool):Option ((Unit)×(Str×Int×Bool×Unit)):=runQ (T_Zt nf) nf [.pt 0 0,.v kS] [.box [.v kS,.v kI,.v .bool]] [.box [.v kS,.v kI,.v .bool]] [] ir_Zt ((),t,()) (r_s,r_at_,r_bad,())
theorem m_Zt_eq(nf:Nat)(t:Str)(r_s:Str)(r_at_:Int)(r_bad:Bool):m_Zt nf t r_s r_at_ r_bad=(cb (m_Zv nf t r_s r_at_ r_bad) fun r6=>br (!r6.1) (some ((),(r6.2.1,r6.2.2.1,true,()))) (some ((),(r6.2.1,r6.2.2.1,r6.2.2.2.1,())))):=by kernel_rfl
noncomputable def e_Zt(nf:Nat):XE:=eQ 91 [.pt 0 0,.v kS] [] [.box [.v kS,.v kI,.v .bool]] [.box [.v kS,.v kI,.v .bool]] (fun t u=>m_Zt nf t.2.1 u.1 u.2.1 u.2.2.1)
theorem o_Zt(nf:Nat):conOK Try.prog 91 (e_Zt nf).con:=by
 have ih:XT.ok Try.prog (T_Zt nf):=by exact⟨o_Zv nf,trivial⟩
 refine eQ_ok fun t u x h=> ?_
 obtain⟨_,t,_⟩:=t
 exact runQ_ok (N:=11) ih Try.func91 (by kernel_rfl) rfl rfl rfl rfl rfl h
def ir_Zs:C:=.sq (.rg [.mv 2 (.b false)]) (.sq (.rg [.mv 3 T0,.cv (some 4) 109 [(T3,.v (.int .u8))],.mv 5 T4,.g 5 false (.mv 6 T0),.g 5 false (.cv (some 7) 110 [(T6,.v (.int .u8))]),.pk 8 T5 (.b true) T7,.mv 2 T8]) .rt)
noncomputable abbrev T_Zs(nf:Nat):XT:=[e_Zn nf,e_Zm nf]
noncomputable def m_Zs(nf:Nat)(c:Int):Option (Bool):=runF (T_Zs nf) nf [.v (.int .u8)] [.t 2 (.v .bool)] ir_Zs (c,())
theorem m_Zs_eq(nf:Nat)(c:Int):m_Zs nf c=(cb (m_Zn nf c) fun r4=>br (r4==false) (cb (m_Zm nf c) fun r7=>some r7) (some true)):=by kernel_rfl
noncomputable def e_Zs(nf:Nat):XE:=eF 108 [.v (.int .u8)] [.v .bool] (fun t=>m_Zs nf t.1)
theorem o_Zs(nf:Nat):conOK Try.prog 108 (e_Zs nf).con:=by
 have ih:XT.ok Try.prog (T_Zs nf):=by exact⟨o_Zn nf,o_Zm nf,trivial⟩
 refine eF_ok fun t x h=> ?_
 obtain⟨c,_⟩:=t
 exact runF_ok (N:=9) ih Try.func108 (by kernel_rfl) rfl h
def c15_Zu:C:=.sq (.dr [] [.mv 47 T0,.nck 48 T47,.fa 49 T48 19 0 0,.ld 50 T49 kS,.mv 51 T5,.mv 52 T0,.nck 53 T52,.fa 54 T53 19 1 1,.ld 55 T54 kI] [.sx 56 T50 (some T51) (some T55),.mv 4 T56]) .rt
def w15_Zu:C:=.kp [0,5] [[1000]] c15_Zu
def c13_Zu:C:=.bk 1 (.rg [.mv 40 T0,.nck 41 T40,.fa 42 T41 19 1 1,.ld 43 T42 kI,.bi 44 .add T43 (.i 1),.nck 45 T40,.fa 46 T45 19 1 1,.st T46 T44 kI])
def c10_Zu:C:=.cd T39 .skip (.ex 0)
def w10_Zu:C:=.kp [0,1,5,39] [[1000]] c10_Zu
def c7_Zu:C:=.sq (.sq (.dr [] [.mv 10 T0,.nck 11 T10,.fa 12 T11 19 2 2,.ld 13 T12 .bool,.un 14 .not T13,.mv 15 T14,.g 15 true (.mv 16 T0),.g 15 true (.nck 17 T16),.g 15 true (.fa 18 T17 19 1 1),.g 15 true (.ld 19 T18 kI),.g 15 true (.mv 20 T0),.g 15 true (.nck 21 T20),.g 15 true (.fa 22 T21 19 0 0),.g 15 true (.ld 23 T22 kS),.g 15 true (.ln 24 true T23),.g 15 true (.bi 25 .lss T19 T24),.pk 26 T15 T25 (.b false),.mv 27 T26,.g 27 true (.mv 28 T1),.g 27 true (.mv 29 T0),.g 27 true (.nck 30 T29),.g 27 true (.fa 31 T30 19 0 0),.g 27 true (.ld 32 T31 kS),.g 27 true (.mv 33 T0),.g 27 true (.nck 34 T33),.g 27 true (.fa 35 T34 19 1 1),.g 27 true (.ld 36 T35 kI),.g 27 true (.ix 37 T32 T36)] [.g 27 true (.cfr 38 T28 [(T37,.v (.int .u8))]),.pk 39 T27 T38 (.b false)]) w10_Zu) c13_Zu
def ir_Zu:C:=.sq (.rg [.mv 4 (.s [])]) (.sq (.rg [.mv 6 T0,.nck 7 T6,.fa 8 T7 19 1 1,.ld 9 T8 kI,.mv 5 T9]) (.sq (.bk 0 (.lk [0,1,5] [[1000]] c7_Zu)) w15_Zu))
noncomputable abbrev T_Zu(nf:Nat):XT:=[e_Zs nf]
noncomputable def m_Zu(nf:Nat)(r_s:Str)(r_at_:Int)(r_bad:Bool):Option ((Str)×(Str×Int×Bool×Unit)):=runQ (T_Zu nf) nf [.pt 0 0,.fn 108 []] [.box [.v kS,.v kI,.v .bool]] [.box [.v kS,.v kI,.v .bool]] [.t 4 (.v kS)] ir_Zu ((),(()),()) (r_s,r_at_,r_bad,())
noncomputable def X_Zu{R:Type}(nf:Nat):C->Env->(Xt->Env->Option R)->Option R:=xc (R:=R) (T_Zu nf).S nf
noncomputable def j10_Zu(nf:Nat)(m6:Nat)(r_at_:Int)(r_s:Str)(y1000_6_1:Int)(r_bad:Bool)(x39_10:Bool):Option ((Str)×(Str×Int×Bool×Unit)):=X_Zu nf c10_Zu ⟨[(0,.pt [1000] 0),(1,.fn 108 []),(5,.v kI r_at_),(39,.v .bool x39_10)],[([1000],.box [.v kS r_s,.v kI y1000_6_1,.v .bool r_bad])]⟩ (qS (X_Zu nf c13_Zu) (qM [0,1,5] [[1000]] (X_Zu nf c7_Zu) m6 (qB 0 (qS (X_Zu nf w15_Zu) (KQ [.t 4 (.v kS)] [.box [.v kS,.v kI,.v .bool]])))))
noncomputable def l6_Zu(nf:Nat)(m6:Nat)(r_at_:Int)(r_s:Str)(r_bad:Bool)(y1000_6_1:Int):Option ((Str)×(Str×Int×Bool×Unit)):=xit [0,1,5] [[1000]] (X_Zu nf c7_Zu) (qB 0 (qS (X_Zu nf w15_Zu) (KQ [.t 4 (.v kS)] [.box [.v kS,.v kI,.v .bool]]))) m6 ⟨[(0,.pt [1000] 0),(1,.fn 108 []),(5,.v kI r_at_)],[([1000],.box [.v kS r_s,.v kI y1000_6_1,.v .bool r_bad])]⟩
noncomputable def j15_Zu(nf:Nat)(r_at_:Int)(r_s:Str)(y1000_6_1:Int)(r_bad:Bool):Option ((Str)×(Str×Int×Bool×Unit)):=X_Zu nf c15_Zu ⟨[(0,.pt [1000] 0),(5,.v kI r_at_)],[([1000],.box [.v kS r_s,.v kI y1000_6_1,.v .bool r_bad])]⟩ (KQ [.t 4 (.v kS)] [.box [.v kS,.v kI,.v .bool]])
theorem j10_Zu_eq(nf:Nat)(m6:Nat)(r_at_:Int)(r_s:Str)(y1000_6_1:Int)(r_bad:Bool)(x39_10:Bool):j10_Zu nf m6 r_at_ r_s y1000_6_1 r_bad x39_10=(br x39_10 (mark (l6_Zu nf m6 r_at_ r_s r_bad (w64 (y1000_6_1+(1:Int))))) (mark (j15_Zu nf r_at_ r_s y1000_6_1 r_bad))):=by
 unfold j10_Zu l6_Zu j15_Zu c10_Zu w15_Zu c13_Zu
 generalize c15_Zu=x0
 revert x0
 refine id ?_
 intro x0
 kernel_rfl
theorem l6_Zu_eq(nf:Nat)(m6:Nat)(r_at_:Int)(r_s:Str)(r_bad:Bool)(y1000_6_1:Int):l6_Zu nf (m6+1) r_at_ r_s r_bad y1000_6_1=(br ((!r_bad)==true) (br ((decide (y1000_6_1<(List.length r_s:Int)))==true) (gg (0<=y1000_6_1∧y1000_6_1<(List.length r_s:Int))<|cb (m_Zs nf ((List.getD r_s (Int.toNat y1000_6_1) 0).toNat:Int)) fun r38=>mark (j10_Zu nf m6 r_at_ r_s y1000_6_1 r_bad r38)) (mark (j10_Zu nf m6 r_at_ r_s y1000_6_1 r_bad false))) (mark (j10_Zu nf m6 r_at_ r_s y1000_6_1 r_bad false))):=by
 unfold l6_Zu j10_Zu c7_Zu w15_Zu w10_Zu c13_Zu
 generalize c15_Zu=x0
 generalize c10_Zu=x1
 revert x0 x1
 refine id ?_
 intro x0 x1
 kernel_rfl
theorem j15_Zu_eq(nf:Nat)(r_at_:Int)(r_s:Str)(y1000_6_1:Int)(r_bad:Bool):j15_Zu nf r_at_ r_s y1000_6_1 r_bad=(gg (0<=r_at_∧r_at_<=y1000_6_1∧y1000_6_1<=(List.length r_s:Int))<|some ((List.drop (Int.toNat r_at_) (List.take (Int.toNat y1000_6_1) r_s)),(r_s,y1000_6_1,r_bad,()))):=by kernel_rfl
theorem m_Zu_eq(nf:Nat)(r_s:Str)(r_at_:Int)(r_bad:Bool):m_Zu nf r_s r_at_ r_bad=(mark (l6_Zu nf nf r_at_ r_s r_bad r_at_)):=by
 conv=>lhs;unfold m_Zu
 unfold l6_Zu ir_Zu w15_Zu
 generalize c15_Zu=x0
 revert x0
 refine id ?_
 intro x0
 kernel_rfl
noncomputable def e_Zu(nf:Nat):XE:=eQ 107 [.pt 0 0,.fn 108 []] [.v kS] [.box [.v kS,.v kI,.v .bool]] [.box [.v kS,.v kI,.v .bool]] (fun t u=>m_Zu nf u.1 u.2.1 u.2.2.1)
theorem o_Zu(nf:Nat):conOK Try.prog 107 (e_Zu nf).con:=by
 have ih:XT.ok Try.prog (T_Zu nf):=by exact⟨o_Zs nf,trivial⟩
 refine eQ_ok fun t u x h=> ?_
 obtain⟨_,_,_⟩:=t
 exact runQ_ok (N:=57) ih Try.func107 (by kernel_rfl) rfl rfl rfl rfl rfl h
def ir_Zr:C:=.sq (.rg [.mv 2 (.s [])]) (.sq (.rg [.mv 4 T0,.cq (some 5) 107 [(T4,.q),((.f 108),.fn)],.mv 3 T5]) (.sq (.sq (.rg [.mv 6 T3,.cv (some 7) 111 [(T6,.v kS)],.un 8 .not T7]) (.cd T8 (.rg [.mv 9 T0,.nck 10 T9,.fa 11 T10 19 2 2,.st T11 (.b true) .bool]) .skip)) (.sq (.rg [.mv 12 T3,.mv 2 T12]) .rt)))
noncomputable abbrev T_Zr(nf:Nat):XT:=[e_Zu nf,e_Zf nf]
noncomputable def m_Zr(nf:Nat)(r_s:Str)(r_at_:Int)(r_bad:Bool):Option ((Str)×(Str×Int×Bool×Unit)):=runQ (T_Zr nf) nf [.pt 0 0] [.box [.v kS,.v kI,.v .bool]] [.box [.v kS,.v kI,.v .bool]] [.t 2 (.v kS)] ir_Zr ((),()) (r_s,r_at_,r_bad,())
theorem m_Zr_eq(nf:Nat)(r_s:Str)(r_at_:Int)(r_bad:Bool):m_Zr nf r_s r_at_ r_bad=(cb (m_Zu nf r_s r_at_ r_bad) fun r5=>cb (m_Zf nf r5.1) fun r7=>br (!r7) (some (r5.1,(r5.2.1,r5.2.2.1,true,()))) (some (r5.1,(r5.2.1,r5.2.2.1,r5.2.2.2.1,())))):=by kernel_rfl
noncomputable def e_Zr(nf:Nat):XE:=eQ 93 [.pt 0 0] [.v kS] [.box [.v kS,.v kI,.v .bool]] [.box [.v kS,.v kI,.v .bool]] (fun t u=>m_Zr nf u.1 u.2.1 u.2.2.1)
theorem o_Zr(nf:Nat):conOK Try.prog 93 (e_Zr nf).con:=by
 have ih:XT.ok Try.prog (T_Zr nf):=by exact⟨o_Zu nf,o_Zf nf,trivial⟩
 refine eQ_ok fun t u x h=> ?_
 obtain⟨_,_⟩:=t
 exact runQ_ok (N:=13) ih Try.func93 (by kernel_rfl) rfl rfl rfl rfl rfl h
def ir_Zx:C:=.sq (.rg [.mv 2 (.b false)]) (.sq (.dr [] [.mv 3 T0,.nck 4 T3,.fa 5 T4 19 2 2,.ld 6 T5 .bool,.un 7 .not T6,.mv 8 T7,.g 8 true (.mv 9 T0),.g 8 true (.nck 10 T9),.g 8 true (.fa 11 T10 19 1 1),.g 8 true (.ld 12 T11 kI),.g 8 true (.mv 13 T0),.g 8 true (.nck 14 T13),.g 8 true (.fa 15 T14 19 0 0),.g 8 true (.ld 16 T15 kS),.g 8 true (.ln 17 true T16)] [.g 8 true (.bi 18 .eql T12 T17),.pk 19 T8 T18 (.b false),.mv 2 T19]) .rt)
noncomputable abbrev T_Zx(nf:Nat):XT:=[]
noncomputable def m_Zx(nf:Nat)(r_s:Str)(r_at_:Int)(r_bad:Bool):Option ((Bool)×(Str×Int×Bool×Unit)):=runQ (T_Zx nf) nf [.pt 0 0] [.box [.v kS,.v kI,.v .bool]] [.box [.v kS,.v kI,.v .bool]] [.t 2 (.v .bool)] ir_Zx ((),()) (r_s,r_at_,r_bad,())
theorem m_Zx_eq(nf:Nat)(r_s:Str)(r_at_:Int)(r_bad:Bool):m_Zx nf r_s r_at_ r_bad=(br ((!r_bad)==true) (some ((r_at_==(List.length r_s:Int)),(r_s,r_at_,r_bad,()))) (some (false,(r_s,r_at_,r_bad,())))):=by kernel_rfl
noncomputable def e_Zx(nf:Nat):XE:=eQ 60 [.pt 0 0] [.v .bool] [.box [.v kS,.v kI,.v .bool]] [.box [.v kS,.v kI,.v .bool]] (fun t u=>m_Zx nf u.1 u.2.1 u.2.2.1)
theorem o_Zx(nf:Nat):conOK Try.prog 60 (e_Zx nf).con:=by
 have ih:XT.ok Try.prog (T_Zx nf):=by exact trivial
 refine eQ_ok fun t u x h=> ?_
 obtain⟨_,_⟩:=t
 exact runQ_ok (N:=20) ih Try.func60 (by kernel_rfl) rfl rfl rfl rfl rfl h
def ir_Zl:C:=.sq (.rg [.al 0 (kR 0)]) (.sq (.rg [.bd 1 0 [(0,1,(.i 1))],.st T0 T1 (kR 0)]) .rt)
noncomputable abbrev T_Zl(nf:Nat):XT:=[]
noncomputable def m_Zl(nf:Nat):Option (Ty):=runF (T_Zl nf) nf [] [.c 0 (.o (kR 0))] ir_Zl (())
theorem m_Zl_eq(nf:Nat):m_Zl nf=(some (Ty.mk (1:Int) ([]:List Str) ([]:List Ty))):=by kernel_rfl
noncomputable def e_Zl(nf:Nat):XE:=eF 89 [] [.o (kR 0)] (fun t=>m_Zl nf)
theorem o_Zl(nf:Nat):conOK Try.prog 89 (e_Zl nf).con:=by
 have ih:XT.ok Try.prog (T_Zl nf):=by exact trivial
 refine eF_ok fun t x h=> ?_
 exact runF_ok (N:=2) ih Try.func89 (by kernel_rfl) rfl h
def ir_Zk:C:=.sq (.rg [.al 0 (kR 0)]) (.sq (.rg [.bd 1 0 [(0,1,(.i 2))],.st T0 T1 (kR 0)]) .rt)
noncomputable abbrev T_Zk(nf:Nat):XT:=[]
noncomputable def m_Zk(nf:Nat):Option (Ty):=runF (T_Zk nf) nf [] [.c 0 (.o (kR 0))] ir_Zk (())
theorem m_Zk_eq(nf:Nat):m_Zk nf=(some (Ty.mk (2:Int) ([]:List Str) ([]:List Ty))):=by kernel_rfl
noncomputable def e_Zk(nf:Nat):XE:=eF 90 [] [.o (kR 0)] (fun t=>m_Zk nf)
theorem o_Zk(nf:Nat):conOK Try.prog 90 (e_Zk nf).con:=by
 have ih:XT.ok Try.prog (T_Zk nf):=by exact trivial
 refine eF_ok fun t x h=> ?_
 exact runF_ok (N:=2) ih Try.func90 (by kernel_rfl) rfl h
def ir_Zj:C:=.sq (.rg [.bx 1 T0 (kR 0),.al 2 (kR 0)]) (.sq (.rg [.ld 3 T1 (kR 0),.bo 4 (kR 0) [T3],.bd 5 0 [(0,1,(.i 4)),(2,1,T4)],.st T2 T5 (kR 0)]) .rt)
noncomputable abbrev T_Zj(nf:Nat):XT:=[]
noncomputable def m_Zj(nf:Nat)(t_kind:Int)(t_labels:List Str)(t_args:List Ty):Option ((Ty)×Unit×Unit):=runQ (T_Zj nf) nf [.ag 0 [.v kI,.sl 0,.sl 1]] [.row true kS,.row true (kR 0)] [.gone,.gone] [.c 2 (.o (kR 0))] ir_Zj ((t_kind,(),(),()),()) (t_labels,t_args)
theorem m_Zj_eq(nf:Nat)(t_kind:Int)(t_labels:List Str)(t_args:List Ty):m_Zj nf t_kind t_labels t_args=(some ((Ty.mk (4:Int) ([]:List Str) ([(Ty.mk t_kind t_labels t_args)]:List Ty)),((),()))):=by kernel_rfl
noncomputable def e_Zj(nf:Nat):XE:=eQ 92 [.ag 0 [.v kI,.sl 0,.sl 1]] [.o (kR 0)] [.row true kS,.row true (kR 0)] [.gone,.gone] (fun t u=>m_Zj nf t.1.1 u.1 u.2)
theorem o_Zj(nf:Nat):conOK Try.prog 92 (e_Zj nf).con:=by
 have ih:XT.ok Try.prog (T_Zj nf):=by exact trivial
 refine eQ_ok fun t u x h=> ?_
 obtain⟨⟨t_kind,_,_,_⟩,_⟩:=t
 exact runQ_ok (N:=6) ih Try.func92 (by kernel_rfl) rfl rfl rfl rfl rfl h
def c74_Zw:C:=.sq (.rg [.bd 92 0 [],.st T4 T92 (kR 0)]) .rt
def c68_Zw:C:=.sq (.rg [.mv 89 T0,.cq (some 90) 91 [(T89,.q),((.s [125]),.v kS)]]) (.sq (.rg [.ld 91 T8 (kR 0),.st T4 T91 (kR 0)]) .rt)
def w68_Zw:C:=.kp [0,4,8] [[4],[8],[8,1],[8,2],[1000]] c68_Zw
def c60_Zw:C:=.sq (.bk 2 (.sq (.dq [0] [0,8] 74 [.fa 71 T8 0 1 1,.ld 72 T71 (kL kS),.mv 73 T0,.cq (some 74) 93 [(T73,.q)],.bf 75 kS [T74]] [.ap 76 [8,1] true kS T72 T75,.fa 77 T8 0 1 1,.st T77 T76 (kL kS)]) (.sq (.rg [.mv 78 T0,.cq (some 79) 91 [(T78,.q),((.s [58]),.v kS)]]) (.gb 8 2 true (kR 0) (.dl [0] [0,1,8] 85 [.fa 80 T8 0 2 2,.ld 81 T80 (kL (kR 0)),.mv 82 T0,.mv 83 T1,.bi 84 .add T83 (.i 1),.cq (some 85) 59 [(T82,.q),(T84,.v kI)]] 86 (kR 0) [T85] [.apl 87 [8,2] (kR 0) T81 86,.fa 88 T8 0 2 2,.st T88 T87 (kL (kR 0))]))))) (.rg [.mv 69 T0,.cq (some 70) 88 [(T69,.q),((.s [44]),.v kS)],.mv 9 T70])
def c57_Zw:C:=.cd T68 .skip (.ex 1)
def w57_Zw:C:=.kp [0,1,4,8,68] [[4],[8],[8,1],[8,2],[1000]] c57_Zw
def c54_Zw:C:=.sq (.sq (.rg [.mv 61 T9,.mv 62 T61,.g 62 true (.mv 63 T0),.g 62 true (.nck 64 T63),.g 62 true (.fa 65 T64 19 2 2),.g 62 true (.ld 66 T65 .bool),.g 62 true (.un 67 .not T66),.pk 68 T62 T67 (.b false)]) w57_Zw) c60_Zw
def ir_Zw:C:=.sq (.rg [.al 4 (kR 0)]) (.sq (.bk 0 (.sq (.rg [.mv 14 T1,.bi 15 .gtr T14 (.i 7),.mv 13 T15]) (.cd T13 (.rg [.mv 16 T0,.nck 17 T16,.fa 18 T17 19 2 2,.st T18 (.b true) .bool]) (.sq (.rg [.mv 20 T0,.cq (some 21) 88 [(T20,.q),((.s [73]),.v kS)],.mv 19 T21]) (.cd T19 (.sq (.rg [.ca (some 22) 89 [],.st T4 T22 (kR 0)]) .rt) (.sq (.rg [.mv 24 T0,.cq (some 25) 88 [(T24,.q),((.s [66]),.v kS)],.mv 23 T25]) (.cd T23 (.sq (.rg [.ca (some 26) 90 [],.st T4 T26 (kR 0)]) .rt) (.sq (.rg [.mv 28 T0,.cq (some 29) 88 [(T28,.q),((.s [91]),.v kS)],.mv 27 T29]) (.cd T27 (.sq (.rg [.mv 30 T0,.mv 31 T1,.bi 32 .add T31 (.i 1),.cq (some 33) 59 [(T30,.q),(T32,.v kI)],.al 5 (kR 0),.st T5 T33 (kR 0)]) (.sq (.rg [.mv 34 T0,.cq (some 35) 91 [(T34,.q),((.s [93]),.v kS)]]) (.sq (.rg [.ld 36 T5 (kR 0),.cq (some 37) 92 [(T36,.q)],.st T4 T37 (kR 0)]) .rt))) (.sq (.rg [.mv 39 T0,.cq (some 40) 88 [(T39,.q),((.s [40]),.v kS)],.mv 38 T40]) (.cd T38 (.sq (.rg [.mv 41 T0,.mv 42 T1,.bi 43 .add T42 (.i 1),.cq (some 44) 59 [(T41,.q),(T43,.v kI)],.al 6 (kR 0),.st T6 T44 (kR 0)]) (.sq (.rg [.mv 45 T0,.cq (some 46) 91 [(T45,.q),((.s [62]),.v kS)]]) (.sq (.rg [.mv 47 T0,.mv 48 T1,.bi 49 .add T48 (.i 1),.cq (some 50) 59 [(T47,.q),(T49,.v kI)],.al 7 (kR 0),.st T7 T50 (kR 0)]) (.sq (.rg [.mv 51 T0,.cq (some 52) 91 [(T51,.q),((.s [41]),.v kS)]]) (.sq (.rg [.ld 53 T6 (kR 0),.ld 54 T7 (kR 0),.bo 55 (kR 0) [T53,T54],.bd 56 0 [(0,1,(.i 5)),(2,1,T55)],.st T4 T56 (kR 0)]) .rt))))) (.sq (.rg [.mv 58 T0,.cq (some 59) 88 [(T58,.q),((.s [123]),.v kS)],.mv 57 T59]) (.cd T57 (.sq (.rg [.bd 60 0 [(0,1,(.i 3))],.al 8 (kR 0),.st T8 T60 (kR 0)]) (.sq (.sq (.rg [.mv 9 (.b true)]) (.bk 1 (.gb 8 1 true kS (.gb 8 2 true (kR 0) (.lk [0,1,4,8,9] [[4],[8],[8,1],[8,2],[1000]] c54_Zw))))) w68_Zw)) (.rg [.mv 10 T0,.nck 11 T10,.fa 12 T11 19 2 2,.st T12 (.b true) .bool])))))))))))))) c74_Zw)
noncomputable def B_Zw(nf:Nat):XT:=[e_Zv nf,e_Zl nf,e_Zk nf,e_Zt nf,e_Zj nf,e_Zr nf]
noncomputable def G_Zw(nf:Nat):Nat->XT
 |0=>[]
 |kf+1=>[eQ 59 [.pt 0 0,.v kI] [.o (kR 0)] [.box [.v kS,.v kI,.v .bool]] [.box [.v kS,.v kI,.v .bool]] (fun t u=>(fun(deep:Int) (r_s:Str) (r_at_:Int) (r_bad:Bool)=>runQ (G_Zw nf kf++B_Zw nf) nf [.pt 0 0,.v kI] [.box [.v kS,.v kI,.v .bool]] [.box [.v kS,.v kI,.v .bool]] [.c 4 (.o (kR 0))] ir_Zw ((),deep,()) (r_s,r_at_,r_bad,())) t.2.1 u.1 u.2.1 u.2.2.1)]
noncomputable abbrev T_Zw(nf kf:Nat):XT:=G_Zw nf kf++B_Zw nf
noncomputable def m_Zw(nf kf:Nat)(deep:Int)(r_s:Str)(r_at_:Int)(r_bad:Bool):Option ((Ty)×(Str×Int×Bool×Unit)):=runQ (T_Zw nf kf) nf [.pt 0 0,.v kI] [.box [.v kS,.v kI,.v .bool]] [.box [.v kS,.v kI,.v .bool]] [.c 4 (.o (kR 0))] ir_Zw ((),deep,()) (r_s,r_at_,r_bad,())
noncomputable def X_Zw{R:Type}(nf kf:Nat):C->Env->(Xt->Env->Option R)->Option R:=xc (R:=R) (T_Zw nf kf).S nf
noncomputable def j57_Zw(nf kf:Nat)(m53:Nat)(deep:Int)(y1000_53_0:Str)(y1000_53_1:Int)(y1000_53_2:Bool)(y8_1_53:List Str)(y8_2_53:List Ty)(x68_57:Bool):Option ((Ty)×(Str×Int×Bool×Unit)):=X_Zw nf kf c57_Zw ⟨[(0,.pt [1000] 0),(1,.v kI deep),(4,.pt [4] 0),(8,.pt [8] 0),(68,.v .bool x68_57)],[([4],.box [.v kI (0:Int),.nl kS,.nl (kR 0)]),([8],.box [.v kI (3:Int),.sl [8,1],.sl [8,2]]),([8,1],.row true false kS y8_1_53),([8,2],.row true false (kR 0) y8_2_53),([1000],.box [.v kS y1000_53_0,.v kI y1000_53_1,.v .bool y1000_53_2])]⟩ (qS (X_Zw nf kf c60_Zw) (qM [0,1,4,8,9] [[4],[8],[8,1],[8,2],[1000]] (X_Zw nf kf c54_Zw) m53 (qB 1 (qS (X_Zw nf kf w68_Zw) (qB 0 (qS (X_Zw nf kf c74_Zw) (KQ [.c 4 (.o (kR 0))] [.box [.v kS,.v kI,.v .bool]])))))))
noncomputable def l53_Zw(nf kf:Nat)(m53:Nat)(deep:Int)(x9_53:Bool)(y1000_53_0:Str)(y1000_53_1:Int)(y1000_53_2:Bool)(y8_1_53:List Str)(y8_2_53:List Ty):Option ((Ty)×(Str×Int×Bool×Unit)):=xit [0,1,4,8,9] [[4],[8],[8,1],[8,2],[1000]] (X_Zw nf kf c54_Zw) (qB 1 (qS (X_Zw nf kf w68_Zw) (qB 0 (qS (X_Zw nf kf c74_Zw) (KQ [.c 4 (.o (kR 0))] [.box [.v kS,.v kI,.v .bool]]))))) m53 ⟨[(0,.pt [1000] 0),(1,.v kI deep),(4,.pt [4] 0),(8,.pt [8] 0),(9,.v .bool x9_53)],[([4],.box [.v kI (0:Int),.nl kS,.nl (kR 0)]),([8],.box [.v kI (3:Int),.sl [8,1],.sl [8,2]]),([8,1],.row true false kS y8_1_53),([8,2],.row true false (kR 0) y8_2_53),([1000],.box [.v kS y1000_53_0,.v kI y1000_53_1,.v .bool y1000_53_2])]⟩
noncomputable def j68_Zw(nf kf:Nat)(y1000_53_0:Str)(y1000_53_1:Int)(y1000_53_2:Bool)(y8_1_53:List Str)(y8_2_53:List Ty):Option ((Ty)×(Str×Int×Bool×Unit)):=X_Zw nf kf c68_Zw ⟨[(0,.pt [1000] 0),(4,.pt [4] 0),(8,.pt [8] 0)],[([4],.box [.v kI (0:Int),.nl kS,.nl (kR 0)]),([8],.box [.v kI (3:Int),.sl [8,1],.sl [8,2]]),([8,1],.row true false kS y8_1_53),([8,2],.row true false (kR 0) y8_2_53),([1000],.box [.v kS y1000_53_0,.v kI y1000_53_1,.v .bool y1000_53_2])]⟩ (qB 0 (qS (X_Zw nf kf c74_Zw) (KQ [.c 4 (.o (kR 0))] [.box [.v kS,.v kI,.v .bool]])))
theorem j57_Zw_eq(nf kf:Nat)(m53:Nat)(deep:Int)(y1000_53_0:Str)(y1000_53_1:Int)(y1000_53_2:Bool)(y8_1_53:List Str)(y8_2_53:List Ty)(x68_57:Bool):j57_Zw nf (kf+1) m53 deep y1000_53_0 y1000_53_1 y1000_53_2 y8_1_53 y8_2_53 x68_57=(br x68_57 (cb (m_Zr nf y1000_53_0 y1000_53_1 y1000_53_2) fun r74=>gg (List.length y8_1_53+List.length ([r74.1]:List Str)<=33554432)<|cb (m_Zt nf ([58]:Str) r74.2.1 r74.2.2.1 r74.2.2.2.1) fun r79=>cb (m_Zw nf kf (w64 (deep+(1:Int))) r79.2.1 r79.2.2.1 r79.2.2.2.1) fun r85=>gg (List.length y8_2_53+List.length ([(Ty.h r85.1)]:List Ty)<=33554432)<|cb (m_Zv nf ([44]:Str) r85.2.1 r85.2.2.1 r85.2.2.2.1) fun r70=>mark (l53_Zw nf (kf+1) m53 deep r70.1 r70.2.1 r70.2.2.1 r70.2.2.2.1 (y8_1_53++([r74.1]:List Str)) (y8_2_53++([(Ty.h r85.1)]:List Ty)))) (mark (j68_Zw nf (kf+1) y1000_53_0 y1000_53_1 y1000_53_2 y8_1_53 y8_2_53))):=by
 unfold j57_Zw l53_Zw j68_Zw c57_Zw c74_Zw w68_Zw c60_Zw
 generalize c68_Zw=x0
 revert x0
 refine id ?_
 intro x0
 kernel_rfl
theorem l53_Zw_eq(nf kf:Nat)(m53:Nat)(deep:Int)(x9_53:Bool)(y1000_53_0:Str)(y1000_53_1:Int)(y1000_53_2:Bool)(y8_1_53:List Str)(y8_2_53:List Ty):l53_Zw nf (kf+1) (m53+1) deep x9_53 y1000_53_0 y1000_53_1 y1000_53_2 y8_1_53 y8_2_53=(br (x9_53==true) (mark (j57_Zw nf (kf+1) m53 deep y1000_53_0 y1000_53_1 y1000_53_2 y8_1_53 y8_2_53 (!y1000_53_2))) (mark (j57_Zw nf (kf+1) m53 deep y1000_53_0 y1000_53_1 y1000_53_2 y8_1_53 y8_2_53 false))):=by
 unfold l53_Zw j57_Zw c54_Zw c74_Zw w68_Zw w57_Zw c60_Zw
 generalize c68_Zw=x0
 generalize c57_Zw=x1
 revert x0 x1
 refine id ?_
 intro x0 x1
 kernel_rfl
theorem j68_Zw_eq(nf kf:Nat)(y1000_53_0:Str)(y1000_53_1:Int)(y1000_53_2:Bool)(y8_1_53:List Str)(y8_2_53:List Ty):j68_Zw nf (kf+1) y1000_53_0 y1000_53_1 y1000_53_2 y8_1_53 y8_2_53=(cb (m_Zt nf ([125]:Str) y1000_53_0 y1000_53_1 y1000_53_2) fun r90=>some ((Ty.mk (3:Int) y8_1_53 y8_2_53),(r90.2.1,r90.2.2.1,r90.2.2.2.1,()))):=by kernel_rfl
theorem m_Zw_eq(nf kf:Nat)(deep:Int)(r_s:Str)(r_at_:Int)(r_bad:Bool):m_Zw nf (kf+1) deep r_s r_at_ r_bad=(br (decide ((7:Int)<deep)) (some ((Ty.mk (0:Int) ([]:List Str) ([]:List Ty)),(r_s,r_at_,true,()))) (cb (m_Zv nf ([73]:Str) r_s r_at_ r_bad) fun r21=>br r21.1 (cb (m_Zl nf) fun r22=>some ((Ty.h r22),(r21.2.1,r21.2.2.1,r21.2.2.2.1,()))) (cb (m_Zv nf ([66]:Str) r21.2.1 r21.2.2.1 r21.2.2.2.1) fun r25=>br r25.1 (cb (m_Zk nf) fun r26=>some ((Ty.h r26),(r25.2.1,r25.2.2.1,r25.2.2.2.1,()))) (cb (m_Zv nf ([91]:Str) r25.2.1 r25.2.2.1 r25.2.2.2.1) fun r29=>br r29.1 (cb (m_Zw nf kf (w64 (deep+(1:Int))) r29.2.1 r29.2.2.1 r29.2.2.2.1) fun r33=>cb (m_Zt nf ([93]:Str) r33.2.1 r33.2.2.1 r33.2.2.2.1) fun r35=>cb (m_Zj nf r33.1.kind r33.1.labels r33.1.args) fun r37=>some ((Ty.h r37.1),(r35.2.1,r35.2.2.1,r35.2.2.2.1,()))) (cb (m_Zv nf ([40]:Str) r29.2.1 r29.2.2.1 r29.2.2.2.1) fun r40=>br r40.1 (cb (m_Zw nf kf (w64 (deep+(1:Int))) r40.2.1 r40.2.2.1 r40.2.2.2.1) fun r44=>cb (m_Zt nf ([62]:Str) r44.2.1 r44.2.2.1 r44.2.2.2.1) fun r46=>cb (m_Zw nf kf (w64 (deep+(1:Int))) r46.2.1 r46.2.2.1 r46.2.2.2.1) fun r50=>cb (m_Zt nf ([41]:Str) r50.2.1 r50.2.2.1 r50.2.2.2.1) fun r52=>some ((Ty.mk (5:Int) ([]:List Str) ([(Ty.h r44.1),(Ty.h r50.1)]:List Ty)),(r52.2.1,r52.2.2.1,r52.2.2.2.1,()))) (cb (m_Zv nf ([123]:Str) r40.2.1 r40.2.2.1 r40.2.2.2.1) fun r59=>br r59.1 (mark (l53_Zw nf (kf+1) nf deep true r59.2.1 r59.2.2.1 r59.2.2.2.1 ([]:List Str) ([]:List Ty))) (some ((Ty.mk (0:Int) ([]:List Str) ([]:List Ty)),(r59.2.1,r59.2.2.1,true,()))))))))):=by
 conv=>lhs;unfold m_Zw
 unfold l53_Zw ir_Zw w68_Zw c74_Zw
 generalize c68_Zw=x0
 revert x0
 refine id ?_
 intro x0
 kernel_rfl
noncomputable def e_Zw(nf:Nat):XE:=eQ 59 [.pt 0 0,.v kI] [.o (kR 0)] [.box [.v kS,.v kI,.v .bool]] [.box [.v kS,.v kI,.v .bool]] (fun t u=>m_Zw nf nf t.2.1 u.1 u.2.1 u.2.2.1)
theorem gok_Zw(nf:Nat):∀kf:Nat,XT.ok Try.prog (G_Zw nf kf++B_Zw nf)
 |0=>by exact⟨o_Zv nf,o_Zl nf,o_Zk nf,o_Zt nf,o_Zj nf,o_Zr nf,trivial⟩
 |kf+1=>by
  have ih:=gok_Zw nf kf
  refine⟨?_,(by exact⟨o_Zv nf,o_Zl nf,o_Zk nf,o_Zt nf,o_Zj nf,o_Zr nf,trivial⟩)⟩
  ·refine eQ_ok fun t u x h=> ?_
   obtain⟨_,deep,_⟩:=t
   exact runQ_ok (N:=93) ih Try.func59 (by kernel_rfl) rfl rfl rfl rfl rfl h
theorem o_Zw(nf:Nat):conOK Try.prog 59 (e_Zw nf).con:=by
 have ih:=gok_Zw nf nf
 refine eQ_ok fun t u x h=> ?_
 obtain⟨_,deep,_⟩:=t
 exact runQ_ok (N:=93) ih Try.func59 (by kernel_rfl) rfl rfl rfl rfl rfl h
def c50_Zz:C:=.sq (.rg [.mv 67 T3,.cv (some 68) 55 [(T67,.v (kL kS)),((.s [44]),.v kS)],.bi 69 .add (.s [123]) T68,.bi 70 .add T69 (.s [125]),.mv 2 T70]) .rt
def w50_Zz:C:=.kp [3] [[3]] c50_Zz
def c38_Zz:C:=.sq (.rg [.bi 49 .lss T48 T47]) (.sq (.cd T49 .skip (.ex 1)) (.sq (.bk 2 (.sq (.rg [.mv 50 T48,.ia 51 T46 T48 kS,.ld 52 T51 kS,.mv 4 T50,.mv 5 T52]) (.gt 3 true kS (.rg [.mv 53 T3,.mv 54 T5,.bi 55 .add T54 (.s [58]),.mv 56 T0,.nck 57 T56,.fa 58 T57 0 2 2,.ld 59 T58 (kL (kR 0)),.mv 60 T4,.ia 61 T59 T60 (kR 0),.cv (some 62) 58 [(T61,.v (.ptr (kR 0)))],.bi 63 .add T55 T62,.bs 64 true kS [T63],.ap 65 [3] true kS T53 T64,.mv 3 T65])))) (.rg [.bi 66 .add T48 (.i 1),.mv 48 T66])))
def ir_Zz:C:=.sq (.rg [.mv 2 (.s [])]) (.sq (.sq (.rg [.mv 6 T0,.nck 7 T6,.fa 8 T7 0 0 0,.ld 9 T8 kI]) (.bk 0 (.sq (.rg [.bi 11 .eql T9 (.i 1),.mv 10 T11]) (.cd T10 (.sq (.rg [.mv 2 (.s [73])]) .rt) (.sq (.rg [.bi 13 .eql T9 (.i 2),.mv 12 T13]) (.cd T12 (.sq (.rg [.mv 2 (.s [66])]) .rt) (.sq (.rg [.bi 15 .eql T9 (.i 4),.mv 14 T15]) (.cd T14 (.sq (.rg [.mv 16 T0,.nck 17 T16,.fa 18 T17 0 2 2,.ld 19 T18 (kL (kR 0)),.ia 20 T19 (.i 0) (kR 0),.cv (some 21) 58 [(T20,.v (.ptr (kR 0)))],.bi 22 .add (.s [91]) T21,.bi 23 .add T22 (.s [93]),.mv 2 T23]) .rt) (.sq (.rg [.bi 25 .eql T9 (.i 5),.mv 24 T25]) (.cd T24 (.sq (.dr [] [.mv 26 T0,.nck 27 T26,.fa 28 T27 0 2 2,.ld 29 T28 (kL (kR 0)),.ia 30 T29 (.i 0) (kR 0),.cv (some 31) 58 [(T30,.v (.ptr (kR 0)))],.bi 32 .add (.s [40]) T31,.bi 33 .add T32 (.s [62]),.mv 34 T0,.nck 35 T34,.fa 36 T35 0 2 2,.ld 37 T36 (kL (kR 0)),.ia 38 T37 (.i 1) (kR 0),.cv (some 39) 58 [(T38,.v (.ptr (kR 0)))]] [.bi 40 .add T33 T39,.bi 41 .add T40 (.s [41]),.mv 2 T41]) .rt) .skip)))))))))) (.sq (.rg [.bs 42 true kS [],.mv 3 T42]) (.sq (.sq (.rg [.mv 43 T0,.nck 44 T43,.fa 45 T44 0 1 1,.ld 46 T45 (kL kS),.ln 47 false T46,.mv 48 (.i 0)]) (.bk 1 (.gt 3 true kS (.lk [0,3,46,47,48] [[3]] c38_Zz)))) w50_Zz)))
noncomputable def B_Zz(nf:Nat):XT:=[e_Zaq nf]
noncomputable def G_Zz(nf:Nat):Nat->XT
 |0=>[]
 |kf+1=>[eF 58 [.p (kR 0)] [.v kS] (fun t=>(fun(t:Ty)=>runF (G_Zz nf kf++B_Zz nf) nf [.p (kR 0)] [.t 2 (.v kS)] ir_Zz (t,())) t.1)]
noncomputable abbrev T_Zz(nf kf:Nat):XT:=G_Zz nf kf++B_Zz nf
noncomputable def m_Zz(nf kf:Nat)(t:Ty):Option (Str):=runF (T_Zz nf kf) nf [.p (kR 0)] [.t 2 (.v kS)] ir_Zz (t,())
noncomputable def X_Zz{R:Type}(nf kf:Nat):C->Env->(Xt->Env->Option R)->Option R:=xc (R:=R) (T_Zz nf kf).S nf
noncomputable def l37_Zz(nf kf:Nat)(m37:Nat)(t:Ty)(x48_37:Int)(y3_37:List Str):Option (Str):=xit [0,3,46,47,48] [[3]] (X_Zz nf kf c38_Zz) (qB 1 (qS (X_Zz nf kf w50_Zz) (KF [.t 2 (.v kS)]))) m37 ⟨[(0,.v (.ptr (kR 0)) (some t)),(3,.sl [3]),(46,.v (kL kS) t.labels),(47,.v kI (List.length t.labels:Int)),(48,.v kI x48_37)],[([3],.row true false kS y3_37)]⟩
noncomputable def j50_Zz(nf kf:Nat)(y3_37:List Str):Option (Str):=X_Zz nf kf c50_Zz ⟨[(3,.sl [3])],[([3],.row true false kS y3_37)]⟩ (KF [.t 2 (.v kS)])
theorem l37_Zz_eq(nf kf:Nat)(m37:Nat)(t:Ty)(x48_37:Int)(y3_37:List Str):l37_Zz nf (kf+1) (m37+1) t x48_37 y3_37=(br (decide (x48_37<(List.length t.labels:Int))) (gg (0<=x48_37∧x48_37<(List.length t.labels:Int))<|gg (List.length (gt t.labels x48_37 ([]:Str))+List.length ([58]:Str)<=9223372036854775807)<|gg (0<=x48_37∧x48_37<(List.length t.args:Int))<|cb (m_Zz nf kf (gt t.args x48_37 Ty.zero)) fun r62=>gg (List.length ((gt t.labels x48_37 ([]:Str))++([58]:Str))+List.length r62<=9223372036854775807)<|gg (List.length y3_37+List.length ([(((gt t.labels x48_37 ([]:Str))++([58]:Str))++r62)]:List Str)<=33554432)<|mark (l37_Zz nf (kf+1) m37 t (w64 (x48_37+(1:Int))) (y3_37++([(((gt t.labels x48_37 ([]:Str))++([58]:Str))++r62)]:List Str)))) (mark (j50_Zz nf (kf+1) y3_37))):=by
 unfold l37_Zz j50_Zz c38_Zz w50_Zz
 generalize c50_Zz=x0
 revert x0
 refine id ?_
 intro x0
 kernel_rfl
theorem j50_Zz_eq(nf kf:Nat)(y3_37:List Str):j50_Zz nf (kf+1) y3_37=(cb (m_Zaq nf y3_37 ([44]:Str)) fun r68=>gg (List.length ([123]:Str)+List.length r68<=9223372036854775807)<|gg (List.length (([123]:Str)++r68)+List.length ([125]:Str)<=9223372036854775807)<|some ((([123]:Str)++r68)++([125]:Str))):=by kernel_rfl
theorem m_Zz_eq(nf kf:Nat)(t:Ty):m_Zz nf (kf+1) t=(br (t.kind==(1:Int)) (some ([73]:Str)) (br (t.kind==(2:Int)) (some ([66]:Str)) (br (t.kind==(4:Int)) (gg (0<=(0:Int)∧(0:Int)<(List.length t.args:Int))<|cb (m_Zz nf kf (gt t.args (0:Int) Ty.zero)) fun r21=>gg (List.length ([91]:Str)+List.length r21<=9223372036854775807)<|gg (List.length (([91]:Str)++r21)+List.length ([93]:Str)<=9223372036854775807)<|some ((([91]:Str)++r21)++([93]:Str))) (br (t.kind==(5:Int)) (gg (0<=(0:Int)∧(0:Int)<(List.length t.args:Int))<|cb (m_Zz nf kf (gt t.args (0:Int) Ty.zero)) fun r31=>gg (List.length ([40]:Str)+List.length r31<=9223372036854775807)<|gg (List.length (([40]:Str)++r31)+List.length ([62]:Str)<=9223372036854775807)<|gg (0<=(1:Int)∧(1:Int)<(List.length t.args:Int))<|cb (m_Zz nf kf (gt t.args (1:Int) Ty.zero)) fun r39=>gg (List.length ((([40]:Str)++r31)++([62]:Str))+List.length r39<=9223372036854775807)<|gg (List.length (((([40]:Str)++r31)++([62]:Str))++r39)+List.length ([41]:Str)<=9223372036854775807)<|some ((((([40]:Str)++r31)++([62]:Str))++r39)++([41]:Str))) (mark (l37_Zz nf (kf+1) nf t (0:Int) ([]:List Str))))))):=by
 conv=>lhs;unfold m_Zz
 unfold l37_Zz ir_Zz w50_Zz
 generalize c50_Zz=x0
 revert x0
 refine id ?_
 intro x0
 kernel_rfl
noncomputable def e_Zz(nf:Nat):XE:=eF 58 [.p (kR 0)] [.v kS] (fun t=>m_Zz nf nf t.1)
theorem gok_Zz(nf:Nat):∀kf:Nat,XT.ok Try.prog (G_Zz nf kf++B_Zz nf)
 |0=>by exact⟨o_Zaq nf,trivial⟩
 |kf+1=>by
  have ih:=gok_Zz nf kf
  refine⟨?_,(by exact⟨o_Zaq nf,trivial⟩)⟩
  ·refine eF_ok fun t x h=> ?_
   obtain⟨t,_⟩:=t
   exact runF_ok (N:=71) ih Try.func58 (by kernel_rfl) rfl h
theorem o_Zz(nf:Nat):conOK Try.prog 58 (e_Zz nf).con:=by
 have ih:=gok_Zz nf nf
 refine eF_ok fun t x h=> ?_
 obtain⟨t,_⟩:=t
 exact runF_ok (N:=71) ih Try.func58 (by kernel_rfl) rfl h
def ir_Ze:C:=.sq (.rg [.bx 1 T0 (kR 0),.mv 2 (.s [])]) (.sq (.sq (.rg [.ld 3 T1 (kR 0),.cv (some 4) 44 [(T3,.v (kR 0))],.un 5 .not T4]) (.cd T5 (.sq (.rg [.mv 2 (.s [])]) .rt) .skip)) (.sq (.rg [.cv (some 6) 58 [(T1,.v (.ptr (kR 0)))],.mv 2 T6]) .rt))
noncomputable abbrev T_Ze(nf:Nat):XT:=[e_Zg nf,e_Zz nf]
noncomputable def m_Ze(nf:Nat)(t:Ty):Option (Str):=runF (T_Ze nf) nf [.v (kR 0)] [.t 2 (.v kS)] ir_Ze (t,())
theorem m_Ze_eq(nf:Nat)(t:Ty):m_Ze nf t=(cb (m_Zg nf (Ty.h t)) fun r4=>br (!r4) (some ([]:Str)) (cb (m_Zz nf nf (Ty.h t)) fun r6=>some r6)):=by kernel_rfl
noncomputable def e_Ze(nf:Nat):XE:=eF 25 [.v (kR 0)] [.v kS] (fun t=>m_Ze nf t.1)
theorem o_Ze(nf:Nat):conOK Try.prog 25 (e_Ze nf).con:=by
 have ih:XT.ok Try.prog (T_Ze nf):=by exact⟨o_Zg nf,o_Zz nf,trivial⟩
 refine eF_ok fun t x h=> ?_
 obtain⟨t,_⟩:=t
 exact runF_ok (N:=7) ih Try.func25 (by kernel_rfl) rfl h
def c14_Zh:C:=.sq (.rg [.ld 18 T5 (kR 0),.st T2 T18 (kR 0),.mv 3 (.b true)]) .rt
def c9_Zh:C:=.cd T16 (.sq (.rg [.bd 17 0 [],.st T2 T17 (kR 0),.mv 3 (.b false)]) .rt) .skip
def w9_Zh:C:=.kp [2,5,16] [[2],[5],[8,1],[8,2]] c9_Zh
def ir_Zh:C:=.sq (.rg [.al 2 (kR 0),.mv 3 (.b false)]) (.sq (.rg [.mv 6 T0,.bd 7 19 [(0,1,T6)],.al 4 (kR 19),.st T4 T7 (kR 19)]) (.sq (.rg [.cq (some 8) 59 [(T4,.q),((.i 1),.v kI)],.al 5 (kR 0),.st T5 T8 (kR 0)]) (.sq (.sq (.rg [.cq (some 9) 60 [(T4,.q)],.un 10 .not T9,.mv 11 T10,.g 11 false (.ld 12 T5 (kR 0)),.g 11 false (.cv (some 13) 25 [(T12,.v (kR 0))]),.g 11 false (.mv 14 T0),.g 11 false (.bi 15 .neq T13 T14),.pk 16 T11 (.b true) T15]) w9_Zh) c14_Zh)))
noncomputable abbrev T_Zh(nf:Nat):XT:=[e_Zw nf,e_Zx nf,e_Ze nf]
noncomputable def m_Zh(nf:Nat)(s:Str):Option (Ty×Bool):=runF (T_Zh nf) nf [.v kS] [.c 2 (.o (kR 0)),.t 3 (.v .bool)] ir_Zh (s,())
noncomputable def X_Zh{R:Type}(nf:Nat):C->Env->(Xt->Env->Option R)->Option R:=xc (R:=R) (T_Zh nf).S nf
noncomputable def j9_Zh(nf:Nat)(r8:(Ty)×(Str×Int×Bool×Unit))(x16_9:Bool):Option (Ty×Bool):=X_Zh nf c9_Zh ⟨[(2,.pt [2] 0),(5,.pt [5] 0),(16,.v .bool x16_9)],[([2],.box [.v kI (0:Int),.nl kS,.nl (kR 0)]),([5],.box [.v kI r8.1.kind,.sl [8,1],.sl [8,2]]),([8,1],.row true false kS r8.1.labels),([8,2],.row true false (kR 0) r8.1.args)]⟩ (qS (X_Zh nf c14_Zh) (KF [.c 2 (.o (kR 0)),.t 3 (.v .bool)]))
theorem j9_Zh_eq(nf:Nat)(r8:(Ty)×(Str×Int×Bool×Unit))(x16_9:Bool):j9_Zh nf r8 x16_9=(br x16_9 (some ((Ty.mk (0:Int) ([]:List Str) ([]:List Ty)),false)) (some ((Ty.h r8.1),true))):=by kernel_rfl
theorem m_Zh_eq(nf:Nat)(s:Str):m_Zh nf s=(cb (m_Zw nf nf (1:Int) s (0:Int) false) fun r8=>cb (m_Zx nf r8.2.1 r8.2.2.1 r8.2.2.2.1) fun r9=>br ((!r9.1)==false) (cb (m_Ze nf (Ty.h r8.1)) fun r13=>mark (j9_Zh nf r8 (!(r13==s)))) (mark (j9_Zh nf r8 true))):=by
 conv=>lhs;unfold m_Zh
 unfold j9_Zh ir_Zh w9_Zh c14_Zh
 generalize c9_Zh=x0
 revert x0
 refine id ?_
 intro x0
 kernel_rfl
noncomputable def e_Zh(nf:Nat):XE:=eF 26 [.v kS] [.o (kR 0),.v .bool] (fun t=>m_Zh nf t.1)
theorem o_Zh(nf:Nat):conOK Try.prog 26 (e_Zh nf).con:=by
 have ih:XT.ok Try.prog (T_Zh nf):=by exact⟨o_Zw nf,o_Zx nf,o_Ze nf,trivial⟩
 refine eF_ok fun t x h=> ?_
 obtain⟨s,_⟩:=t
 exact runF_ok (N:=19) ih Try.func26 (by kernel_rfl) rfl h
end Go.Q
