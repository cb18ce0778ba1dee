/- Names in a context, rows of a schema, equal types, fields, operations. -/
import Derived.Test.YteidofmblfglkaaD12
import Derived.Test.YteidofmblfglkaaD0
set_option linter.unusedVariables false
set_option linter.unusedSimpArgs false
set_option maxHeartbeats 2000000
namespace Go.Q
theorem p_slEqual(nf:Nat)(a b:List Str)(h:a.length+1<nf)(hb:a.length<=16777216):m_ZE nf a b=some (eqSs a b):=by
 rw[m_ZE_eq,mark_eq]
 unfold eqSs
 cases hl:((a.length:Int)==(b.length:Int))with
 |false=>rfl
 |true=>
  have hl2:(a.length:Int)=(b.length:Int):=by simpa using hl
  have:=for_all (fun m i=>l14_ZE nf m a b i) a.length (fun i=>gt a (i:Int) ([]:Str)==gt b (i:Int) ([]:Str)) (some true) (some false) 0 (fun m i hp hi=> ?_) (fun m i hi=> ?_) nf (by omega) (by omega)
  ·have e0:((0:Nat):Int)=(0:Int):=rfl
   rw[e0]at this
   rw[this,show a.length-0=a.length by omega]
   generalize allF (fun i:Nat=>gt a (i:Int) ([]:Str)==gt b (i:Int) ([]:Str)) 0 a.length=A
   cases A<;>rfl
  ·have c0:(i:Int)<(a.length:Int):=by omega
   have c1:0<=(i:Int)∧(i:Int)<(a.length:Int):=by omega
   have c2:0<=(i:Int)∧(i:Int)<(b.length:Int):=by omega
   rw[l14_ZE_eq,br_pos c0,gg_pos c1,gg_pos c2,mark_eq,w64_nat (n:=i) (by omega)]
   cases(gt a (i:Int) ([]:Str)==gt b (i:Int) ([]:Str))<;>rfl
  ·have c0:¬(i:Int)<(a.length:Int):=by omega
   rw[l14_ZE_eq,br_neg c0]
theorem eqTL_0(ts us:List Ty):eqTL ts us 0=allF (fun i=>eqT (gt ts (i:Int) Ty.zero) (gt us (i:Int) Ty.zero)) 0 ts.length:=eqTL_all us ts 0
theorem p_implEq(nf:Nat):∀(kf:Nat) (a b:Ty),8*zTy a+2<kf->8*zTy a+1<nf->zTy a<=16777216->m_Zd nf kf a b=some (eqT a b)
 |0,a,b,h,_,_=>absurd h (Nat.not_lt_zero _)
 |1,a,b,h,_,_=>absurd h (by omega)
 |kf+2,a,b,h,h',hb=>by
  have hz:=zTy_f a
  have l1:a.labels.length<=szL List.length a.labels:=by unfold szL;omega
  have l2:a.args.length<=szL zTy a.args:=by unfold szL;omega
  have hE:m_ZD nf (kf+1) a.args b.args=some (((a.args.length:Int)==(b.args.length:Int))&&eqTL a.args b.args 0):=by
   rw[m_ZD_eq,mark_eq,eqTL_0]
   cases hl:((a.args.length:Int)==(b.args.length:Int))with
   |false=>rfl
   |true=>
    have hl2:(a.args.length:Int)=(b.args.length:Int):=by simpa using hl
    have:=for_all (fun m i=>l14_ZD nf (kf+1) m b.args a.args i) a.args.length (fun i=>eqT (gt a.args (i:Int) Ty.zero) (gt b.args (i:Int) Ty.zero)) (some true) (some false) 0 (fun m i hp hi=> ?_) (fun m i hi=> ?_) nf (by omega) (by omega)
    ·have e0:((0:Nat):Int)=(0:Int):=rfl
     rw[e0]at this
     rw[this,show a.args.length-0=a.args.length by omega]
     generalize allF (fun i:Nat=>eqT (gt a.args (i:Int) Ty.zero) (gt b.args (i:Int) Ty.zero)) 0 a.args.length=A
     cases A<;>rfl
    ·have c0:(i:Int)<(a.args.length:Int):=by omega
     have c1:0<=(i:Int)∧(i:Int)<(a.args.length:Int):=by omega
     have c2:0<=(i:Int)∧(i:Int)<(b.args.length:Int):=by omega
     have hs:=szL_at zTy a.args hi Ty.zero
     have e1:=p_implEq nf kf (gt a.args (i:Int) Ty.zero) (gt b.args (i:Int) Ty.zero) (by omega) (by omega) (by omega)
     rw[l14_ZD_eq,br_pos c0,gg_pos c1,gg_pos c2,Ty.h_eq,Ty.h_eq,e1,cb_some,mark_eq,w64_nat (n:=i) (by omega)]
     cases eqT (gt a.args (i:Int) Ty.zero) (gt b.args (i:Int) Ty.zero)<;>rfl
    ·have c0:¬(i:Int)<(a.args.length:Int):=by omega
     rw[l14_ZD_eq,br_neg c0]
  rw[m_Zd_eq,p_slEqual nf a.labels b.labels (by omega) (by omega),cb_some,eqT_eq,hE,cb_some]
  generalize (a.kind==b.kind)=K
  generalize (((a.args.length:Int)==(b.args.length:Int))&&eqTL a.args b.args 0)=A
  cases K<;>cases eqSs a.labels b.labels<;>rfl
end Go.Q
