/- Terms and their types in plain data: what is valid, what has a type. -/
import Derived.Test.YteidofmblfglkaaNTy
import Derived.Test.YteidofmblfglkaaQe
set_option linter.unusedVariables false
set_option linter.unusedSimpArgs false
set_option maxHeartbeats 1000000
namespace Go.Q
def eqSs(a b:List Str):Bool:=((a.length:Int)==(b.length:Int))&&allF (fun i=>gt a (i:Int) ([]:Str)==gt b (i:Int) ([]:Str)) 0 a.length
mutual
def eqT:Ty->Ty->Bool
 | .mk k l c,u=>(k==u.kind)&&(eqSs l u.labels&&(((c.length:Int)==(u.args.length:Int))&&eqTL c u.args 0))
def eqTL:List Ty->List Ty->Nat->Bool
 | [],_,_=>true
 |t::ts,us,i=>eqT t (gt us (i:Int) Ty.zero)&&eqTL ts us (i+1)
end
theorem eqT_eq(t u:Ty):eqT t u=((t.kind==u.kind)&&(eqSs t.labels u.labels&&(((t.args.length:Int)==(u.args.length:Int))&&eqTL t.args u.args 0))):=by
 cases t;simp only[eqT,Ty.kind_mk,Ty.labels_mk,Ty.args_mk]
theorem eqTL_all(us:List Ty):∀(ts:List Ty) (j:Nat),eqTL ts us j=allF (fun i=>eqT (gt ts (i:Int) Ty.zero) (gt us ((i+j:Nat):Int) Ty.zero)) 0 ts.length
 | [],j=>rfl
 |t::ts,j=>by
  simp only[eqTL,List.length_cons,allF,allF_shift]
  rw[eqTL_all us ts (j+1)]
  have e0:gt (t::ts) ((0:Nat):Int) Ty.zero=t:=by simp[gt]
  rw[e0,Nat.zero_add]
  congr 1
  refine allF_congr fun i _ _=> ?_
  have:gt (t::ts) ((i+1:Nat):Int) Ty.zero=gt ts (i:Int) Ty.zero:=by simp[gt]
  rw[this,show i+(j+1)=i+1+j by omega]
theorem nDepL_at:∀(ts:List Ty) {i:Nat} (h:i<ts.length),nDep (gt ts (i:Int) Ty.zero)<=nDepL ts:=by
 intro ts
 induction ts with
 |nil=>intro i h;simp at h
 |cons t ts ih=>
  intro i h
  cases i with
  |zero=>simp only[nDepL,gt];simp;omega
  |succ i=>
   have e:gt (t::ts) ((i+1:Nat):Int) Ty.zero=gt ts (i:Int) Ty.zero:=by simp[gt]
   have:=ih (i:=i) (by simpa using h)
   rw[e];simp only[nDepL];omega
end Go.Q
