/- Terms and their types in plain data: what is valid, what has a type. -/
import Derived.Test.YteidofmblfglkaaNTy
import Derived.Test.YteidofmblfglkaaQe
set_option linter.unusedVariables false
set_option linter.unusedSimpArgs false
set_option maxHeartbeats 1000000
namespace Go.Q
theorem nDepL_at:∀(ts:List Ty) {i:Nat} (h:i<ts.length),nDep (gt ts (i:Int) Ty.zero)<=nDepL ts:=by
 intro ts
 induction ts with
 |nil=>intro i h;simp at h
 |cons t ts ih=>
  intro i h
  cases i with
  |zero=>simp only[nDepL,gt];simp;omega
  |succ i=>
   have e:gt (t::ts) ((i+1:Nat):Int) Ty.zero=gt ts (i:Int) Ty.zero:=by simp[gt]
   have:=ih (i:=i) (by simpa using h)
   rw[e];simp only[nDepL];omega
end Go.Q
