/- Bags of a type, counted and found; equal types. -/
import Derived.Test.YteidofmblfglkaaD20
set_option linter.unusedVariables false
set_option linter.unusedSimpArgs false
set_option maxHeartbeats 1000000
namespace Go.Q
def bagBit1(k:Int):Nat:=if k=4 then 1 else 0
mutual
def nCnt:Ty->Nat
 | .mk k _ c=>bagBit1 k+nCntL c
def nCntL:List Ty->Nat
 | []=>0
 |t::ts=>nCnt t+nCntL ts
end
theorem nCnt_eq(t:Ty):nCnt t=bagBit1 t.kind+nCntL t.args:=by cases t;simp only[nCnt,Ty.kind_mk,Ty.args_mk]
theorem nCntL_sum:∀ts:List Ty,nCntL ts=(ts.map nCnt).sum
 | []=>rfl
 |t::ts=>by simp[nCntL,nCntL_sum ts]
theorem nCntL_take(ts:List Ty){i:Nat}(h:i<ts.length):nCntL (ts.take (i+1))=nCntL (ts.take i)+nCnt (gt ts (i:Int) Ty.zero):=by
 rw[nCntL_sum,nCntL_sum,<-take_gt ts h Ty.zero]
 simp
mutual
theorem nBags_cnt:∀(t:Ty) (p:List Str),(nBags t p).length=nCnt t
 | .mk k ls c,p=>by
  have h:=nBagsL_cnt k ls c 0 p
  rw[nBags_eq,nCnt_eq,List.length_append]
  have h2:(nBagsL (Ty.mk k ls c).kind (Ty.mk k ls c).labels (Ty.mk k ls c).args 0 p).length=nCntL (Ty.mk k ls c).args:=h
  rw[h2]
  by_cases hk:(Ty.mk k ls c).kind=4
  ·rw[if_pos hk,bagBit1,if_pos hk];rfl
  ·rw[if_neg hk,bagBit1,if_neg hk];rfl
theorem nBagsL_cnt(k:Int)(ls:List Str):∀(ts:List Ty) (i:Nat) (p:List Str),(nBagsL k ls ts i p).length=nCntL ts
 | [],_,_=>by simp[nBagsL,nCntL]
 |t::ts,i,p=>by
  have h1:=nBags_cnt t (p++[stp k ls i])
  have h2:=nBagsL_cnt k ls ts (i+1) p
  simp only[nBagsL,nCntL,List.length_append]
  omega
end
theorem nBagsL_mem(k:Int)(ls p x:List Str):∀(us:List Ty) (j:Nat),x∈nBagsL k ls us j p->∃i,i<us.length∧x∈nBags (gt us (i:Int) Ty.zero) (p++[stp k ls (j+i)])
 | [],j,h=>by simp[nBagsL]at h
 |u::us,j,h=>by
  simp only[nBagsL,List.mem_append]at h
  rcases h with h|h
  ·exact⟨0,by simp,by simpa[gt]using h⟩
  ·obtain⟨i,hi,h2⟩:=nBagsL_mem k ls p x us (j+1) h
   refine⟨i+1,by simp;omega,?_⟩
   rw[show j+(i+1)=j+1+i by omega]
   have e:gt (u::us) ((i+1:Nat):Int) Ty.zero=gt us (i:Int) Ty.zero:=by simp[gt]
   rw[e];exact h2
theorem bag_ok:∀(n:Nat) (t:Ty) (p x:List Str),nSz t<=n->x∈nBags t p->nVal t=true->nHas 5 t=false->∃r u,x=p++r∧r.length<=n∧nAt r 0 r.length t=some u∧u.kind=4
 |0,t,p,x,hn,_,_,_=>by
  have:=nSz_eq t
  omega
 |n+1,t,p,x,hn,hx,hv,h5=>by
  rw[nBags_eq,List.mem_append]at hx
  have hF:=val_form hv
  rcases hx with hx|hx
  ·split at hx
   ·rename_i h4
    rw[List.mem_singleton]at hx
    subst hx
    exact⟨[],t,by simp,by simp,rfl,h4⟩
   ·cases hx
  ·obtain⟨i,hi,h2⟩:=nBagsL_mem _ _ _ _ _ _ hx
   rw[Nat.zero_add]at h2
   have hs:=nSz_at t.args hi
   have he:=nSz_eq t
   obtain⟨r,u,e1,e2,e3,e4⟩:=bag_ok n _ _ x (by omega) h2 (val_at hv hi) (has_at h5 hi)
   have hst:nStep t (stp t.kind t.labels i)=some (gt t.args (i:Int) Ty.zero):=by
    by_cases h4:t.kind=4
    ·have hl:=form_bag hF h4
     have hi0:i=0:=by omega
     subst hi0
     unfold nStep stp
     rw[if_neg (show¬t.kind=3 by omega),if_pos ⟨h4,rfl⟩]
     rfl
    ·by_cases h3:t.kind=3
     ·have hl:=form_rec hF h3
      have hxo:=idx_own hF h3 (i:=i) (by omega)
      unfold nStep stp
      rw[if_pos h3,if_neg (fun h=>h4 h.1),if_pos ⟨h3,by rw[hxo];omega⟩,hxo]
     ·have:=form_base hF h3 h4 h5
      rw[this]at hi
      cases hi
   refine⟨stp t.kind t.labels i::r,u,by rw[e1,List.append_assoc];rfl,by simp;omega,?_,e4⟩
   have e0:gt (stp t.kind t.labels i::r) ((0:Nat):Int) ([]:Str)=stp t.kind t.labels i:=by simp[gt]
   rw[List.length_cons,nAt,e0,hst,Option.bind_some,nAt_cons]
   exact e3
theorem allF_true{ok:Nat->Bool}:∀ {k a:Nat},(∀j,a<=j->j<a+k->ok j=true)->allF ok a k=true
 |0,a,_=>rfl
 |k+1,a,h=>by
  simp only[allF,h a (Nat.le_refl _) (by omega),Bool.true_and,if_true]
  exact allF_true fun j h1 h2=>h j (by omega) (by omega)
theorem eqSs_self(a:List Str):eqSs a a=true:=by
 unfold eqSs
 rw[beq_self_eq_true,Bool.true_and]
 exact allF_true fun j _ _=>by simp
theorem eqT_self:∀(n:Nat) (t:Ty),nSz t<=n->eqT t t=true
 |0,t,h=>by
  have:=nSz_eq t
  omega
 |n+1,t,h=>by
  have he:=nSz_eq t
  rw[eqT_eq,beq_self_eq_true,beq_self_eq_true,eqSs_self,eqTL_all]
  simp only[Bool.true_and,Nat.add_zero]
  refine allF_true fun j _ hj=> ?_
  have:=nSz_at t.args (i:=j) (by omega)
  exact eqT_self n _ (by omega)
end Go.Q
