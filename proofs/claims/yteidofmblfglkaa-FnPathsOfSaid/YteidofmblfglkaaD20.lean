/- The leaves of a type, on both sides. -/
import Derived.Test.YteidofmblfglkaaD12
import Derived.Test.YteidofmblfglkaaD0
set_option linter.unusedVariables false
set_option linter.unusedSimpArgs false
set_option maxHeartbeats 1000000
namespace Go.Q
theorem allF_false{ok:Nat->Bool}:∀ {k i j:Nat},i<=j->j<i+k->ok j=false->allF ok i k=false
 |0,i,j,h1,h2,_=>by omega
 |k+1,i,j,h1,h2,h3=>by
  simp only[allF]
  by_cases e:j=i
  ·subst e;rw[h3];rfl
  ·rw[allF_false (k:=k) (i:=i+1) (j:=j) (by omega) (by omega) h3,Bool.and_false]
theorem less_irr:∀a:Str,Op.bytesLess a a=false
 | []=>rfl
 |x::a=>by simp[Op.bytesLess,less_irr a]
theorem less_tr:∀a b c:Str,Op.bytesLess a b=true->Op.bytesLess b c=true->Op.bytesLess a c=true
 |a,b,[],_,h=>by cases b<;>simp[Op.bytesLess]at h
 | [],b,_::_,_,_=>rfl
 |x::a,[],z::c,h,_=>by simp[Op.bytesLess]at h
 |x::a,y::b,z::c,h1,h2=>by
  simp only[Op.bytesLess,Bool.or_eq_true,Bool.and_eq_true,decide_eq_true_eq,beq_iff_eq]at h1 h2⊢
  rcases h1 with h1|⟨e1,h1⟩
  ·rcases h2 with h2|⟨e2,h2⟩
   ·exact .inl (UInt8.lt_trans h1 h2)
   ·exact .inl (e2▸h1)
  ·rcases h2 with h2|⟨e2,h2⟩
   ·exact .inl (e1▸h2)
   ·exact .inr ⟨e1.trans e2,less_tr a b c h1 h2⟩
theorem asc_step{xs:List Str}(h:nAsc xs=true){i:Nat}(hi:i+1<xs.length):Op.bytesLess (gt xs (i:Int) ([]:Str)) (gt xs ((i+1:Nat):Int) ([]:Str))=true:=by
 unfold nAsc at h
 cases hb:Op.bytesLess (gt xs (i:Int) ([]:Str)) (gt xs ((i+1:Nat):Int) ([]:Str))with
 |true=>rfl
 |false=>
  have hc:(((i+1:Nat):Int)-1)=(i:Int):=by omega
  have:=allF_false (ok:=fun i=>Op.bytesLess (gt xs ((i:Int)-1) ([]:Str)) (gt xs (i:Int) ([]:Str))) (k:=xs.length-1) (i:=1) (j:=i+1) (by omega) (by omega) (by rw[hc];exact hb)
  rw[this]at h
  cases h
theorem asc_lt{xs:List Str}(h:nAsc xs=true):∀(d i:Nat),i+d+1<xs.length->Op.bytesLess (gt xs (i:Int) ([]:Str)) (gt xs ((i+d+1:Nat):Int) ([]:Str))=true
 |0,i,hi=>asc_step h hi
 |d+1,i,hi=>less_tr _ _ _ (asc_lt h d i (by omega)) (asc_step h (i:=i+d+1) hi)
theorem findI_at{ok:Nat->Bool}:∀(k a j:Nat),a<=j->j<a+k->ok j=true->(∀m,a<=m->m<j->ok m=false)->findI ok a k=(j:Int)
 |0,a,j,h1,h2,_,_=>by omega
 |k+1,a,j,h1,h2,h3,h4=>by
  simp only[findI]
  by_cases e:a=j
  ·subst e;rw[if_pos h3]
  ·rw[if_neg (by rw[h4 a (Nat.le_refl _) (by omega)];decide)]
   exact findI_at k (a+1) j (by omega) (by omega) h3 (fun m hm hm2=>h4 m (by omega) hm2)
theorem idx_own{t:Ty}(hF:nForm t=true)(h3:t.kind=3){i:Nat}(hi:i<t.labels.length):idx t.labels (gt t.labels (i:Int) ([]:Str))=(i:Int):=by
 have hA:nAsc t.labels=true:=by
  rw[nForm_eq,if_pos h3]at hF
  simp only[Bool.and_eq_true,nLab]at hF
  exact hF.2.2.1.2.2
 unfold idx
 refine findI_at _ 0 i (by omega) (by omega) (by simp) fun m _ hm=> ?_
 obtain⟨d,hd⟩:∃d,i=m+d+1:=⟨i-m-1,by omega⟩
 have:=asc_lt hA d m (by omega)
 rw[<-hd]at this
 cases he:(gt t.labels (m:Int) ([]:Str)==gt t.labels (i:Int) ([]:Str))with
 |false=>rfl
 |true=>
  rw[beq_iff_eq]at he
  rw[he,less_irr]at this
  cases this
mutual
def nLv:Ty->List Str->List (List Str×Ty)
 | .mk k ls us,p=>if k=3 then nLvL ls us 0 p else [(p,.mk k ls us)]
def nLvL(ls:List Str):List Ty->Nat->List Str->List (List Str×Ty)
 | [],_,_=>[]
 |u::us,i,p=>nLv u (p++[gt ls (i:Int) ([]:Str)])++nLvL ls us (i+1) p
end
theorem nLv_eq(t:Ty)(p:List Str):nLv t p=if t.kind=3 then nLvL t.labels t.args 0 p else [(p,t)]:=by
 cases t;simp only[nLv,Ty.kind_mk,Ty.labels_mk,Ty.args_mk];rfl
theorem nLvL_app(ls:List Str)(x:Ty)(p:List Str):∀(a:List Ty) (j:Nat),nLvL ls (a++[x]) j p=nLvL ls a j p++nLv x (p++[gt ls ((j+a.length:Nat):Int) ([]:Str)])
 | [],j=>by simp[nLvL]
 |t::a,j=>by
  simp only[List.cons_append,nLvL,nLvL_app ls x p a (j+1),List.append_assoc,List.length_cons]
  rw[show j+1+a.length=j+(a.length+1) by omega]
theorem nLvL_take(ls:List Str)(c:List Ty)(p:List Str){i:Nat}(h:i<c.length):nLvL ls (c.take (i+1)) 0 p=nLvL ls (c.take i) 0 p++nLv (gt c (i:Int) Ty.zero) (p++[gt ls (i:Int) ([]:Str)]):=by
 rw[<-take_gt c h Ty.zero,nLvL_app,List.length_take,Nat.min_eq_left (by omega),Nat.zero_add]
mutual
theorem nLv_len:∀(t:Ty) (p:List Str),(nLv t p).length<=nSz t
 | .mk k ls c,p=>by
  simp only[nLv,nSz]
  have:=nLvL_len ls c 0 p
  split<;>simp<;>omega
theorem nLvL_len(ls:List Str):∀(ts:List Ty) (i:Nat) (p:List Str),(nLvL ls ts i p).length<=nSzL ts
 | [],_,_=>by simp[nLvL,nSzL]
 |t::ts,i,p=>by
  simp only[nLvL,nSzL,List.length_append]
  have h1:=nLv_len t (p++[gt ls (i:Int) ([]:Str)])
  have h2:=nLvL_len ls ts (i+1) p
  omega
end
theorem nLvL_mem(ls p:List Str)(x:List Str×Ty):∀(us:List Ty) (j:Nat),x∈nLvL ls us j p->∃i,i<us.length∧x∈nLv (gt us (i:Int) Ty.zero) (p++[gt ls ((j+i:Nat):Int) ([]:Str)])
 | [],j,h=>by simp[nLvL]at h
 |u::us,j,h=>by
  simp only[nLvL,List.mem_append]at h
  rcases h with h|h
  ·exact⟨0,by simp,by simpa[gt]using h⟩
  ·obtain⟨i,hi,h2⟩:=nLvL_mem ls p x us (j+1) h
   refine⟨i+1,by simp;omega,?_⟩
   rw[show j+(i+1)=j+1+i by omega]
   have e:gt (u::us) ((i+1:Nat):Int) Ty.zero=gt us (i:Int) Ty.zero:=by simp[gt]
   rw[e];exact h2
theorem nAt_cons(s:Str)(r:List Str):∀(k i:Nat) (t:Ty),nAt (s::r) (i+1) k t=nAt r i k t
 |0,i,t=>rfl
 |k+1,i,t=>by
  have e:gt (s::r) ((i+1:Nat):Int) ([]:Str)=gt r (i:Int) ([]:Str):=by simp[gt]
  simp only[nAt,e]
  congr 1
  funext u
  exact nAt_cons s r k (i+1) u
theorem lv_ok:∀(n:Nat) (t:Ty) (p:List Str) (x:List Str×Ty),nSz t<=n->x∈nLv t p->nVal t=true->nHas 5 t=false->∃r,x.1=p++r∧r.length<=n∧nAt r 0 r.length t=some x.2∧nVal x.2=true∧nHas 5 x.2=false∧x.2.kind≠3
 |0,t,p,x,hn,_,_,_=>by
  have:=nSz_eq t
  omega
 |n+1,t,p,x,hn,hx,hv,h5=>by
  rw[nLv_eq]at hx
  by_cases h3:t.kind=3
  ·rw[if_pos h3]at hx
   obtain⟨i,hi,h2⟩:=nLvL_mem _ _ _ _ _ hx
   rw[Nat.zero_add]at h2
   have hF:=val_form hv
   have hl:=form_rec hF h3
   have hs:=nSz_at t.args hi
   have he:=nSz_eq t
   obtain⟨r,e1,e2,e3,e4⟩:=lv_ok n _ _ x (by omega) h2 (val_at hv hi) (has_at h5 hi)
   refine⟨gt t.labels (i:Int) ([]:Str)::r,by rw[e1,List.append_assoc];rfl,by simp;omega,?_,e4⟩
   have hst:nStep t (gt t.labels (i:Int) ([]:Str))=some (gt t.args (i:Int) Ty.zero):=by
    unfold nStep
    have hx:=idx_own hF h3 (i:=i) (by omega)
    rw[if_neg (fun h=>by omega),if_pos ⟨h3,by rw[hx];omega⟩,hx]
   have e0:gt (gt t.labels (i:Int) ([]:Str)::r) ((0:Nat):Int) ([]:Str)=gt t.labels (i:Int) ([]:Str):=by simp[gt]
   rw[List.length_cons,nAt,e0,hst,Option.bind_some,nAt_cons]
   exact e3
  ·rw[if_neg h3,List.mem_singleton]at hx
   subst hx
   exact⟨[],by simp,by simp,rfl,hv,h5,h3⟩
def lf(x:List Str×Ty):Leaf:=Leaf.mk x.1 (some x.2)
theorem p_leavesOf(nf:Nat):∀(kf:Nat) (t:Ty) (p:List Str) (o:List Leaf),8*zTy t+1<kf->8*zTy t+1<nf->zTy t<=16777216->nForm t=true->p.length+nSz t<=1000->o.length+nSz t<=1000->m_Zt nf kf t p o=some (o++(nLv t p).map lf,())
 |0,t,_,_,h,_,_,_,_,_=>absurd h (Nat.not_lt_zero _)
 |kf+1,t,p,o,h,h',hb,hF,hp,ho=>by
  have hz:=zTy_f t
  have l2:t.args.length<=szL zTy t.args:=by unfold szL;omega
  have hn:=nSz_eq t
  have b3:(t.kind==(3:Int))=decide (t.kind=3):=rfl
  rw[m_Zt_eq,nLv_eq,b3]
  by_cases h3:t.kind=3
  ·have hl:=form_rec hF h3
   rw[decide_eq_true h3,Bool.not_true,br_false,if_pos h3,mark_eq]
   have:=for_loop (fun m i s=>l14_Zt nf (kf+1) m t p i s) t.args.length (fun i=>o++(nLvL t.labels (t.args.take i) 0 p).map lf) (some (o++(nLvL t.labels t.args 0 p).map lf,())) (fun m i hi=> ?_) (fun m=> ?_) nf (by omega)
   ·simpa[nLvL]using this
   ·have c0:(i:Int)<(t.args.length:Int):=by omega
    have c1:0<=(i:Int)∧(i:Int)<(t.args.length:Int):=by omega
    have c2:0<=(i:Int)∧(i:Int)<(t.labels.length:Int):=by omega
    have hs:=szL_at zTy t.args hi Ty.zero
    have hsn:=nSz_at t.args hi
    have hlen2:=nLvL_len t.labels (t.args.take i) 0 p
    have htk:=nSzL_take t.args hi
    have hle:=nSzL_le t.args (i+1)
    have e:=p_leavesOf nf kf (gt t.args (i:Int) Ty.zero) (p++[gt t.labels (i:Int) ([]:Str)]) (o++(nLvL t.labels (t.args.take i) 0 p).map lf) (by omega) (by omega) (by omega) (form_at hF hi) (by simp;omega) (by simp;omega)
    rw[l14_Zt_eq,br_pos c0,gg_pos c1,p_Clip,cb_some,gg_pos c2,gg_pos (by simp;omega),e,cb_some,mark_eq,w64_nat (n:=i) (by omega),nLvL_take t.labels t.args p hi,List.map_append,List.append_assoc]
   ·have c0:¬(t.args.length:Int)<(t.args.length:Int):=by omega
    rw[l14_Zt_eq,br_neg c0,List.take_length]
  ·rw[decide_eq_false h3,Bool.not_false,br_true,if_neg h3,p_Clone nf p (by omega),cb_some,gg_pos (by simp;omega)]
   rfl
theorem p_l18Leaves(nf:Nat):∀(kf:Nat) (t:Ty) (p:List Str),8*zTy t+1<kf->8*zTy t+1<nf->zTy t<=16777216->nForm t=true->p.length+nSz t<=1000->nSz t<=1000->m_ZX nf kf t p=some ((nLv t p).map (·.1))
 |0,t,_,h,_,_,_,_,_=>absurd h (Nat.not_lt_zero _)
 |kf+1,t,p,h,h',hb,hF,hp,ho=>by
  have hz:=zTy_f t
  have l2:t.args.length<=szL zTy t.args:=by unfold szL;omega
  have hn:=nSz_eq t
  have b3:(t.kind==(3:Int))=decide (t.kind=3):=rfl
  rw[m_ZX_eq,nLv_eq,b3]
  by_cases h3:t.kind=3
  ·have hl:=form_rec hF h3
   rw[decide_eq_true h3,Bool.not_true,br_false,if_pos h3,mark_eq]
   have:=for_loop (fun m i s=>l16_ZX nf (kf+1) m p t i s) t.args.length (fun i=>(nLvL t.labels (t.args.take i) 0 p).map (·.1)) (some ((nLvL t.labels t.args 0 p).map (·.1))) (fun m i hi=> ?_) (fun m=> ?_) nf (by omega)
   ·simpa[nLvL]using this
   ·have c0:(i:Int)<(t.args.length:Int):=by omega
    have c1:0<=(i:Int)∧(i:Int)<(t.args.length:Int):=by omega
    have c2:0<=(i:Int)∧(i:Int)<(t.labels.length:Int):=by omega
    have hs:=szL_at zTy t.args hi Ty.zero
    have hsn:=nSz_at t.args hi
    have hlen:=nLv_len (gt t.args (i:Int) Ty.zero) (p++[gt t.labels (i:Int) ([]:Str)])
    have hlen2:=nLvL_len t.labels (t.args.take i) 0 p
    have htk:=nSzL_take t.args hi
    have hle:=nSzL_le t.args (i+1)
    have e:=p_l18Leaves nf kf (gt t.args (i:Int) Ty.zero) (p++[gt t.labels (i:Int) ([]:Str)]) (by omega) (by omega) (by omega) (form_at hF hi) (by simp;omega) (by omega)
    rw[l16_ZX_eq,br_pos c0,gg_pos c1,gg_pos c2,p_l18Step nf p _ (by omega),cb_some,e,cb_some,gg_pos (by simp;omega),mark_eq,w64_nat (n:=i) (by omega),nLvL_take t.labels t.args p hi,List.map_append]
   ·have c0:¬(t.args.length:Int)<(t.args.length:Int):=by omega
    rw[l16_ZX_eq,br_neg c0,List.take_length]
  ·rw[decide_eq_false h3,Bool.not_false,br_true,if_neg h3,gg_pos (by omega),gg_pos (by simp)]
   rfl
theorem p_specLeaves(nf:Nat)(t:Ty)(h:8*zTy t+1<nf)(hb:zTy t<=16777216)(hv:nVal t=true)(h5:nHas 5 t=false):m_ZT nf t=some ((nLv t []).map (·.1)):=by
 rw[m_ZT_eq,Ty.h_eq,p_specData nf t h hb,cb_some,hv,h5]
 have hs:nSz t<=24:=by simp only[nVal,Bool.and_eq_true,decide_eq_true_eq]at hv;exact hv.1
 rw[p_l18Leaves nf nf t [] h h hb (val_form hv) (by simp;omega) (by omega),cb_some]
 rfl
end Go.Q
