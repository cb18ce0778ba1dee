/- Plans: contexts of generators, base terms, and the right plans. -/
import Derived.Test.YtmkelbchboiliaaGreatV14
set_option linter.unusedVariables false
set_option linter.unusedSimpArgs false
set_option maxHeartbeats 2000000
namespace Go.Q
def AnsC(r:List Typing×Bool)(o:Option (List Typing)):Prop:=r.2=o.isSome∧∀c,o=some c->r.1=c
theorem rowO_z{s:Schema}{n:Str}{t:Ty}(h:rowO n s.tables=some t):zTy t<=zSchema s:=by
 obtain⟨x,hx,rfl⟩:=rowO_some h
 obtain⟨i,hi,rfl⟩:=List.getElem_of_mem hx
 have:=zTD_at s hi
 rw[gt_at s.tables i hi]at this
 omega
theorem p_genCtx(nf:Nat)(hn:200000000<nf)(s:Schema)(hS:8*zSchema s+1<nf)(hSb:zSchema s<=16777216)(gens:List Gen)(hg:∀g∈gens,g.var.length<=16777216)(hl:gens.length<=4000000):
  ∃r,m_Zx nf s [] gens=some r∧AnsC r (gC s [] gens)∧(gC s [] gens=none->r.1=[]):=by
 have key:∀k i m (ctx:List Typing),i+k=gens.length->k<m->ctx.length<=i->∃r,l6_Zx nf m gens s ctx (i:Int)=some r∧AnsC r (gC s ctx (gens.drop i))∧(gC s ctx (gens.drop i)=none->r.1=[]):=by
  intro k
  induction k with
  |zero=>
   intro i m ctx hi hm _
   obtain⟨m,rfl⟩:∃m',m=m'+1:=⟨m-1,by omega⟩
   have c0:¬(i:Int)<(gens.length:Int):=by omega
   rw[l6_Zx_eq,br_neg c0,List.drop_eq_nil_of_le (by omega)]
   exact⟨_,rfl,⟨rfl,fun _ h=>by cases h;rfl⟩,fun h=>by cases h⟩
  |succ k ih=>
   intro i m ctx hi hm hc
   obtain⟨m,rfl⟩:∃m',m=m'+1:=⟨m-1,by omega⟩
   have hil:i<gens.length:=by omega
   have c0:(i:Int)<(gens.length:Int):=by omega
   have c1:0<=(i:Int)∧(i:Int)<(gens.length:Int):=by omega
   have hv:=hg _ (gt_mem gens hil Gen.zero)
   rw[l6_Zx_eq,br_pos c0,gg_pos c1,p_implRowType nf s _ hS hSb,cb_some,show m_Zz nf ctx (gt gens (i:Int) Gen.zero).var=some (lookN (gt gens (i:Int) Gen.zero).var ctx ctx.length)from rfl,cb_some,p_implName nf _ (by omega) (by omega),cb_some,drop_gt gens hil Gen.zero]
   have h24t:∀r,j24_Zx nf m ctx gens (i:Int) s r true=some ([],false):=fun r=>by rw[j24_Zx_eq,br_true]
   simp only[gC,mark_eq,h24t]
   cases hr:rowO (gt gens (i:Int) Gen.zero).table s.tables with
   |none=>exact⟨_,rfl,⟨rfl,fun _ h=>by cases h⟩,fun _=>rfl⟩
   |some row=>
    simp only[Option.bind_some,ansO,Bool.not_true,br_ff2]
    change∃r,br (inC (gt gens (i:Int) Gen.zero).var ctx==false) _ _=some r∧_
    cases hb:inC (gt gens (i:Int) Gen.zero).var ctx with
    |true=>exact⟨_,rfl,⟨rfl,fun _ h=>by cases h⟩,fun _=>rfl⟩
    |false=>
     cases hn2:nNm (gt gens (i:Int) Gen.zero).var with
     |false=>rw[Bool.not_false,br_ff2,h24t];exact⟨_,rfl,⟨rfl,fun _ h=>by cases h⟩,fun _=>rfl⟩
     |true=>
      rw[Bool.not_true,br_ff2,j24_Zx_eq,br_false,Ty.h_eq,p_with nf ctx _ _ (by omega),cb_some,mark_eq,w64_nat (n:=i) (by omega)]
      exact ih (i+1) m (ctx++[⟨(gt gens (i:Int) Gen.zero).var,row⟩]) (by omega) (by omega) (by simp;omega)
 rw[m_Zx_eq,mark_eq]
 exact key gens.length 0 nf [] (by omega) (by omega) (by simp)
theorem p_l25Ctx(nf:Nat)(hn:200000000<nf)(s:Schema)(hS:8*zSchema s+1<nf)(hSb:zSchema s<=16777216)(gens:List Gen)(hg:∀g∈gens,g.var.length<=16777216)(hl:gens.length<=4000000):
  ∃r,m_Zbl nf s gens=some r∧AnsC r (gC s [] gens):=by
 have key:∀k i m (ctx:List Typing),i+k=gens.length->k<m->ctx.length<=i->(∀x∈ctx,zTy x.type<=zSchema s)->∃r,l8_Zbl nf m gens s ctx (i:Int)=some r∧AnsC r (gC s ctx (gens.drop i)):=by
  intro k
  induction k with
  |zero=>
   intro i m ctx hi hm _ _
   obtain⟨m,rfl⟩:∃m',m=m'+1:=⟨m-1,by omega⟩
   have c0:¬(i:Int)<(gens.length:Int):=by omega
   rw[l8_Zbl_eq,br_neg c0,List.drop_eq_nil_of_le (by omega)]
   exact⟨_,rfl,rfl,fun _ h=>by cases h;rfl⟩
  |succ k ih=>
   intro i m ctx hi hm hc hx
   obtain⟨m,rfl⟩:∃m',m=m'+1:=⟨m-1,by omega⟩
   have hil:i<gens.length:=by omega
   have c0:(i:Int)<(gens.length:Int):=by omega
   have c1:0<=(i:Int)∧(i:Int)<(gens.length:Int):=by omega
   have hv:=hg _ (gt_mem gens hil Gen.zero)
   rw[l8_Zbl_eq,br_pos c0,gg_pos c1,p_specRowType nf s _ hS hSb,cb_some,gg_pos c1,p_specLook nf ctx _ (fun j hj=>by have:=hx _ (gt_mem ctx hj Typing.zero);omega) (by omega) hn,cb_some,gg_pos c1,p_specName nf _ (by omega) (by omega),cb_some,drop_gt gens hil Gen.zero]
   have h24t:∀r,j24_Zbl nf m gens ctx (i:Int) s r true=some (ctx,false):=fun r=>by rw[j24_Zbl_eq,br_true]
   simp only[gC,mark_eq,h24t]
   cases hr:rowO (gt gens (i:Int) Gen.zero).table s.tables with
   |none=>exact⟨_,rfl,rfl,fun _ h=>by cases h⟩
   |some row=>
    simp only[Option.bind_some,ansO,Bool.not_true,br_ff2]
    change∃r,br (inC (gt gens (i:Int) Gen.zero).var ctx==false) _ _=some r∧_
    cases hb:inC (gt gens (i:Int) Gen.zero).var ctx with
    |true=>exact⟨_,rfl,rfl,fun _ h=>by cases h⟩
    |false=>
     cases hn2:nNm (gt gens (i:Int) Gen.zero).var with
     |false=>rw[Bool.not_false,br_ff2,h24t];exact⟨_,rfl,rfl,fun _ h=>by cases h⟩
     |true=>
      rw[Bool.not_true,br_ff2,j24_Zbl_eq,br_false,gg_pos c1,Ty.h_eq,p_l10With nf ctx _ _ (by omega),cb_some,mark_eq,w64_nat (n:=i) (by omega)]
      refine ih (i+1) m (ctx++[⟨(gt gens (i:Int) Gen.zero).var,row⟩]) (by omega) (by omega) (by simp;omega) fun x hxm=> ?_
      rcases List.mem_append.1 hxm with hxm|hxm
      ·exact hx x hxm
      ·rw[List.mem_singleton]at hxm
       subst hxm
       exact rowO_z hr
 rw[m_Zbl_eq,mark_eq]
 exact key gens.length 0 nf [] (by omega) (by omega) (by simp) (fun x hx=>by cases hx)
theorem p_implHas(nf:Nat)(hn:200000000<nf)(s:Schema)(hS:8*zSchema s+1<nf)(hSb:zSchema s<=16777216)(hR:∀x∈s.tables,nVal x.row=true)(ctx:List Typing)(hv:∀x∈ctx,nVal x.type=true)(hl:ctx.length<=4000000)(e:Tm)(k:Int)(he:8*zTm e+1<nf)(heb:zTm e<=1048576):m_Zy nf s ctx e k=some (hB s ctx e k):=by
 have hd:=nDepT_le e
 have hs:=nSzT_le e
 rw[m_Zy_eq,p_implFormT nf nf e he he (by omega),cb_some,p_implBase nf nf e false he he (by omega),cb_some]
 unfold hB
 have h5t:j5_Zy nf ctx e k s true=some false:=by rw[j5_Zy_eq,br_true]
 simp only[mark_eq]
 cases hF:nFormT e with
 |false=>rw[Bool.not_false,br_tf,h5t];rfl
 |true=>
  cases hb:bT false e with
  |false=>rw[Bool.not_true,br_ff2,Bool.not_false,h5t];rfl
  |true=>
   obtain⟨r,er,h1,h2⟩:=T_impl nf hn s hS hSb hR (nDepT e) nf ctx e (by omega) (Nat.le_refl _) ⟨by omega,fun i hi=>hv _ (gt_mem ctx hi _)⟩ hF he (by omega)
   rw[Bool.not_true,br_ff2,j5_Zy_eq,br_false,er,cb_some]
   cases ht:nT s (nDepT e) ctx e with
   |none=>rw[ht]at h1;rw[h1];rfl
   |some t=>rw[ht]at h1 h2;rw[h1,h2 t rfl];rfl
theorem p_specHas(nf:Nat)(hn:200000000<nf)(s:Schema)(hS:8*zSchema s+1<nf)(hSb:zSchema s<=16777216)(hR:∀x∈s.tables,nVal x.row=true)(ctx:List Typing)(hv:∀x∈ctx,nVal x.type=true)(hl:ctx.length<=4000000)(e:Tm)(k:Int)(hk:k=1∨k=2)(he:8*zTm e+1<nf)(heb:zTm e<=1048576):m_Zbg nf s ctx e (Ty.mk k [] [])=some (hB s ctx e k):=by
 have hd:=nDepT_le e
 have hs:=nSzT_le e
 rw[m_Zbg_eq,Tm.h_eq,p_specFormT nf nf e he he (by omega),cb_some]
 unfold hB
 have h7f:j7_Zbg nf ctx s e (Ty.mk k [] []) false=some false:=by rw[j7_Zbg_eq,br_false,mark_eq,j10_Zbg_eq];rfl
 simp only[mark_eq]
 cases hF:nFormT e with
 |false=>rw[br_ff,h7f];rfl
 |true=>
  rw[beq_self_eq_true,br_true,p_specBase nf nf e he he (by omega) hF,cb_some]
  cases hb:bT false e with
  |false=>rw[h7f];rfl
  |true=>
   obtain⟨r,er,⟨h1,h2⟩,_⟩:=T_spec nf hn s hS hSb hR (nDepT e) nf ctx e (by omega) (Nat.le_refl _) ⟨by omega,fun i hi=>hv _ (gt_mem ctx hi _)⟩ hF he (by omega)
   rw[j7_Zbg_eq,br_true,Tm.h_eq,er,cb_some,mark_eq,j10_Zbg_eq,Ty.eta,Ty.h_eq]
   cases ht:nT s (nDepT e) ctx e with
   |none=>rw[ht]at h1;rw[h1];rfl
   |some t=>
    rw[ht]at h1 h2
    have hvt:=nT_val ht
    have hz:=val_z hvt
    rw[h1,h2 t rfl,show((some t:Option Ty).isSome==true)=true from rfl,br_true,p_specEq nf nf t _ (by omega) (by omega) (by omega),cb_some,eqT_base hvt k hk];rfl
theorem zPl_at(p:Plan){i:Nat}(h:i<p.args.length):1+zPlan (gt p.args (i:Int) Plan.zero)<=zPlan p:=by
 have:=szL_at zPlan p.args h Plan.zero
 have:=zPlan_f p
 omega
mutual
theorem plVars_var:∀p:Plan,∀g∈plVars p,g.var.length<=zPlan p
 | .mk k v t c ks us=>fun g hg=>by
  have hz:=zPlan_f (.mk k v t c ks us)
  dsimp only[Plan.kind,Plan.var,Plan.table,Plan.cond,Plan.keys,Plan.args]at hz
  simp only[plVars,List.mem_append]at hg
  rcases hg with hg|hg
  ·split at hg
   ·rw[List.mem_singleton]at hg
    subst hg
    dsimp only
    omega
   ·cases hg
  ·have:=plVarsL_var us g hg
   omega
theorem plVarsL_var:∀ps:List Plan,∀g∈plVarsL ps,g.var.length<=szL zPlan ps
 | []=>fun g hg=>by simp[plVarsL]at hg
 |p::ps=>fun g hg=>by
  simp only[plVarsL,List.mem_append]at hg
  simp only[szL,List.length_cons,List.map_cons,List.sum_cons]
  rcases hg with hg|hg
  ·have:=plVars_var p g hg
   omega
  ·have:=plVarsL_var ps g hg
   simp only[szL]at this
   omega
end
structure Ok (nf:Nat) (s:Schema) (p:Plan):Prop where
 hn:200000000<nf
 hS:8*zSchema s+1<nf
 hSb:zSchema s<=16777216
 hp:8*zPlan p+3<nf
 hpb:zPlan p<=1048576
theorem Ok.at{nf:Nat}{s:Schema}{p:Plan}(h:Ok nf s p){i:Nat}(hi:i<p.args.length):Ok nf s (gt p.args (i:Int) Plan.zero):=by
 have:=zPl_at p hi
 exact⟨h.hn,h.hS,h.hSb,by have:=h.hp;omega,by have:=h.hpb;omega⟩
theorem ctxO_val{nf:Nat}{s:Schema}{p:Plan}(h:Ok nf s p)(hR:∀x∈s.tables,nVal x.row=true):(∀x∈ctxO s p,nVal x.type=true)∧(ctxO s p).length<=4000000:=by
 unfold ctxO
 cases hc:gC s [] (plVars p)with
 |none=>exact⟨fun x hx=>(by cases hx),by simp⟩
 |some c=>
  obtain⟨h1,h2⟩:=gC_val hR hc (fun x hx=>by cases hx)
  have h3:=plVars_le p
  have h4:=h.hpb
  refine⟨h1,?_⟩
  simp only[Option.getD_some]
  simp at h2
  omega
theorem p_node1{nf:Nat}{s:Schema}{p:Plan}(h:Ok nf s p){i:Nat}(hi:i<p.args.length):m_ZO nf (i:Int) s (some p)=some (ctxO s (gt p.args (i:Int) Plan.zero)):=by
 have h2:=h.at hi
 have h3:=h2.hp
 have h4:=h2.hpb
 have h5:=plVars_le (gt p.args (i:Int) Plan.zero)
 have h6:=plVars_var (gt p.args (i:Int) Plan.zero)
 obtain⟨r,er,⟨g1,g2⟩,g3⟩:=p_genCtx nf h.hn s h.hS h.hSb (plVars (gt p.args (i:Int) Plan.zero)) (fun g hg=>by have:=h6 g hg;omega) (by omega)
 rw[m_ZO_eq,Option.bind_some,gg_pos (by omega),p_ZP nf nf _ [] (by omega) (by omega) (by simp;omega) (by omega),cb_some,List.nil_append,er,cb_some]
 unfold ctxO
 cases hc:gC s [] (plVars (gt p.args (i:Int) Plan.zero))with
 |none=>rw[g3 hc];rfl
 |some c=>rw[g2 c hc];rfl
theorem p_ctx25{nf:Nat}{s:Schema}{p:Plan}(h:Ok nf s p){i:Nat}(hi:i<p.args.length)(hg:(gC s [] (plVars p)).isSome=true):∃r,m_Zbl nf s (plVars (gt p.args (i:Int) Plan.zero))=some r∧r.1=ctxO s (gt p.args (i:Int) Plan.zero):=by
 have h2:=h.at hi
 have h3:=h2.hp
 have h4:=h2.hpb
 have h5:=plVars_le (gt p.args (i:Int) Plan.zero)
 have h6:=plVars_var (gt p.args (i:Int) Plan.zero)
 obtain⟨r,er,g1,g2⟩:=p_l25Ctx nf h.hn s h.hS h.hSb (plVars (gt p.args (i:Int) Plan.zero)) (fun g hg=>by have:=h6 g hg;omega) (by omega)
 refine⟨r,er,?_⟩
 have:=part_ok hg hi
 unfold ctxO
 cases hc:gC s [] (plVars (gt p.args (i:Int) Plan.zero))with
 |none=>rw[hc]at this;cases this
 |some c=>rw[g2 c hc];rfl
theorem p_planArgs(nf:Nat)(k:Int):m_ZL nf k=some (plA k,plK k):=by
 have bk:∀x:Int,(k==x)=decide (k=x):=fun _=>rfl
 simp only[m_ZL_eq,j12_ZL_eq,mark_eq,bk]
 by_cases h1:k=1
 ·simp[plA,plK,h1,br]
 by_cases h2:k=2
 ·simp[plA,plK,h2,br]
 by_cases h3:k=3
 ·simp[plA,plK,h3,br]
 by_cases h4:k=4
 ·simp[plA,plK,h4,br]
 by_cases h5:k=5
 ·simp[plA,plK,h5,br]
 simp[plA,plK,h1,h2,h3,h4,h5,br]
theorem p_l25Arity(nf:Nat)(k:Int):m_Zbk nf k=some (plA k):=by
 have bk:∀x:Int,(k==x)=decide (k=x):=fun _=>rfl
 simp only[m_Zbk_eq,j12_Zbk_eq,j22_Zbk_eq,mark_eq,bk]
 by_cases h1:k=1
 ·simp[plA,h1,br]
 by_cases h2:k=2
 ·simp[plA,h2,br]
 by_cases h3:k=3
 ·simp[plA,h3,br]
 by_cases h4:k=4
 ·simp[plA,h4,br]
 by_cases h5:k=5
 ·simp[plA,h5,br]
 simp[plA,h1,h2,h3,h4,h5,br]
theorem zKey_at(p:Plan){i:Nat}(h:i<p.keys.length):1+zTm (gt p.keys (i:Int) Tm.zero)<=zPlan p:=by
 have:=szL_at zTm p.keys h Tm.zero
 have:=zPlan_f p
 omega
theorem p_planNode{nf:Nat}{s:Schema}{p:Plan}(h:Ok nf s p)(hR:∀x∈s.tables,nVal x.row=true):m_ZN nf s p=some (nodeP s p):=by
 have hz:=zPlan_f p
 have hp:=h.hp
 have hpb:=h.hpb
 have bk:∀x:Int,(p.kind==x)=decide (p.kind=x):=fun _=>rfl
 have h7t:j7_ZN nf s p true=some false:=by rw[j7_ZN_eq,br_true]
 rw[m_ZN_eq,p_planArgs,cb_some]
 dsimp only
 rw[p_implZero nf p.cond (by omega) (by omega),cb_some]
 simp only[mark_eq,h7t]
 unfold nodeP
 cases hA:((p.args.length:Int)==plA p.kind)with
 |false=>rfl
 |true=>
  cases hK:((p.keys.length:Int)==plK p.kind)with
  |false=>rfl
  |true=>
   have hA2:(p.args.length:Int)=plA p.kind:=by simpa using hA
   have hK2:(p.keys.length:Int)=plK p.kind:=by simpa using hK
   have h7f:j7_ZN nf s p false=some (bodyP s p):=by
    rw[j7_ZN_eq,br_false,bk,bk]
    unfold bodyP
    have z0:((0:Nat):Int)=0:=rfl
    have z1:((1:Nat):Int)=1:=rfl
    by_cases h4:p.kind=4
    ·have hla:(p.args.length:Int)=1:=by rw[hA2,h4];rfl
     have n0:=p_node1 h (i:=0) (by omega)
     obtain⟨v1,v2⟩:=ctxO_val (h.at (i:=0) (by omega)) hR
     rw[z0]at n0 v1 v2
     rw[decide_eq_true h4,br_true,n0,cb_some,p_implHas nf h.hn s h.hS h.hSb hR _ v1 v2 p.cond 2 (by omega) (by omega),cb_some,if_pos h4]
    ·rw[decide_eq_false h4,br_false,if_neg h4]
     by_cases h5:p.kind=5
     ·have hla:(p.args.length:Int)=2:=by rw[hA2,h5];rfl
      have hlk:(p.keys.length:Int)=2:=by rw[hK2,h5];rfl
      have n0:=p_node1 h (i:=0) (by omega)
      have n1:=p_node1 h (i:=1) (by omega)
      obtain⟨v1,v2⟩:=ctxO_val (h.at (i:=0) (by omega)) hR
      obtain⟨w1,w2⟩:=ctxO_val (h.at (i:=1) (by omega)) hR
      have k0:=zKey_at p (i:=0) (by omega)
      have k1:=zKey_at p (i:=1) (by omega)
      rw[z0]at n0 v1 v2 k0
      rw[z1]at n1 w1 w2 k1
      rw[decide_eq_true h5,br_true,n0,cb_some,gg_pos (by omega),p_implHas nf h.hn s h.hS h.hSb hR _ v1 v2 _ 1 (by omega) (by omega),cb_some,n1,cb_some,gg_pos (by omega),p_implHas nf h.hn s h.hS h.hSb hR _ w1 w2 _ 1 (by omega) (by omega),cb_some,if_pos h5]
      cases hB s (ctxO s (gt p.args (0:Int) Plan.zero)) (gt p.keys (0:Int) Tm.zero) 1<;>rfl
     ·rw[decide_eq_false h5,br_false,if_neg h5]
   have h7:∀x,j7_ZN nf s p x=some (!x&&bodyP s p):=fun x=>by
    cases x
    ·rw[h7f];rfl
    ·rw[h7t];rfl
   simp only[h7]
   generalize bodyP s p=B
   generalize (p.kind==(2:Int))=k2
   generalize (p.kind==(4:Int))=k4
   generalize (p.var==([]:Str))=v
   generalize (p.table==([]:Str))=t
   cases k2<;>cases k4<;>cases v<;>cases t<;>cases zeroT p.cond<;>cases B<;>rfl
theorem p_implPForm(nf:Nat)(s:Schema)(hR:∀x∈s.tables,nVal x.row=true):∀(kf:Nat) (p:Plan),8*zPlan p+1<kf->Ok nf s p->m_ZM nf kf s p=some (pForm s p)
 |0,p,h,_=>absurd h (Nat.not_lt_zero _)
 |kf+1,p,h,hO=>by
  have hl:=(zPlan_args p).1
  have hp:=hO.hp
  have hpb:=hO.hpb
  rw[m_ZM_eq,mark_eq]
  have:=for_all (fun m i=>l6_ZM nf (kf+1) m p s i) p.args.length (fun i=>pForm s (gt p.args (i:Int) Plan.zero)) (j25_ZM nf (kf+1) p s) (some false) 0 (fun m i hp hi=> ?_) (fun m i hi=> ?_) nf (by omega) (by omega)
  ·have e0:((0:Nat):Int)=(0:Int):=rfl
   rw[e0]at this
   rw[this,show p.args.length-0=p.args.length by omega,allF_all (pForm s) Plan.zero,pForm_eq,j25_ZM_eq,p_planNode hO hR,cb_some]
   cases p.args.all (pForm s)<;>cases nodeP s p<;>rfl
  ·have c0:(i:Int)<(p.args.length:Int):=by omega
   have c1:0<=(i:Int)∧(i:Int)<(p.args.length:Int):=by omega
   have hs:=zPl_at p hi
   have e1:=p_implPForm nf s hR kf (gt p.args (i:Int) Plan.zero) (by omega) (hO.at hi)
   rw[l6_ZM_eq,br_pos c0,gg_pos c1,e1,cb_some,mark_eq,w64_nat (n:=i) (by omega)]
   cases pForm s (gt p.args (i:Int) Plan.zero)<;>rfl
  ·have c0:¬(i:Int)<(p.args.length:Int):=by omega
   rw[l6_ZM_eq,br_neg c0,mark_eq]
theorem p_l25Terms{nf:Nat}{s:Schema}{p:Plan}(h:Ok nf s p)(hR:∀x∈s.tables,nVal x.row=true)(hg:(gC s [] (plVars p)).isSome=true)(hA:(p.args.length:Int)=plA p.kind):
  m_Zbn nf s p=some (((p.keys.length:Int)==plK p.kind)&&(((p.kind==4)||zeroT p.cond)&&bodyP s p)):=by
 have hz:=zPlan_f p
 have hp:=h.hp
 have hpb:=h.hpb
 have bk:∀x:Int,(p.kind==x)=decide (p.kind=x):=fun _=>rfl
 have z0:((0:Nat):Int)=0:=rfl
 have z1:((1:Nat):Int)=1:=rfl
 have ez:=p_specZero nf p.cond (by omega) (by omega)
 rw[m_Zbn_eq,bk,bk,Tm.h_eq,ez]
 unfold bodyP
 by_cases h4:p.kind=4
 ·have hla:(p.args.length:Int)=1:=by rw[hA,h4];rfl
  have ho:=h.at (i:=0) (by omega)
  have hop:=ho.hp
  have hopb:=ho.hpb
  obtain⟨r,er,e1⟩:=p_ctx25 h (i:=0) (by omega) hg
  obtain⟨v1,v2⟩:=ctxO_val ho hR
  rw[z0]at er e1 v1 v2 hop hopb
  have hk:plK p.kind=0:=by rw[h4];rfl
  rw[decide_eq_true h4,br_true,gg_pos (by omega),p_ZaW nf nf _ (by omega) (by omega) (by omega),cb_some,er,cb_some,e1,m_Zbq_eq,cb_some,p_specHas nf h.hn s h.hS h.hSb hR _ v1 v2 p.cond 2 (.inr rfl) (by omega) (by omega),cb_some,if_pos h4,hk]
  simp only[j13_Zbn_eq,mark_eq]
  generalize ((p.keys.length:Int)==0)=K
  cases K<;>rfl
 ·rw[decide_eq_false h4,br_false,if_neg h4]
  by_cases h5:p.kind=5
  ·have hla:(p.args.length:Int)=2:=by rw[hA,h5];rfl
   have ho:=h.at (i:=0) (by omega)
   have ho1:=h.at (i:=1) (by omega)
   have hop:=ho.hp
   have hopb:=ho.hpb
   have hop1:=ho1.hp
   have hopb1:=ho1.hpb
   obtain⟨r,er,e1⟩:=p_ctx25 h (i:=0) (by omega) hg
   obtain⟨r2,er2,e2⟩:=p_ctx25 h (i:=1) (by omega) hg
   obtain⟨v1,v2⟩:=ctxO_val ho hR
   obtain⟨w1,w2⟩:=ctxO_val ho1 hR
   rw[z0]at er e1 v1 v2 hop hopb
   rw[z1]at er2 e2 w1 w2 hop1 hopb1
   have hk:plK p.kind=2:=by rw[h5];rfl
   rw[decide_eq_true h5,br_true,gg_pos (by omega),p_ZaW nf nf _ (by omega) (by omega) (by omega),cb_some,er,cb_some,gg_pos (by omega),p_ZaW nf nf _ (by omega) (by omega) (by omega),cb_some,er2,cb_some,cb_some,e1,e2,if_pos h5,hk]
   simp only[j23_Zbn_eq,mark_eq,m_Zbv_eq,cb_some]
   cases hK:((p.keys.length:Int)==2)with
   |false=>cases zeroT p.cond<;>rfl
   |true=>
    have hlk:(p.keys.length:Int)=2:=by simpa using hK
    have k0:=zKey_at p (i:=0) (by omega)
    have k1:=zKey_at p (i:=1) (by omega)
    rw[z0]at k0
    rw[z1]at k1
    rw[gg_pos (by omega),p_specHas nf h.hn s h.hS h.hSb hR _ v1 v2 _ 1 (.inl rfl) (by omega) (by omega),cb_some,gg_pos (by omega),p_specHas nf h.hn s h.hS h.hSb hR _ w1 w2 _ 1 (.inl rfl) (by omega) (by omega),cb_some]
    cases zeroT p.cond<;>cases hB s (ctxO s (gt p.args (0:Int) Plan.zero)) (gt p.keys (0:Int) Tm.zero) 1<;>rfl
  ·rw[decide_eq_false h5,br_false,if_neg h5,cb_some]
   have hk:plK p.kind=0:=by
    have h1:0<=plA p.kind:=by omega
    unfold plA at h1
    unfold plK
    by_cases a1:p.kind=1∨p.kind=2
    ·rw[if_pos (by omega)]
    ·rw[if_neg a1]at h1
     by_cases a2:p.kind=3∨p.kind=5
     ·rw[if_pos (by omega)]
     ·rw[if_neg a2,if_neg h4]at h1
      omega
   rw[hk]
   generalize ((p.keys.length:Int)==0)=K
   cases K<;>cases zeroT p.cond<;>rfl
theorem p_specPForm(nf:Nat)(s:Schema)(hR:∀x∈s.tables,nVal x.row=true):∀(kf:Nat) (p:Plan),8*zPlan p+1<kf->Ok nf s p->(gC s [] (plVars p)).isSome=true->m_Zbm nf kf s p=some (pForm s p)
 |0,p,h,_,_=>absurd h (Nat.not_lt_zero _)
 |kf+1,p,h,hO,hg=>by
  have hl:=(zPlan_args p).1
  have hp:=hO.hp
  have hpb:=hO.hpb
  have h5t:j5_Zbm nf (kf+1) s p true=some false:=by rw[j5_Zbm_eq,br_true]
  rw[m_Zbm_eq,p_l25Arity,cb_some,pForm_eq]
  simp only[mark_eq,h5t]
  unfold nodeP
  cases hA:((p.args.length:Int)==plA p.kind)with
  |false=>rfl
  |true=>
   have hA2:(p.args.length:Int)=plA p.kind:=by simpa using hA
   have h5f:j5_Zbm nf (kf+1) s p false=some (p.args.all (pForm s)&&(((p.keys.length:Int)==plK p.kind)&&(((p.kind==4)||zeroT p.cond)&&bodyP s p))):=by
    rw[j5_Zbm_eq,br_false,mark_eq]
    have:=for_all (fun m i=>l14_Zbm nf (kf+1) m s p i) p.args.length (fun i=>pForm s (gt p.args (i:Int) Plan.zero)) (j31_Zbm nf (kf+1) s p) (some false) 0 (fun m i hp hi=> ?_) (fun m i hi=> ?_) nf (by omega) (by omega)
    ·have e0:((0:Nat):Int)=(0:Int):=rfl
     rw[e0]at this
     rw[this,show p.args.length-0=p.args.length by omega,allF_all (pForm s) Plan.zero,j31_Zbm_eq,Plan.h_eq,p_l25Terms hO hR hg hA2,cb_some]
     cases p.args.all (pForm s)<;>rfl
    ·have c0:(i:Int)<(p.args.length:Int):=by omega
     have c1:0<=(i:Int)∧(i:Int)<(p.args.length:Int):=by omega
     have hs:=zPl_at p hi
     have e1:=p_specPForm nf s hR kf (gt p.args (i:Int) Plan.zero) (by omega) (hO.at hi) (part_ok hg hi)
     rw[l14_Zbm_eq,br_pos c0,gg_pos c1,e1,cb_some,mark_eq,w64_nat (n:=i) (by omega)]
     cases pForm s (gt p.args (i:Int) Plan.zero)<;>rfl
    ·have c0:¬(i:Int)<(p.args.length:Int):=by omega
     rw[l14_Zbm_eq,br_neg c0,mark_eq]
   have h5:∀x,j5_Zbm nf (kf+1) s p x=some (!x&&(p.args.all (pForm s)&&(((p.keys.length:Int)==plK p.kind)&&(((p.kind==4)||zeroT p.cond)&&bodyP s p)))):=fun x=>by
    cases x
    ·rw[h5f];rfl
    ·rw[h5t];rfl
   simp only[h5]
   generalize ((p.keys.length:Int)==plK p.kind)=K
   generalize (((p.kind==4)||zeroT p.cond)&&bodyP s p)=B
   generalize (p.kind==(2:Int))=k2
   generalize (p.var==([]:Str))=v
   generalize (p.table==([]:Str))=t
   cases k2<;>cases v<;>cases t<;>cases K<;>cases B<;>cases p.args.all (pForm s)<;>rfl
theorem p_implIsPlan(nf:Nat)(s:Schema)(p:Plan)(h:Ok nf s p):m_Zl nf s p=some (isPlan s p):=by
 have hp:=h.hp
 have hpb:=h.hpb
 have h5:=plVars_le p
 have h6:=plVars_var p
 obtain⟨r,er,⟨g1,g2⟩,g3⟩:=p_genCtx nf h.hn s h.hS h.hSb (plVars p) (fun g hg=>by have:=h6 g hg;omega) (by omega)
 rw[m_Zl_eq,p_implSchema nf s h.hS h.hSb,cb_some]
 unfold isPlan
 cases hs:nSchema s with
 |false=>rfl
 |true=>
  rw[Bool.not_true,br_false,p_ZP nf nf p [] (by omega) (by omega) (by simp;omega) (by omega),cb_some,List.nil_append,er,cb_some,g1]
  have hR:∀x∈s.tables,nVal x.row=true:=fun x hx=>by
   simp only[nSchema,Bool.and_eq_true]at hs
   have:=List.all_eq_true.1 hs.1 x hx
   simp only[nRow,Bool.and_eq_true]at this
   exact this.2.1
  rw[p_implPForm nf s hR nf p (by omega) h,cb_some]
  cases(gC s [] (plVars p)).isSome<;>rfl
theorem p_specIsPlan(nf:Nat)(s:Schema)(p:Plan)(h:Ok nf s p):m_ZaR nf s p=some (isPlan s p):=by
 have hp:=h.hp
 have hpb:=h.hpb
 have h5:=plVars_le p
 have h6:=plVars_var p
 obtain⟨r,er,g1,g2⟩:=p_l25Ctx nf h.hn s h.hS h.hSb (plVars p) (fun g hg=>by have:=h6 g hg;omega) (by omega)
 rw[m_ZaR_eq,Plan.h_eq,p_ZaW nf nf p (by omega) (by omega) (by omega),cb_some,er,cb_some,g1,p_specSchema nf s h.hS h.hSb,cb_some]
 unfold isPlan
 cases hg:(gC s [] (plVars p)).isSome with
 |false=>rw[br_ff];cases nSchema s<;>rfl
 |true=>
  rw[beq_self_eq_true,br_true]
  cases hs:nSchema s with
  |false=>rfl
  |true=>
   have hR:∀x∈s.tables,nVal x.row=true:=fun x hx=>by
    simp only[nSchema,Bool.and_eq_true]at hs
    have:=List.all_eq_true.1 hs.1 x hx
    simp only[nRow,Bool.and_eq_true]at this
    exact this.2.1
   rw[beq_self_eq_true,br_true,p_specPForm nf s hR nf p (by omega) h hg,cb_some];rfl
end Go.Q
