/- Normal queries: both sides find the same ones right. -/
import Derived.Test.YtmkelbchboiliaaGreatV15
import Derived.Test.YtmkelbchboiliaaGreatB26
set_option linter.unusedVariables false
set_option linter.unusedSimpArgs false
set_option maxHeartbeats 2000000
namespace Go.Q
def falseT(e:Tm):Bool:=(e.kind==3)&&((e.name==([]:Str))&&((e.n==0)&&(tyNo e.type&&(((e.labels.length:Int)==0)&&((e.args.length:Int)==0)))))
theorem p_implFalse(nf:Nat)(e:Tm)(h:8*zTm e+3<nf)(hb:zTm e<=16777216):m_ZF nf e=some (falseT e):=by
 obtain⟨n,rfl⟩:∃n,nf=n+2:=⟨nf-2,by omega⟩
 have hz:=zTm_f e
 have l1:e.labels.length<=szL List.length e.labels:=by unfold szL;omega
 have hl:=zTm_len e
 rw[m_ZF_eq,m_Zy_eq,cb_some,Tm.h_eq]
 have key:m_Zh (n+2) (n+2) e (Tm.mk (3:Int) ([]:Str) (0:Int) (Ty.mk (0:Int) ([]:List Str) ([]:List Ty)) ([]:List Str) ([]:List Tm))=some (falseT e):=by
  rw[m_Zh_eq]
  simp only[Tm.kind_mk,Tm.name_mk,Tm.n_mk,Tm.type_mk,Tm.labels_mk,Tm.args_mk,Ty.h_eq]
  rw[p_implEq (n+2) (n+2) e.type _ (by omega) (by omega) (by omega),cb_some,p_slEqual (n+2) e.labels [] (by omega) (by omega),cb_some,eqT_no,eqSs_nil]
  have hE:m_ZaU (n+2) (n+1) e.args []=some ((e.args.length:Int)==0):=by
   rw[m_ZaU_eq]
   have h0:((([]:List Tm).length:Nat):Int)=0:=rfl
   rw[h0]
   cases hg:((e.args.length:Int)==0)with
   |false=>rfl
   |true=>
    have hq2:(e.args.length:Int)=0:=by simpa using hg
    have c0:¬(0:Int)<(e.args.length:Int):=by omega
    rw[Bool.not_true,br_false,mark_eq,l14_ZaU_eq,br_neg c0]
  rw[hE,cb_some]
  unfold falseT
  generalize (e.kind==(3:Int))=a
  generalize (e.name==([]:Str))=b
  generalize (e.n==(0:Int))=c
  generalize ((e.labels.length:Int)==0)=d
  generalize ((e.args.length:Int)==0)=g
  cases a<;>cases b<;>cases c<;>cases d<;>cases g<;>cases tyNo e.type<;>rfl
 rw[key,cb_some]
theorem hB_false{s:Schema}{ctx:List Typing}{e:Tm}{k:Int}(h:hB s ctx e k=true):falseT e=((e.kind==3)&&(e.n==0)):=by
 unfold hB at h
 simp only[Bool.and_eq_true]at h
 have hF:=h.1.1
 rw[nFormT_eq,Bool.and_eq_true]at hF
 have hN:=hF.1
 by_cases hk:e.kind=3
 ·have e1:shp e=(0,false,false,true):=by unfold shp;rw[hk];rfl
  unfold nodeOk at hN
  rw[e1]at hN
  simp only[Bool.and_eq_true]at hN
  obtain⟨_,a1,a2,_,a4,a5⟩:=hN
  rw[if_neg (by decide)]at a4 a5
  have l0:((e.labels.length:Int)==0)=true:=by
   cases hd:decide (0<(e.labels.length:Int))with
   |true=>rw[hd,hk]at a2;exact absurd a2 (by decide)
   |false=>
    have:=of_decide_eq_false hd
    have h0:(e.labels.length:Int)=0:=by omega
    rw[h0];rfl
  unfold falseT
  rw[a4,a5,a1,l0]
  cases(e.kind==(3:Int))<;>cases(e.n==(0:Int))<;>rfl
 ·have:(e.kind==(3:Int))=false:=by simp[hk]
  unfold falseT
  rw[this];rfl
theorem p_genCtxA(nf:Nat)(hn:200000000<nf)(s:Schema)(hS:8*zSchema s+1<nf)(hSb:zSchema s<=16777216)(gens:List Gen)(hg:∀g∈gens,g.var.length<=16777216)(ctx0:List Typing)(hl:ctx0.length+gens.length<=4000000):
  ∃r,m_Zz nf s ctx0 gens=some r∧AnsC r (gC s ctx0 gens):=by
 have key:∀k i m (ctx:List Typing),i+k=gens.length->k<m->ctx.length<=ctx0.length+i->∃r,l6_Zz nf m gens s ctx (i:Int)=some r∧AnsC r (gC s ctx (gens.drop i)):=by
  intro k
  induction k with
  |zero=>
   intro i m ctx hi hm _
   obtain⟨m,rfl⟩:∃m',m=m'+1:=⟨m-1,by omega⟩
   have c0:¬(i:Int)<(gens.length:Int):=by omega
   rw[l6_Zz_eq,br_neg c0,List.drop_eq_nil_of_le (by omega)]
   exact⟨_,rfl,rfl,fun _ h=>by cases h;rfl⟩
  |succ k ih=>
   intro i m ctx hi hm hc
   obtain⟨m,rfl⟩:∃m',m=m'+1:=⟨m-1,by omega⟩
   have hil:i<gens.length:=by omega
   have c0:(i:Int)<(gens.length:Int):=by omega
   have c1:0<=(i:Int)∧(i:Int)<(gens.length:Int):=by omega
   have hv:=hg _ (gt_mem gens hil Gen.zero)
   rw[l6_Zz_eq,br_pos c0,gg_pos c1,p_implRowType nf s _ hS hSb,cb_some,show m_ZC nf ctx (gt gens (i:Int) Gen.zero).var=some (lookN (gt gens (i:Int) Gen.zero).var ctx ctx.length)from rfl,cb_some,p_implName nf _ (by omega) (by omega),cb_some,drop_gt gens hil Gen.zero]
   have h24t:∀r,j24_Zz nf m ctx gens (i:Int) s r true=some ([],false):=fun r=>by rw[j24_Zz_eq,br_true]
   simp only[gC,mark_eq,h24t]
   cases hr:rowO (gt gens (i:Int) Gen.zero).table s.tables with
   |none=>exact⟨_,rfl,rfl,fun _ h=>by cases h⟩
   |some row=>
    simp only[Option.bind_some,ansO,Bool.not_true,br_ff2]
    change∃r,br (inC (gt gens (i:Int) Gen.zero).var ctx==false) _ _=some r∧_
    cases hb:inC (gt gens (i:Int) Gen.zero).var ctx with
    |true=>exact⟨_,rfl,rfl,fun _ h=>by cases h⟩
    |false=>
     cases hn2:nNm (gt gens (i:Int) Gen.zero).var with
     |false=>rw[Bool.not_false,br_ff2,h24t];exact⟨_,rfl,rfl,fun _ h=>by cases h⟩
     |true=>
      rw[Bool.not_true,br_ff2,j24_Zz_eq,br_false,Ty.h_eq,p_with nf ctx _ _ (by omega),cb_some,mark_eq,w64_nat (n:=i) (by omega)]
      exact ih (i+1) m (ctx++[⟨(gt gens (i:Int) Gen.zero).var,row⟩]) (by omega) (by omega) (by simp;omega)
 rw[m_Zz_eq,mark_eq]
 exact key gens.length 0 nf ctx0 (by omega) (by omega) (by simp)
theorem p_l13Gens(nf:Nat)(hn:200000000<nf)(s:Schema)(hS:8*zSchema s+1<nf)(hSb:zSchema s<=16777216)(hR:∀x∈s.tables,nVal x.row=true)(gens:List Gen)(hg:∀g∈gens,g.var.length<=16777216)(ctx0:List Typing)(hv0:∀x∈ctx0,nVal x.type=true)(hl:ctx0.length+gens.length<=4000000):
  ∃r,m_Zbw nf s ctx0 gens=some r∧r.2=((gC s ctx0 gens).isSome&&decide ((gens.length:Int)<=6))∧∀c,gC s ctx0 gens=some c->r.1=c:=by
 have key:∀k i m (ctx:List Typing),i+k=gens.length->k<m->ctx.length<=ctx0.length+i->(∀x∈ctx,nVal x.type=true)->∃r,l6_Zbw nf m gens s ctx (i:Int)=some r∧r.2=((gC s ctx (gens.drop i)).isSome&&decide ((gens.length:Int)<=6))∧∀c,gC s ctx (gens.drop i)=some c->r.1=c:=by
  intro k
  induction k with
  |zero=>
   intro i m ctx hi hm _ _
   obtain⟨m,rfl⟩:∃m',m=m'+1:=⟨m-1,by omega⟩
   have c0:¬(i:Int)<(gens.length:Int):=by omega
   rw[l6_Zbw_eq,br_neg c0,List.drop_eq_nil_of_le (by omega),mark_eq,j29_Zbw_eq]
   exact⟨_,rfl,rfl,fun _ h=>by cases h;rfl⟩
  |succ k ih=>
   intro i m ctx hi hm hc hx
   obtain⟨m,rfl⟩:∃m',m=m'+1:=⟨m-1,by omega⟩
   have hil:i<gens.length:=by omega
   have c0:(i:Int)<(gens.length:Int):=by omega
   have c1:0<=(i:Int)∧(i:Int)<(gens.length:Int):=by omega
   have hv:=hg _ (gt_mem gens hil Gen.zero)
   rw[l6_Zbw_eq,br_pos c0,gg_pos c1,p_specRowType nf s _ hS hSb,cb_some,gg_pos c1,p_specLook nf ctx _ (fun j hj=>by have:=val_z (hx _ (gt_mem ctx hj Typing.zero));omega) (by omega) hn,cb_some,gg_pos c1,p_specName nf _ (by omega) (by omega),cb_some,drop_gt gens hil Gen.zero]
   have h22t:∀r,j22_Zbw nf m ctx gens (i:Int) s r true=some (ctx,false):=fun r=>by rw[j22_Zbw_eq,br_true]
   simp only[gC,mark_eq,h22t]
   cases hr:rowO (gt gens (i:Int) Gen.zero).table s.tables with
   |none=>exact⟨_,rfl,rfl,fun _ h=>by cases h⟩
   |some row=>
    simp only[Option.bind_some,ansO,Bool.not_true,br_ff2]
    change∃r,br (inC (gt gens (i:Int) Gen.zero).var ctx==false) _ _=some r∧_
    cases hb:inC (gt gens (i:Int) Gen.zero).var ctx with
    |true=>exact⟨_,rfl,rfl,fun _ h=>by cases h⟩
    |false=>
     cases hn2:nNm (gt gens (i:Int) Gen.zero).var with
     |false=>rw[Bool.not_false,br_ff2,h22t];exact⟨_,rfl,rfl,fun _ h=>by cases h⟩
     |true=>
      rw[Bool.not_true,br_ff2,j22_Zbw_eq,br_false,gg_pos c1,Ty.h_eq,p_l10With nf ctx _ _ (by omega),cb_some,mark_eq,w64_nat (n:=i) (by omega)]
      refine ih (i+1) m (ctx++[⟨(gt gens (i:Int) Gen.zero).var,row⟩]) (by omega) (by omega) (by simp;omega) fun x hxm=> ?_
      rcases List.mem_append.1 hxm with hxm|hxm
      ·exact hx x hxm
      ·rw[List.mem_singleton]at hxm
       subst hxm
       obtain⟨y,hy,hyr⟩:=rowO_some hr
       rw[<-hyr];exact hR y hy
 rw[m_Zbw_eq,mark_eq]
 exact key gens.length 0 nf ctx0 (by omega) (by omega) (by simp) hv0
def Agree(x y:Option Bool):Prop:=∃b,x=some b∧y=some b
def bo:Option Bool->Bool
 |some b=>b
 |none=>false
structure CtxOk (ctx:List Typing) (n:Nat):Prop where
 val:∀x∈ctx,nVal x.type=true
 len:ctx.length+n<=4000000
theorem CtxOk.le{ctx:List Typing}{n m:Nat}(h:CtxOk ctx n)(hm:m<=n):CtxOk ctx m:=⟨h.val,by have:=h.len;omega⟩
theorem base_is{t:Ty}(hv:nVal t=true)(h3:t.kind≠3)(h4:t.kind≠4)(h5:nHas 5 t=false):∃k,(k=1∨k=2)∧t=Ty.mk k [] []:=by
 have hf:=val_form hv
 have ha:=form_base hf h3 h4 h5
 rw[nForm_eq,if_neg h3]at hf
 simp only[Bool.and_eq_true,decide_eq_true_eq]at hf
 obtain⟨_,_,hl,hw⟩:=hf
 cases t with
 |mk k ls us=>
  simp only[Ty.args_mk,Ty.labels_mk,Ty.kind_mk]at*
  subst ha
  have hl2:ls=[]:=List.eq_nil_of_length_eq_zero hl
  subst hl2
  refine⟨k,?_,rfl⟩
  unfold want at hw
  by_cases hk:k=1∨k=2
  ·exact hk
  ·rw[if_neg hk,if_neg h4]at hw
   simp only[List.length_nil]at hw
   split at hw<;>omega
theorem agree_all(L1 L2:Nat->Int->Option Bool)(n nf:Nat)(ok:Nat->Bool)(b:Bool)
  (s1:∀m i,i<n->L1 (m+1) (i:Int)=if ok i=true then L1 m ((i+1:Nat):Int)else some false) (e1:∀m i,n<=i->L1 (m+1) (i:Int)=some true)
  (s2:∀m i,i<n->L2 (m+1) (i:Int)=if ok i=true then L2 m ((i+1:Nat):Int)else some false) (e2:∀m i,n<=i->L2 (m+1) (i:Int)=some b) (h:n<nf):
  L1 nf (0:Int)=some (allF ok 0 n)∧L2 nf (0:Int)=some (allF ok 0 n&&b):=by
 have a:=for_all L1 n ok (some true) (some false) 0 (fun m i _ hi=>s1 m i hi) e1 nf (by omega) (by omega)
 have c:=for_all L2 n ok (some b) (some false) 0 (fun m i _ hi=>s2 m i hi) e2 nf (by omega) (by omega)
 have e0:((0:Nat):Int)=(0:Int):=rfl
 rw[e0,show n-0=n by omega]at a c
 rw[a,c]
 cases allF ok 0 n<;>exact⟨rfl,rfl⟩
theorem zHead_at(h:Head){i:Nat}(hi:i<h.parts.length):1+zHead (gt h.parts (i:Int) Head.zero)<=zHead h:=by
 have:=szL_at zHead h.parts hi Head.zero
 have:=zHead_f h
 omega
theorem zComp_at(q:Query){i:Nat}(hi:i<q.comps.length):1+zComp (gt q.comps (i:Int) Comp.zero)<=zQuery q:=by
 have:=szL_at zComp q.comps hi Comp.zero
 have:=zQuery_f q
 omega
theorem g_normal(nf:Nat)(hn:200000000<nf)(s:Schema)(hS:8*zSchema s+1<nf)(hSb:zSchema s<=16777216)(hR:∀x∈s.tables,nVal x.row=true):∀kf:Nat,
  (∀(h:Head) (t:Ty) (ctx:List Typing),8*zHead h+4<kf->8*zHead h+4<nf->zHead h<=1048576->nVal t=true->nHas 5 t=false->CtxOk ctx (zHead h)->Agree (m_ZB nf kf s h t ctx) (m_Zbx nf kf s ctx h t))∧
  (∀(q:Query) (t:Ty) (ctx:List Typing),8*zQuery q+2<kf->8*zQuery q+2<nf->zQuery q<=1048576->nVal t=true->nHas 5 t=false->t.kind=4->CtxOk ctx (zQuery q)->Agree (m_ZN nf kf s q t ctx) (m_Zby nf kf s ctx q t))
 |0=>⟨fun h t ctx h0=>absurd h0 (Nat.not_lt_zero _),fun q t ctx h0=>absurd h0 (Nat.not_lt_zero _)⟩
 |kf+1=>by
  obtain⟨ihH,ihQ⟩:=g_normal nf hn s hS hSb hR kf
  refine⟨?_,?_⟩
  ·intro h t ctx h0 h1 hb hv h5 hC
   have hz:=zHead_f h
   have l1:h.labels.length<=szL List.length h.labels:=by unfold szL;omega
   have l2:h.parts.length<=szL zHead h.parts:=by unfold szL;omega
   have hlen:=hC.len
   have ez:=p_implZero nf h.term (by omega) (by omega)
   have ez2:=p_specZero nf h.term (by omega) (by omega)
   by_cases h3:t.kind=3
   ·have hl:((h.parts.length:Int)==(t.args.length:Int))=true->Agree (l21_ZB nf (kf+1) nf h t ctx s (0:Int)) (l35_Zbx nf (kf+1) nf ctx s h t (0:Int)):=fun hp=>by
     have hp2:(h.parts.length:Int)=(t.args.length:Int):=by simpa using hp
     have st:∀i,i<h.parts.length->Agree (m_ZB nf kf s (gt h.parts (i:Int) Head.zero) (gt t.args (i:Int) Ty.zero) ctx) (m_Zbx nf kf s ctx (gt h.parts (i:Int) Head.zero) (gt t.args (i:Int) Ty.zero)):=fun i hi=>by
      have hza:=zHead_at h hi
      exact ihH _ _ ctx (by omega) (by omega) (by omega) (val_at hv (by omega)) (has_at h5 (by omega)) (hC.le (by omega))
     have:=agree_all (fun m i=>l21_ZB nf (kf+1) m h t ctx s i) (fun m i=>l35_Zbx nf (kf+1) m ctx s h t i) h.parts.length nf (fun i=>bo (m_ZB nf kf s (gt h.parts (i:Int) Head.zero) (gt t.args (i:Int) Ty.zero) ctx)) true (fun m i hi=> ?_) (fun m i hi=> ?_) (fun m i hi=> ?_) (fun m i hi=> ?_) (by omega)
     ·exact⟨_,this.1,by rw[this.2,Bool.and_true]⟩
     ·obtain⟨b,e1,e2⟩:=st i hi
      have c0:(i:Int)<(h.parts.length:Int):=by omega
      have c1:0<=(i:Int)∧(i:Int)<(h.parts.length:Int):=by omega
      have c2:0<=(i:Int)∧(i:Int)<(t.args.length:Int):=by omega
      rw[l21_ZB_eq,br_pos c0,gg_pos c1,gg_pos c2,e1,cb_some,mark_eq,w64_nat (n:=i) (by omega)]
      cases b<;>rfl
     ·have c0:¬(i:Int)<(h.parts.length:Int):=by omega
      rw[l21_ZB_eq,br_neg c0,mark_eq,j40_ZB_eq]
     ·obtain⟨b,e1,e2⟩:=st i hi
      have c0:(i:Int)<(h.parts.length:Int):=by omega
      have c1:0<=(i:Int)∧(i:Int)<(h.parts.length:Int):=by omega
      have c2:0<=(i:Int)∧(i:Int)<(t.args.length:Int):=by omega
      rw[l35_Zbx_eq,br_pos c0,gg_pos c1,gg_pos c2,e1,e2,cb_some,mark_eq,w64_nat (n:=i) (by omega)]
      cases b<;>rfl
     ·have c0:¬(i:Int)<(h.parts.length:Int):=by omega
      rw[l35_Zbx_eq,br_neg c0]
    have i12:∀x,j12_ZB nf (kf+1) h t ctx s x=br x (some false) (l21_ZB nf (kf+1) nf h t ctx s (0:Int)):=fun x=>by rw[j12_ZB_eq,mark_eq]
    have s26:∀x,j26_Zbx nf (kf+1) ctx s h t x=br x (some false) (l35_Zbx nf (kf+1) nf ctx s h t (0:Int)):=fun x=>by rw[j26_Zbx_eq,mark_eq]
    have k3:(t.kind==(3:Int))=true:=by simp[h3]
    have k1:(t.kind==(1:Int))=false:=by simp[h3]
    have k2:(t.kind==(2:Int))=false:=by simp[h3]
    have k4:(t.kind==(4:Int))=false:=by simp[h3]
    rw[m_ZB_eq,m_Zbx_eq,k3,k1,k2,br_true,br_false,mark_eq,j12_Zbx_eq,br_false,k4,br_false,p_slEqual nf h.labels t.labels (by omega) (by omega),cb_some,p_l3Texts nf h.labels t.labels (by omega) (by omega),cb_some,ez,cb_some,Tm.h_eq,ez2,cb_some]
    simp only[i12,s26,mark_eq]
    generalize (h.kind==(2:Int))=A
    generalize eqSs h.labels t.labels=B
    generalize ((h.parts.length:Int)==(t.args.length:Int))=C at hl⊢
    generalize zeroT h.term=Z
    generalize decide ((0:Int)<(h.query.comps.length:Int))=D
    cases A
    ·exact⟨false,rfl,rfl⟩
    cases B
    ·exact⟨false,rfl,rfl⟩
    cases C
    ·exact⟨false,rfl,rfl⟩
    cases Z
    ·exact⟨false,rfl,rfl⟩
    cases D
    ·exact hl rfl
    ·exact⟨false,rfl,rfl⟩
   by_cases h4:t.kind=4
   ·obtain⟨b,e1,e2⟩:=ihQ h.query t ctx (by omega) (by omega) (by omega) hv h5 h4 (hC.le (by omega))
    have i48:∀x,j48_ZB nf (kf+1) x=some x:=fun x=>by rw[j48_ZB_eq]
    have s21:∀x,j21_Zbx nf (kf+1) x=some x:=fun x=>by rw[j21_Zbx_eq]
    have k3:(t.kind==(3:Int))=false:=by simp[h4]
    have k1:(t.kind==(1:Int))=false:=by simp[h4]
    have k2:(t.kind==(2:Int))=false:=by simp[h4]
    have k4:(t.kind==(4:Int))=true:=by simp[h4]
    rw[m_ZB_eq,m_Zbx_eq,k3,k1,k2,k4,br_false,br_true,br_false,mark_eq,j12_Zbx_eq,br_false,k4,br_true,ez,cb_some,Tm.h_eq,ez2,cb_some,e1,cb_some,Query.h_eq,Ty.h_eq,e2,cb_some]
    simp only[i48,s21,mark_eq]
    generalize (h.kind==(3:Int))=A
    generalize ((h.labels.length:Int)==(0:Int))=B
    generalize ((h.parts.length:Int)==(0:Int))=C
    generalize zeroT h.term=Z
    cases A
    ·exact⟨false,rfl,rfl⟩
    cases B
    ·exact⟨false,rfl,rfl⟩
    cases C
    ·exact⟨false,rfl,rfl⟩
    cases Z
    ·exact⟨false,rfl,rfl⟩
    ·exact⟨b,rfl,rfl⟩
   ·obtain⟨k,hk,rfl⟩:=base_is hv h3 h4 h5
    have e1:=p_implHas nf hn s hS hSb hR ctx hC.val (by omega) h.term k (by omega) (by omega)
    have e2:=p_specHas nf hn s hS hSb hR ctx hC.val (by omega) h.term k hk (by omega) (by omega)
    have s15:∀x,j15_Zbx nf (kf+1) x=some x:=fun x=>by rw[j15_Zbx_eq]
    have k3:(k==(3:Int))=false:=by rcases hk with rfl|rfl<;>rfl
    have k4:(k==(4:Int))=false:=by rcases hk with rfl|rfl<;>rfl
    have i50:=j50_ZB_eq nf kf h (Ty.mk k [] []) ctx s
    have s12:=j12_Zbx_eq nf kf ctx (Ty.mk k [] []) s h true
    rw[br_true,Tm.h_eq,Ty.h_eq,e2,cb_some]at s12
    rw[Ty.kind_mk,e1,cb_some]at i50
    have sm:m_Zbx nf (kf+1) s ctx h (Ty.mk k [] [])=j12_Zbx nf (kf+1) ctx (Ty.mk k [] []) s h true:=by
     rw[m_Zbx_eq,Ty.kind_mk]
     rcases hk with rfl|rfl
     ·rw[show((1:Int)==1)=true from rfl,br_true,mark_eq]
     ·rw[show((2:Int)==1)=false from rfl,br_false,mark_eq,show((2:Int)==2)=true from rfl]
    rw[sm,s12,m_ZB_eq,Ty.kind_mk,k3,k4,br_false,br_false,mark_eq,i50]
    simp only[s15,mark_eq]
    generalize (h.kind==(1:Int))=A
    generalize ((h.labels.length:Int)==(0:Int))=B
    generalize ((h.parts.length:Int)==(0:Int))=C
    generalize ((h.query.comps.length:Int)==(0:Int))=D
    cases A
    ·exact⟨false,rfl,rfl⟩
    cases B
    ·exact⟨false,rfl,rfl⟩
    cases C
    ·exact⟨false,rfl,rfl⟩
    cases D
    ·exact⟨false,rfl,rfl⟩
    ·exact⟨_,rfl,rfl⟩
  ·intro q t ctx h0 h1 hb hv h5 h4 hC
   have hz:=zQuery_f q
   have l2:q.comps.length<=szL zComp q.comps:=by unfold szL;omega
   have hlen:=hC.len
   have ha:=form_bag (val_form hv) h4
   have hva:=val_at hv (i:=0) (by omega)
   have h5a:=has_at h5 (i:=0) (by omega)
   have z0:((0:Nat):Int)=(0:Int):=rfl
   rw[z0]at hva h5a
   have i31:∀m i x,j31_ZN nf (kf+1) m q t ctx i s x=br x (some false) (l14_ZN nf (kf+1) m q t ctx s (w64 (i+(1:Int)))):=fun m i x=>by rw[j31_ZN_eq,mark_eq]
   have s21:∀m i x,j21_Zby nf (kf+1) m ctx i s q t x=br x (some false) (l6_Zby nf (kf+1) m ctx s q t (w64 (i+(1:Int)))):=fun m i x=>by rw[j21_Zby_eq,mark_eq]
   have st:∀i,i<q.comps.length->∃b,(∀m,l14_ZN nf (kf+1) (m+1) q t ctx s (i:Int)=if b=true then l14_ZN nf (kf+1) m q t ctx s ((i+1:Nat):Int)else some false)∧(∀m,l6_Zby nf (kf+1) (m+1) ctx s q t (i:Int)=if b=true then l6_Zby nf (kf+1) m ctx s q t ((i+1:Nat):Int)else some false):=fun i hi=>by
    have c0:(i:Int)<(q.comps.length:Int):=by omega
    have c1:0<=(i:Int)∧(i:Int)<(q.comps.length:Int):=by omega
    have c2:0<=(0:Int)∧(0:Int)<(t.args.length:Int):=by omega
    have hzc:=zComp_at q hi
    have i14:=fun m=>l14_ZN_eq nf kf m q t ctx s (i:Int)
    have s6:=fun m=>l6_Zby_eq nf kf m ctx s q t (i:Int)
    simp only[br_pos c0,gg_pos c1,gg_pos c2,i31,s21,w64_nat (n:=i) (show i<9223372036854775807 by omega),mark_eq,Tm.h_eq,Head.h_eq]at i14 s6
    generalize gt q.comps (i:Int) Comp.zero=c at hzc i14 s6
    have hzf:=zComp_f c
    have hgl:c.gens.length<=szL zGen c.gens:=by unfold szL;omega
    have hgv:∀g∈c.gens,g.var.length<=16777216:=fun g hgm=>by
     obtain⟨j,hj,rfl⟩:=List.getElem_of_mem hgm
     have:=szL_at zGen c.gens hj Gen.zero
     rw[gt_at c.gens j hj]at this
     have:=zGen_f c.gens[j]
     omega
    obtain⟨r,er,g1,g2⟩:=p_genCtxA nf hn s hS hSb c.gens hgv ctx (by omega)
    obtain⟨r2,er2,g3,g4⟩:=p_l13Gens nf hn s hS hSb hR c.gens hgv ctx hC.val (by omega)
    simp only[er,cb_some]at i14
    simp only[er2,cb_some,m_ZbE_eq]at s6
    rw[g1]at i14
    rw[g3]at s6
    cases hg:gC s ctx c.gens with
    |none=>
     rw[hg]at i14 s6
     exact⟨false,fun m=>i14 m,fun m=>s6 m⟩
    |some cx=>
     rw[hg]at i14 s6
     rw[g2 cx hg]at i14
     rw[g4 cx hg]at s6
     obtain⟨v1,v2⟩:=gC_val hR hg hC.val
     have e1:=p_implHas nf hn s hS hSb hR cx v1 (by omega) c.whr 2 (by omega) (by omega)
     have e2:=p_specHas nf hn s hS hSb hR cx v1 (by omega) c.whr 2 (.inr rfl) (by omega) (by omega)
     have e3:=p_implFalse nf c.whr (by omega) (by omega)
     obtain⟨b,e4,e5⟩:=ihH c.head (gt t.args (0:Int) Ty.zero) cx (by omega) (by omega) (by omega) hva h5a ⟨v1,by omega⟩
     simp only[e1,e3,e4,cb_some]at i14
     simp only[e2,e5,cb_some]at s6
     have hF:=fun h=>hB_false (s:=s) (ctx:=cx) (e:=c.whr) (k:=2) h
     have hd:decide ((6:Int)<(c.gens.length:Int))= !decide ((c.gens.length:Int)<=6):=dec_not (by omega)
     rw[hd]at i14
     generalize decide ((c.gens.length:Int)<=6)=G6 at i14 s6
     generalize hB s cx c.whr 2=H at i14 s6 hF
     generalize falseT c.whr=F at i14 hF
     generalize (c.whr.kind==(3:Int))=K at s6 hF
     generalize (c.whr.n==(0:Int))=N at s6 hF
     cases G6
     ·exact⟨false,fun m=>i14 m,fun m=>s6 m⟩
     cases H
     ·refine⟨false,fun m=> ?_,fun m=>s6 m⟩
      rw[i14 m]
      cases F<;>rfl
     have hF2:=hF rfl
     subst hF2
     refine⟨!(K&&N)&&b,fun m=> ?_,fun m=> ?_⟩
     ·rw[i14 m]
      cases K<;>cases N<;>cases b<;>rfl
     ·rw[s6 m]
      cases K<;>cases N<;>cases b<;>rfl
   have ch:∀i,∃b,i<q.comps.length->(∀m,l14_ZN nf (kf+1) (m+1) q t ctx s (i:Int)=if b=true then l14_ZN nf (kf+1) m q t ctx s ((i+1:Nat):Int)else some false)∧(∀m,l6_Zby nf (kf+1) (m+1) ctx s q t (i:Int)=if b=true then l6_Zby nf (kf+1) m ctx s q t ((i+1:Nat):Int)else some false):=fun i=>by
    by_cases hi:i<q.comps.length
    ·obtain⟨b,hb2⟩:=st i hi
     exact⟨b,fun _=>hb2⟩
    ·exact⟨false,fun h=>absurd h hi⟩
   obtain⟨ok,hok⟩:=Classical.axiomOfChoice ch
   have:=agree_all (fun m i=>l14_ZN nf (kf+1) m q t ctx s i) (fun m i=>l6_Zby nf (kf+1) m ctx s q t i) q.comps.length nf ok (decide ((q.comps.length:Int)<=24)) (fun m i hi=>(hok i hi).1 m) (fun m i hi=> ?_) (fun m i hi=>(hok i hi).2 m) (fun m i hi=> ?_) (by omega)
   ·have hd:decide ((24:Int)<(q.comps.length:Int))= !decide ((q.comps.length:Int)<=24):=dec_not (by omega)
    rw[m_ZN_eq,m_Zby_eq,mark_eq,mark_eq,this.1,this.2,hd]
    cases decide ((q.comps.length:Int)<=24)
    ·exact⟨false,rfl,by rw[Bool.and_false]⟩
    ·exact⟨_,rfl,by rw[Bool.and_true]⟩
   ·have c0:¬(i:Int)<(q.comps.length:Int):=by omega
    rw[l14_ZN_eq,br_neg c0]
   ·have c0:¬(i:Int)<(q.comps.length:Int):=by omega
    rw[l6_Zby_eq,br_neg c0]
theorem p_isNormal(nf:Nat)(hn:200000000<nf)(s:Schema)(q:Query)(t:Ty)(hS:8*zSchema s+1<nf)(hSb:zSchema s<=16777216)(hq:8*zQuery q+2<nf)(hqb:zQuery q<=1048576)(ht:8*zTy t+1<nf)(htb:zTy t<=16777216):Agree (m_Zm nf s q t) (m_Zbh nf s q t):=by
 rw[m_Zm_eq,m_Zbh_eq,p_implSchema nf s hS hSb,cb_some,p_specSchema nf s hS hSb,cb_some,Ty.h_eq,p_implData nf t ht htb,cb_some,p_specData nf t ht htb,cb_some]
 cases hs:nSchema s with
 |false=>exact⟨false,rfl,rfl⟩
 |true=>
  cases hd:(nVal t&& !nHas 5 t)with
  |false=>exact⟨false,rfl,rfl⟩
  |true=>
   simp only[Bool.and_eq_true,Bool.not_eq_true']at hd
   by_cases h4:t.kind=4
   ·have hR:∀x∈s.tables,nVal x.row=true:=fun x hx=>by
     simp only[nSchema,Bool.and_eq_true]at hs
     have:=List.all_eq_true.1 hs.1 x hx
     simp only[nRow,Bool.and_eq_true]at this
     exact this.2.1
    obtain⟨b,e1,e2⟩:=(g_normal nf hn s hS hSb hR nf).2 q t [] hq hq hqb hd.1 hd.2 h4 ⟨fun x hx=>(by cases hx),by simp;omega⟩
    rw[Query.h_eq,e1,e2,cb_some]
    have k4:(t.kind==(4:Int))=true:=by simp[h4]
    rw[k4]
    exact⟨b,rfl,rfl⟩
   ·have k4:(t.kind==(4:Int))=false:=by simp[h4]
    rw[k4]
    exact⟨false,rfl,rfl⟩
end Go.Q
