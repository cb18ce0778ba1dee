/- Typing: both sides find the same type. -/
import Derived.Test.YtmkelbchboiliaaGreatV6p
set_option linter.unusedVariables false
set_option linter.unusedSimpArgs false
set_option maxHeartbeats 2000000
namespace Go.Q
def formO(s:Schema)(d:Nat)(ctx:List Typing)(e:Tm):Option Ty:=
  if e.kind=1 then okO (lookN e.name ctx ctx.length)
  else if e.kind=2 then some tInt
  else if e.kind=3 then some tBool
  else if e.kind=12 then(rowO e.name s.tables).map tBag
  else if e.kind=7 then some (tBag e.type)
  else if e.kind=10 then(nT s d ctx (gt e.args (0:Int) Tm.zero)).bind fun a=>if a.kind=4 then(nT s d (ctx++[⟨e.name,gt a.args (0:Int) Ty.zero⟩]) (gt e.args (1:Int) Tm.zero)).bind fun b=>whenO (b.kind==4) b else none
  else if e.kind=13 then(nT s d (ctx++[⟨e.name,e.type⟩]) (gt e.args (0:Int) Tm.zero)).map fun b=>.mk 5 [] [e.type,b]
  else(mapO (nT s d ctx) e.args).bind (nPlain e)
theorem nT_succ(s:Schema)(d:Nat)(ctx:List Typing)(e:Tm):nT s (d+1) ctx e=vO (formO s d ctx e):=rfl
theorem node_kind{e:Tm}(h:nodeOk e=true):e.kind=1∨e.kind=2∨e.kind=3∨e.kind=12∨e.kind=7∨e.kind=10∨e.kind=13∨(e.kind=4∨e.kind=5∨e.kind=6∨e.kind=8∨e.kind=9∨e.kind=11∨e.kind=14∨e.kind=15∨e.kind=16):=by
 have hO:=node_ok h
 by_cases hk:e.kind=1∨e.kind=2∨e.kind=3∨e.kind=12∨e.kind=7∨e.kind=10∨e.kind=13∨(e.kind=4∨e.kind=5∨e.kind=6∨e.kind=8∨e.kind=9∨e.kind=11∨e.kind=14∨e.kind=15∨e.kind=16)
 ·exact hk
 ·exfalso
  simp only[not_or]at hk
  obtain⟨k1,k2,k3,k12,k7,k10,k13,k4,k5,k6,k8,k9,k11,k14,k15,k16⟩:=hk
  unfold shp at hO
  simp[k1,k2,k3,k12,k7,k10,k13,k4,k5,k6,k8,k9,k11,k14,k15,k16]at hO
theorem node_type{e:Tm}(h:nodeOk e=true)(hk:e.kind=7∨e.kind=13):nVal e.type=true:=by
 have e1:(shp e).2.2.1=true:=by rcases hk with hk|hk<;>(unfold shp;rw[hk];rfl)
 unfold nodeOk at h
 simp only[Bool.and_eq_true]at h
 have:=h.2.2.2.2.2
 rwa[if_pos e1]at this
theorem mapO_len{f:Tm->Option Ty}:∀ {es:List Tm} {ts:List Ty},mapO f es=some ts->ts.length=es.length
 | [],ts,h=>by cases h;rfl
 |e::es,ts,h=>by
  simp only[mapO,Option.bind_eq_some_iff,Option.map_eq_some_iff]at h
  obtain⟨x,_,xs,h2,rfl⟩:=h
  simp[mapO_len h2]
theorem mapO_val{f:Tm->Option Ty}(hf:∀e t,f e=some t->nVal t=true):∀ {es:List Tm} {ts:List Ty},mapO f es=some ts->∀t∈ts,nVal t=true
 | [],ts,h=>by cases h;intro t ht;cases ht
 |e::es,ts,h=>by
  simp only[mapO,Option.bind_eq_some_iff,Option.map_eq_some_iff]at h
  obtain⟨x,h1,xs,h2,rfl⟩:=h
  intro t ht
  rcases List.mem_cons.1 ht with rfl|ht
  ·exact hf _ _ h1
  ·exact mapO_val hf h2 t ht
theorem mapO_snoc(f:Tm->Option Ty)(x:Tm):∀es:List Tm,mapO f (es++[x])=(mapO f es).bind fun ys=>(f x).map fun y=>ys++[y]
 | []=>by simp only[List.nil_append,mapO];cases f x<;>rfl
 |e::es=>by
  simp only[List.cons_append,mapO,mapO_snoc f x es]
  cases f e with
  |none=>rfl
  |some a=>
   cases mapO f es with
   |none=>rfl
   |some ys=>cases f x<;>rfl
theorem mapO_take(f:Tm->Option Ty)(es:List Tm){i:Nat}(h:i<es.length):mapO f (es.take (i+1))=(mapO f (es.take i)).bind fun ys=>(f (gt es (i:Int) Tm.zero)).map fun y=>ys++[y]:=by
 rw[<-take_gt es h Tm.zero,mapO_snoc]
theorem mapO_none(f:Tm->Option Ty):∀(es:List Tm) {i:Nat},i<es.length->f (gt es (i:Int) Tm.zero)=none->mapO f es=none
 | [],i,h,_=>by simp at h
 |e::es,i,h,hn=>by
  cases i with
  |zero=>
   have:gt (e::es) ((0:Nat):Int) Tm.zero=e:=by simp[gt]
   rw[this]at hn
   simp[mapO,hn]
  |succ i=>
   have e1:gt (e::es) ((i+1:Nat):Int) Tm.zero=gt es (i:Int) Tm.zero:=by simp[gt]
   rw[e1]at hn
   have:=mapO_none f es (by simpa using h) hn
   simp only[mapO,this]
   cases f e<;>rfl
theorem gt_mem{α:Type}(xs:List α){i:Nat}(h:i<xs.length)(z:α):gt xs (i:Int) z∈xs:=by
 rw[gt_at xs i h];exact List.getElem_mem h
theorem rowO_some{name:Str}{t:Ty}:∀ {ts:List TDecl},rowO name ts=some t->∃x∈ts,x.row=t
 | [],h=>by cases h
 |x::ts,h=>by
  simp only[rowO]at h
  split at h
  ·cases h;exact⟨x,List.mem_cons_self ..,rfl⟩
  ·obtain⟨y,h1,h2⟩:=rowO_some h
   exact⟨y,List.mem_cons_of_mem _ h1,h2⟩
theorem zBag(t:Ty):zTy (tBag t)=1+zTy t:=by
 rw[zTy_f];simp[tBag,Ty.labels,Ty.args,szL]
theorem szL_val:∀(ts:List Ty),(∀t∈ts,nVal t=true)->szL zTy ts<=528*ts.length
 | [],_=>by simp[szL]
 |t::ts,h=>by
  have h1:=val_z (h t (List.mem_cons_self ..))
  have h2:=szL_val ts fun u hu=>h u (List.mem_cons_of_mem _ hu)
  simp only[szL,List.length_cons,List.map_cons,List.sum_cons]at*
  omega
structure Cx (ctx:List Typing) (d:Nat):Prop where
 len:ctx.length+d<=8000000
 val:∀i,i<ctx.length->nVal (gt ctx (i:Int) Typing.zero).type=true
theorem Cx.snoc{ctx:List Typing}{d:Nat}(h:Cx ctx (d+1))(n:Str){t:Ty}(ht:nVal t=true):Cx (ctx++[⟨n,t⟩]) d:=by
 refine⟨by have:=h.len;simp;omega,fun i hi=> ?_⟩
 simp only[List.length_append,List.length_singleton]at hi
 by_cases e:i<ctx.length
 ·have:gt (ctx++[⟨n,t⟩]) (i:Int) Typing.zero=gt ctx (i:Int) Typing.zero:=by
   rw[gt_at _ i (by simp;omega),gt_at ctx i e,List.getElem_append_left]
  rw[this];exact h.val i e
 ·have hi':i=ctx.length:=by omega
  subst hi'
  have:gt (ctx++[(⟨n,t⟩:Typing)]) (ctx.length:Int) Typing.zero=⟨n,t⟩:=by
   rw[gt_at _ ctx.length (by simp)];simp
  rw[this];exact ht
theorem whenO_some{b:Bool}{t u:Ty}(h:whenO b t=some u):b=true∧t=u:=by
 unfold whenO at h
 split at h
 ·cases h;exact⟨by assumption,rfl⟩
 ·cases h
theorem plain_z{e:Tm}{t:List Ty}{u:Ty}(hN:nodeOk e=true)(hl:t.length=e.args.length)(hv:∀x∈t,nVal x=true)(h:nPlain e t=some u):zTy u<=5000:=by
 have hL:=node_len hN
 have hO:=node_ok hN
 have hg:∀i:Nat,i<t.length->nVal (gt t (i:Int) Ty.zero)=true:=fun i hi=>hv _ (gt_mem t hi _)
 have z0:((0:Nat):Int)=0:=rfl
 have z1:((1:Nat):Int)=1:=rfl
 unfold nPlain at h
 by_cases k4:e.kind=4
 ·rw[if_pos k4]at h
  obtain⟨_,rfl⟩:=whenO_some h
  rw[zTy_f];simp[Ty.labels,Ty.args,szL]
 rw[if_neg k4]at h
 by_cases k5:e.kind=5
 ·rw[if_pos k5]at h
  cases h
  have e1:shp e=((e.labels.length:Int),false,false,nLab e.labels):=by unfold shp;rw[k5];rfl
  rw[e1]at hL hO
  simp only at hL hO
  have h1:=lab_z hO
  have h2:=szL_val t hv
  have hlb:e.labels.length<=4:=by simp only[nLab,Bool.and_eq_true,decide_eq_true_eq]at hO;omega
  rw[zTy_f]
  simp only[Ty.labels_mk,Ty.args_mk]
  omega
 rw[if_neg k5]at h
 have l1:e.kind=6∨e.kind=8∨e.kind=9∨e.kind=11∨e.kind=14∨e.kind=15∨e.kind=16->1<=t.length:=fun hk=>by
  have:1<=(shp e).1:=by rcases hk with hk|hk|hk|hk|hk|hk|hk<;>(unfold shp;simp[hk])
  omega
 by_cases k6:e.kind=6
 ·rw[if_pos k6]at h
  have:=val_z (field_z h)
  omega
 rw[if_neg k6]at h
 by_cases k8:e.kind=8
 ·rw[if_pos k8]at h
  cases h
  have:=val_z (hg 0 (by have:=l1 (by simp[k8]);omega))
  rw[z0]at this
  rw[zBag];omega
 rw[if_neg k8]at h
 by_cases k9:e.kind=9
 ·rw[if_pos k9]at h
  obtain⟨_,rfl⟩:=whenO_some h
  have:=val_z (hg 0 (by have:=l1 (by simp[k9]);omega))
  rw[z0]at this
  omega
 rw[if_neg k9]at h
 by_cases k11:e.kind=11
 ·rw[if_pos k11]at h
  obtain⟨_,rfl⟩:=whenO_some h
  have e1:(shp e).1=3:=by unfold shp;rw[k11];rfl
  have:=val_z (hg 1 (by omega))
  rw[z1]at this
  omega
 rw[if_neg k11]at h
 by_cases k14:e.kind=14
 ·rw[if_pos k14]at h
  obtain⟨hb,rfl⟩:=whenO_some h
  simp only[Bool.and_eq_true,beq_iff_eq]at hb
  have h0:=hg 0 (by have:=l1 (by simp[k14]);omega)
  rw[z0]at h0
  have hla:=form_fun (val_form h0) hb.1
  have:=val_z (val_at h0 (i:=1) (by omega))
  rw[z1]at this
  omega
 rw[if_neg k14]at h
 by_cases k15:e.kind=15
 ·rw[if_pos k15]at h
  obtain⟨_,rfl⟩:=whenO_some h
  rw[zTy_f];simp[tBool,Ty.labels,Ty.args,szL]
 rw[if_neg k15]at h
 by_cases k16:e.kind=16
 ·rw[if_pos k16]at h
  obtain⟨_,rfl⟩:=whenO_some h
  rw[zTy_f];simp[tInt,Ty.labels,Ty.args,szL]
 rw[if_neg k16]at h
 cases h
theorem form_bd{s:Schema}{d:Nat}{ctx:List Typing}{e:Tm}{t:Ty}(hR:∀x∈s.tables,nVal x.row=true)(hC:∀i,i<ctx.length->nVal (gt ctx (i:Int) Typing.zero).type=true)(hN:nodeOk e=true)(h:formO s d ctx e=some t):zTy t<=5000:=by
 unfold formO at h
 by_cases k1:e.kind=1
 ·rw[if_pos k1]at h
  obtain⟨i,hi,rfl⟩:=lookN_some (Nat.le_refl _) h
  have:=val_z (hC i hi)
  omega
 rw[if_neg k1]at h
 by_cases k2:e.kind=2
 ·rw[if_pos k2]at h
  cases h
  rw[zTy_f];simp[tInt,Ty.labels,Ty.args,szL]
 rw[if_neg k2]at h
 by_cases k3:e.kind=3
 ·rw[if_pos k3]at h
  cases h
  rw[zTy_f];simp[tBool,Ty.labels,Ty.args,szL]
 rw[if_neg k3]at h
 by_cases k12:e.kind=12
 ·rw[if_pos k12]at h
  simp only[Option.map_eq_some_iff]at h
  obtain⟨u,hu,rfl⟩:=h
  obtain⟨x,hx,rfl⟩:=rowO_some hu
  have:=val_z (hR x hx)
  rw[zBag];omega
 rw[if_neg k12]at h
 by_cases k7:e.kind=7
 ·rw[if_pos k7]at h
  cases h
  have:=val_z (node_type hN (.inl k7))
  rw[zBag];omega
 rw[if_neg k7]at h
 by_cases k10:e.kind=10
 ·rw[if_pos k10]at h
  simp only[Option.bind_eq_some_iff]at h
  obtain⟨a,ha,h⟩:=h
  split at h
  ·simp only[Option.bind_eq_some_iff]at h
   obtain⟨b,hb,h⟩:=h
   obtain⟨_,rfl⟩:=whenO_some h
   have:=val_z (nT_val hb)
   omega
  ·cases h
 rw[if_neg k10]at h
 by_cases k13:e.kind=13
 ·rw[if_pos k13]at h
  simp only[Option.map_eq_some_iff]at h
  obtain⟨b,hb,rfl⟩:=h
  have h1:=val_z (nT_val hb)
  have h2:=val_z (node_type hN (.inr k13))
  rw[zTy_f]
  simp only[Ty.labels_mk,Ty.args_mk,szL,List.length_cons,List.length_nil,List.map_cons,List.map_nil,List.sum_cons,List.sum_nil]
  omega
 rw[if_neg k13]at h
 simp only[Option.bind_eq_some_iff]at h
 obtain⟨ts,hts,h⟩:=h
 exact plain_z hN (mapO_len hts) (mapO_val (fun e t h=>nT_val h) hts) h
theorem p_with(nf:Nat)(ctx:List Typing)(n:Str)(t:Ty)(h:ctx.length<=8000000):m_ZZ nf ctx n t=some (ctx++[⟨n,t⟩]):=by
 have hd:List.drop (Int.toNat (0:Int)) (List.take (Int.toNat (List.length ctx:Int)) ctx)=ctx:=by simp
 rw[m_ZZ_eq,m_ZaO_eq,gg_pos (by omega),hd,cb_some,gg_pos (by simp;omega),Ty.h_eq]
theorem p_l10With(nf:Nat)(ctx:List Typing)(n:Str)(t:Ty)(h:ctx.length<=8000000):m_Zbu nf ctx n t=some (ctx++[⟨n,t⟩]):=by
 rw[m_Zbu_eq,gg_pos (by omega),gg_pos (by simp;omega),Ty.h_eq]
theorem all_impl(nf k:Nat)(y:Typer)(ctx:List Typing)(e:Tm)(f:Tm->Option Ty)(hof:∀i,i<e.args.length->∃r,m_ZX nf k y ctx (gt e.args (i:Int) Tm.zero)=some r∧Ans r (f (gt e.args (i:Int) Tm.zero)))(hl:e.args.length+1<nf)(hb:e.args.length<=16777216):
  ∃r,m_ZV nf (k+1) y ctx e=some r∧(r.2=(mapO f e.args).isSome∧∀l,mapO f e.args=some l->r.1=l):=by
 rw[m_ZV_eq,mark_eq]
 refine for_rel (fun m i (s:List Ty)=>l8_ZV nf (k+1) m y ctx e i s) e.args.length (fun i s=>mapO f (e.args.take i)=some s) _ (fun m i s hi hI=> ?_) (fun m s hI=> ?_) nf [] (by omega) rfl
 ·have c0:(i:Int)<(e.args.length:Int):=by omega
  have c1:0<=(i:Int)∧(i:Int)<(e.args.length:Int):=by omega
  obtain⟨r,e1,h1,h2⟩:=hof i hi
  have hlen:=mapO_len hI
  rw[List.length_take]at hlen
  simp only[l8_ZV_eq,br_pos c0,gg_pos c1,e1,cb_some,mark_eq,w64_nat (n:=i) (by omega),Ty.h_eq]
  cases hf:f (gt e.args (i:Int) Tm.zero)with
  |none=>
   rw[hf]at h1
   refine .inl ⟨([],false),by rw[h1];rfl,?_⟩
   rw[mapO_none f e.args hi hf]
   exact⟨rfl,fun _ h=>by cases h⟩
  |some t=>
   rw[hf]at h1 h2
   refine .inr ⟨s++[t],?_,?_⟩
   ·rw[mapO_take f e.args hi,hI,hf];rfl
   ·rw[h1,h2 t rfl]
    simp only[Option.isSome,Bool.not_true,br_false]
    rw[gg_pos (by simp;omega)]
 ·have c0:¬(e.args.length:Int)<(e.args.length:Int):=by omega
  rw[List.take_length]at hI
  refine⟨(s,true),by rw[l8_ZV_eq,br_neg c0],?_⟩
  rw[hI]
  exact⟨rfl,fun _ h=>by cases h;rfl⟩
theorem T_impl(nf:Nat)(hn:200000000<nf)(s:Schema)(hS:8*zSchema s+1<nf)(hSb:zSchema s<=16777216)(hR:∀x∈s.tables,nVal x.row=true):
  ∀(d kf:Nat) (ctx:List Typing) (e:Tm),3*d+3<=kf->nDepT e<=d->Cx ctx d->nFormT e=true->8*zTm e+1<nf->zTm e<=16777216->∃r,m_ZX nf kf (Typer.mk s) ctx e=some r∧Ans r (nT s d ctx e)
 |0,kf,ctx,e,_,hd,_,_,_,_=>by
  have:=nDepT_eq e
  omega
 |d+1,kf0,ctx,e,hk,hd,hC,hF,hz,hzb=>by
  obtain⟨k,rfl⟩:∃k,kf0=k+3:=⟨kf0-3,by omega⟩
  have hde:=nDepT_eq e
  have hze:=zTm_f e
  have hlen:=zTm_len e
  rw[nFormT_eq,Bool.and_eq_true]at hF
  obtain⟨hN,hA⟩:=hF
  have hL:=node_len hN
  have ih:∀(kf:Nat) (ctx:List Typing) (i:Nat),i<e.args.length->3*d+3<=kf->Cx ctx d->∃r,m_ZX nf kf (Typer.mk s) ctx (gt e.args (i:Int) Tm.zero)=some r∧Ans r (nT s d ctx (gt e.args (i:Int) Tm.zero)):=fun kf ctx i hi hkf hc=>by
   have h1:=nDepTL_at e.args hi
   have h2:=zTm_at e hi
   exact T_impl nf hn s hS hSb hR d kf ctx _ hkf (by omega) hc (all_at hA hi Tm.zero) (by omega) (by omega)
  have hC0:Cx ctx d:=⟨by have:=hC.len;omega,hC.val⟩
  have hcl:ctx.length<=8000000:=by have:=hC.len;omega
  have z0:((0:Nat):Int)=0:=rfl
  have z1:((1:Nat):Int)=1:=rfl
  have hform:∃r,m_ZW nf (k+2) (Typer.mk s) ctx e=some r∧Ans r (formO s d ctx e):=by
   rcases node_kind hN with hk|hk|hk|hk|hk|hk|hk|hk
   ·have hp:formO s d ctx e=(okO (lookN e.name ctx ctx.length)):=by unfold formO;rw[hk];rfl
    rw[m_ZW_eq,hk,hp]
    simp only[show((1:Int)==(1:Int))=true from rfl,show((1:Int)==(2:Int))=false from rfl,show((1:Int)==(3:Int))=false from rfl,show((1:Int)==(12:Int))=false from rfl,show((1:Int)==(7:Int))=false from rfl,show((1:Int)==(10:Int))=false from rfl,show((1:Int)==(13:Int))=false from rfl,br_true,br_false]
    rw[show m_ZE nf ctx e.name=some (lookN e.name ctx ctx.length)from rfl,cb_some,Ty.h_eq]
    generalize lookN e.name ctx ctx.length=r
    obtain⟨t,b⟩:=r
    exact⟨_,rfl,whenO_ans b t⟩
   ·have hp:formO s d ctx e=(some tInt):=by unfold formO;rw[hk];rfl
    rw[m_ZW_eq,hk,hp]
    simp only[show((2:Int)==(1:Int))=false from rfl,show((2:Int)==(2:Int))=true from rfl,show((2:Int)==(3:Int))=false from rfl,show((2:Int)==(12:Int))=false from rfl,show((2:Int)==(7:Int))=false from rfl,show((2:Int)==(10:Int))=false from rfl,show((2:Int)==(13:Int))=false from rfl,br_true,br_false]
    rw[m_ZF_eq,cb_some,Ty.h_eq]
    exact⟨_,rfl,rfl,fun _ h=>by cases h;rfl⟩
   ·have hp:formO s d ctx e=(some tBool):=by unfold formO;rw[hk];rfl
    rw[m_ZW_eq,hk,hp]
    simp only[show((3:Int)==(1:Int))=false from rfl,show((3:Int)==(2:Int))=false from rfl,show((3:Int)==(3:Int))=true from rfl,show((3:Int)==(12:Int))=false from rfl,show((3:Int)==(7:Int))=false from rfl,show((3:Int)==(10:Int))=false from rfl,show((3:Int)==(13:Int))=false from rfl,br_true,br_false]
    rw[m_Zz_eq,cb_some,Ty.h_eq]
    exact⟨_,rfl,rfl,fun _ h=>by cases h;rfl⟩
   ·have hp:formO s d ctx e=((rowO e.name s.tables).map tBag):=by unfold formO;rw[hk];rfl
    rw[m_ZW_eq,hk,hp]
    simp only[show((12:Int)==(1:Int))=false from rfl,show((12:Int)==(2:Int))=false from rfl,show((12:Int)==(3:Int))=false from rfl,show((12:Int)==(12:Int))=true from rfl,show((12:Int)==(7:Int))=false from rfl,show((12:Int)==(10:Int))=false from rfl,show((12:Int)==(13:Int))=false from rfl,br_true,br_false]
    rw[p_implRowType nf s e.name hS hSb,cb_some,p_implBag,cb_some,Ty.h_eq,Ty.h_eq]
    refine⟨_,rfl,?_⟩
    cases rowO e.name s.tables with
    |none=>exact ans_false _
    |some u=>exact⟨rfl,fun _ h=>by cases h;rfl⟩
   ·have hp:formO s d ctx e=(some (tBag e.type)):=by unfold formO;rw[hk];rfl
    rw[m_ZW_eq,hk,hp]
    simp only[show((7:Int)==(1:Int))=false from rfl,show((7:Int)==(2:Int))=false from rfl,show((7:Int)==(3:Int))=false from rfl,show((7:Int)==(12:Int))=false from rfl,show((7:Int)==(7:Int))=true from rfl,show((7:Int)==(10:Int))=false from rfl,show((7:Int)==(13:Int))=false from rfl,br_true,br_false]
    rw[p_implBag,cb_some,Ty.h_eq]
    exact⟨_,rfl,rfl,fun _ h=>by cases h;rfl⟩
   ·have hp:formO s d ctx e=((nT s d ctx (gt e.args (0:Int) Tm.zero)).bind fun a=>if a.kind=4 then(nT s d (ctx++[⟨e.name,gt a.args (0:Int) Ty.zero⟩]) (gt e.args (1:Int) Tm.zero)).bind fun b=>whenO (b.kind==4) b else none):=by unfold formO;rw[hk];rfl
    rw[m_ZW_eq,hk,hp]
    simp only[show((10:Int)==(1:Int))=false from rfl,show((10:Int)==(2:Int))=false from rfl,show((10:Int)==(3:Int))=false from rfl,show((10:Int)==(12:Int))=false from rfl,show((10:Int)==(7:Int))=false from rfl,show((10:Int)==(10:Int))=true from rfl,show((10:Int)==(13:Int))=false from rfl,br_true,br_false]
    have e1:(shp e).1=2:=by unfold shp;rw[hk];rfl
    have c0:0<=(0:Int)∧(0:Int)<(e.args.length:Int):=by omega
    have c1:0<=(1:Int)∧(1:Int)<(e.args.length:Int):=by omega
    obtain⟨r,er,h1,h2⟩:=ih (k+1) ctx 0 (by omega) (by omega) hC0
    rw[z0]at er h1 h2
    rw[gg_pos c0,er,cb_some]
    have h46:∀b,j46_ZW nf (k+2) (Typer.mk s) ctx e r b=(if b=true then some (Ty.mk (0:Int) ([]:List Str) ([]:List Ty),false)else j46_ZW nf (k+2) (Typer.mk s) ctx e r false):=fun b=>by
     cases b
     ·rfl
     ·rw[j46_ZW_eq,br_true];rfl
    cases ha:nT s d ctx (gt e.args (0:Int) Tm.zero)with
    |none=>
     rw[ha]at h1
     rw[h1,show(!(none:Option Ty).isSome)=true from rfl,br_tf,mark_eq,h46,if_pos rfl]
     exact⟨_,rfl,ans_false _⟩
    |some a=>
     rw[ha]at h1 h2
     have hva:=nT_val ha
     have h3:=h2 a rfl
     rw[h1,show(!(some a:Option Ty).isSome)=false from rfl,br_ff2,h3,mark_eq]
     simp only[Option.bind_some]
     by_cases h4:a.kind=4
     ·have hl1:=form_bag (val_form hva) h4
      have d0:0<=(0:Int)∧(0:Int)<(a.args.length:Int):=by omega
      have hv0:=val_at hva (i:=0) (by omega)
      rw[z0]at hv0
      have h4b:(!(a.kind==(4:Int)))=false:=by simp[h4]
      obtain⟨r2,er2,g1,g2⟩:=ih (k+1) (ctx++[⟨e.name,gt a.args (0:Int) Ty.zero⟩]) 1 (by omega) (by omega) (hC.snoc e.name hv0)
      rw[z1]at er2 g1 g2
      rw[if_pos h4,h4b,j46_ZW_eq,br_false,h3,gg_pos d0,p_with nf ctx e.name _ hcl,cb_some,gg_pos c1,er2,cb_some]
      simp only[j55_ZW_eq,mark_eq,Ty.h_eq]
      cases hb:nT s d (ctx++[⟨e.name,gt a.args (0:Int) Ty.zero⟩]) (gt e.args (1:Int) Tm.zero)with
      |none=>
       rw[hb]at g1
       rw[g1]
       exact⟨_,rfl,ans_false _⟩
      |some b=>
       rw[hb]at g1 g2
       rw[g1,g2 b rfl]
       exact⟨_,rfl,whenO_ans _ _⟩
     ·have h4b:(!(a.kind==(4:Int)))=true:=by simp[h4]
      rw[if_neg h4,h4b,h46,if_pos rfl]
      exact⟨_,rfl,ans_false _⟩
   ·have hp:formO s d ctx e=((nT s d (ctx++[⟨e.name,e.type⟩]) (gt e.args (0:Int) Tm.zero)).map fun b=>.mk 5 [] [e.type,b]):=by unfold formO;rw[hk];rfl
    rw[m_ZW_eq,hk,hp]
    simp only[show((13:Int)==(1:Int))=false from rfl,show((13:Int)==(2:Int))=false from rfl,show((13:Int)==(3:Int))=false from rfl,show((13:Int)==(12:Int))=false from rfl,show((13:Int)==(7:Int))=false from rfl,show((13:Int)==(10:Int))=false from rfl,show((13:Int)==(13:Int))=true from rfl,br_true,br_false]
    have e1:(shp e).1=1:=by unfold shp;rw[hk];rfl
    have c0:0<=(0:Int)∧(0:Int)<(e.args.length:Int):=by omega
    obtain⟨r,er,h1,h2⟩:=ih (k+1) (ctx++[⟨e.name,e.type⟩]) 0 (by omega) (by omega) (hC.snoc e.name (node_type hN (.inr hk)))
    rw[z0]at er h1 h2
    rw[p_with nf ctx e.name _ hcl,cb_some,gg_pos c0,er,cb_some,Ty.h_eq]
    refine⟨_,rfl,?_⟩
    cases hb:nT s d (ctx++[⟨e.name,e.type⟩]) (gt e.args (0:Int) Tm.zero)with
    |none=>rw[hb]at h1;exact⟨h1,fun _ h=>by cases h⟩
    |some b=>
     rw[hb]at h1 h2
     exact⟨h1,fun _ h=>by cases h;rw[h2 b rfl]⟩
   ·have hp:formO s d ctx e=(mapO (nT s d ctx) e.args).bind (nPlain e):=by
     unfold formO
     rcases hk with hk|hk|hk|hk|hk|hk|hk|hk|hk<;>(rw[hk];rfl)
    have hm:m_ZW nf (k+2) (Typer.mk s) ctx e=cb (m_ZV nf (k+1) (Typer.mk s) ctx e) fun r143=>br (!r143.2) (some ((Ty.mk (0:Int) ([]:List Str) ([]:List Ty)),false)) (cb (m_ZY nf (Typer.mk s) e r143.1) fun r152=>some ((Ty.h r152.1),r152.2)):=by
     rw[m_ZW_eq]
     rcases hk with hk|hk|hk|hk|hk|hk|hk|hk|hk<;>(rw[hk];rfl)
    obtain⟨r,er,h1,h2⟩:=all_impl nf k (Typer.mk s) ctx e (nT s d ctx) (fun i hi=>ih k ctx i hi (by omega) hC0) (by omega) (by omega)
    rw[hm,er,cb_some,hp]
    cases hts:mapO (nT s d ctx) e.args with
    |none=>
     rw[hts]at h1
     rw[h1]
     exact⟨_,rfl,ans_false _⟩
    |some ts=>
     rw[hts]at h1 h2
     have hv:=mapO_val (fun e t h=>nT_val h) hts
     obtain⟨q,eq,hq⟩:=p_implPlain nf (Typer.mk s) e ts hN (mapO_len hts) (fun i hi=>hv _ (gt_mem ts hi _)) hk (by omega) hn
     rw[h1,h2 ts rfl,eq,cb_some,Ty.h_eq]
     exact⟨_,rfl,hq⟩
  obtain⟨r,er,h1,h2⟩:=hform
  have hN':=hN
  rw[nT_succ,m_ZX_eq,er,cb_some]
  cases hf:formO s d ctx e with
  |none=>
   rw[hf]at h1
   rw[h1]
   exact⟨_,rfl,ans_false _⟩
  |some t=>
   rw[hf]at h1 h2
   have hb:=form_bd hR hC.val hN' hf
   have h3:=h2 t rfl
   rw[h1,h3,Ty.h_eq,p_implValid nf t (by omega) (by omega),cb_some]
   exact⟨_,rfl,whenO_ans _ _⟩
end Go.Q
