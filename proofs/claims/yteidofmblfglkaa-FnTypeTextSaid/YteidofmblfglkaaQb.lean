/- Steps that write, and calls: for every program of the model. -/
import Derived.Test.YteidofmblfglkaaQa
import Derived.Laws.OwnMore
import Derived.Laws.AppendOwn
import Derived.Laws.Tables
import Derived.Laws.StructEq
import Derived.Laws.BytesString
import Derived.Laws.Strings2
import Derived.Laws.Strings3
import Derived.Laws.Slices
set_option linter.unusedVariables false
set_option linter.unusedSimpArgs false
namespace Go.Q
mutual
theorem refs_false:∀(a:AV),a.refs (fun _=>false)=false
 | .v _ _=>rfl
 | .sl _| .pt _ _| .ep _ _ _ _=>rfl
 | .ag _ ls=>refsL_false ls
 | .fn _ cs=>refsL_false cs
 | .tu vs=>refsL_false vs
 | .nl _=>rfl
 | .cl _ _=>rfl
 | .mp _=>rfl
 | .ls _ _ _=>rfl
 | .no=>rfl
 | .ud=>rfl
theorem refsL_false:∀(as:List AV),refsL (fun _=>false) as=false
 | []=>rfl
 |a::as=>by simp[refsL,refs_false a,refsL_false as]
end
section
variable {F:Nat->Prop} {w:World}
theorem K_one:∀ {d:Nat} {c:Ki} {x:c.T} {v:List Value},K F w d c x v->∀u∈v,u.oneCell'=true:=by
 intro d
 induction d with
 |zero=>intro c x v h;exact h.elim
 |succ d ih=>
  intro c x v h
  cases c with
  |int k=>simp only[K]at h;simp[h.1,Value.oneCell']
  |bool=>simp only[K]at h;simp[h,Value.oneCell']
  |str=>simp only[K]at h;simp[h.1,Value.oneCell']
  |slice c=>obtain⟨A,cap,rfl,_⟩:=h;simp[Value.oneCell']
  |struct n=>
   simp only[K]at h
   have key:∀(cs:List Ki) (x:HL cs) (v:List Value),HAll (K F w d) cs x v->∀u∈v,u.oneCell'=true:=by
    intro cs
    induction cs with
    |nil=>intro x v h;cases h;simp
    |cons c cs ihc=>
     intro x v ⟨a,b,e,hl,hp,hr⟩ u hu
     subst e
     rcases List.mem_append.1 hu with hu|hu
     ·exact ih hp u hu
     ·exact ihc x.2 b hr u hu
   exact key _ _ _ h
  |ptr c=>
   cases x with
   |none=>simp only[K,PtrK]at h;simp[h,Value.oneCell']
   |some x=>obtain⟨ad,es,rfl,_⟩:=h;simp[Value.oneCell']
end
section
variable {P:Program} {S:FuncId->List SA->RA->Prop} {N:Nat} {G:Gd} {σ:Lab->Value} {ow:Own} {w:World} {a:Act} {Γ:Env} {K:Env->Prop} {Q:Exit->Act->World->Prop} {o:Oper} {F:Nat->Prop}
theorem lv_rep:∀(f:Nat) (cs:List Ki) (x:HL cs) (v:List Value),fok f cs=true->HAll (Kx F w) cs x v->RepCs σ F w (lv f cs x) v
 |0,_,_,_,h,_=>by simp[fok]at h
 |_+1,[],_,_,_,h=>by cases h;simp[lv,RepCs]
 |f+1,.struct n::cs,x,v,h,⟨a,b,e,hl,hp,hr⟩=>by
  subst e
  simp only[fok,Bool.and_eq_true]at h
  exact(lv_rep f _ _ _ h.1 (Kx_struct.1 hp)).append (lv_rep f cs _ _ h.2 hr)
 |f+1,.int k::cs,x,v,h,⟨a,b,e,hl,hp,hr⟩=>by
  subst e
  obtain⟨u,rfl⟩:∃u,a=[u]:=List.length_eq_one_iff.1 hl
  simp only[lv,RepCs,RepC]
  exact⟨u,b,rfl,hp,lv_rep f cs _ _ (by simpa[fok]using h) hr⟩
 |f+1,.bool::cs,x,v,h,⟨a,b,e,hl,hp,hr⟩=>by
  subst e
  obtain⟨u,rfl⟩:∃u,a=[u]:=List.length_eq_one_iff.1 hl
  simp only[lv,RepCs,RepC]
  exact⟨u,b,rfl,hp,lv_rep f cs _ _ (by simpa[fok]using h) hr⟩
 |f+1,.str::cs,x,v,h,⟨a,b,e,hl,hp,hr⟩=>by
  subst e
  obtain⟨u,rfl⟩:∃u,a=[u]:=List.length_eq_one_iff.1 hl
  simp only[lv,RepCs,RepC]
  exact⟨u,b,rfl,hp,lv_rep f cs _ _ (by simpa[fok]using h) hr⟩
 |f+1,.slice c::cs,x,v,h,⟨a,b,e,hl,hp,hr⟩=>by
  subst e
  obtain⟨u,rfl⟩:∃u,a=[u]:=List.length_eq_one_iff.1 hl
  simp only[lv,RepCs,RepC]
  exact⟨u,b,rfl,hp,lv_rep f cs _ _ (by simpa[fok]using h) hr⟩
 |f+1,.ptr c::cs,x,v,h,⟨a,b,e,hl,hp,hr⟩=>by
  subst e
  obtain⟨u,rfl⟩:∃u,a=[u]:=List.length_eq_one_iff.1 hl
  simp only[lv,RepCs,RepC]
  exact⟨u,b,rfl,hp,lv_rep f cs _ _ (by simpa[fok]using h) hr⟩
theorem leaf_one{x:AV}{u:Value}(hs:x.stor=true)(hl:x.leaf=true)(h:RepC σ F w x [u]):u.cells= #[u]∧u.oneCell'=true:=by
 have hc:∀v:Value,v.oneCell'=true->v.cells= #[v]:=fun v hv=>by cases v<;>simp_all[Value.oneCell',Value.cells]
 have h1:u.oneCell'=true:=by
  cases x with
  |v c y=>
   simp only[RepC]at h
   obtain⟨d,h⟩:=h
   exact K_one h u (by simp)
  |sl l=>simp only[RepC]at h;obtain⟨A,n,c,_,e⟩:=h;simp at e;simp[e,Value.oneCell']
  |pt l off=>simp only[RepC]at h;obtain⟨b,_,e⟩:=h;simp at e;simp[e,Value.oneCell']
  |ep l c i off=>simp only[RepC]at h;obtain⟨b,_,_,_,_,e⟩:=h;simp at e;simp[e,Value.oneCell']
  |ag n ls=>simp[AV.leaf]at hl
  |fn f cs=>simp only[RepC]at h;obtain⟨vs,e,_⟩:=h;simp at e;simp[e,Value.oneCell']
  |tu vs=>simp[AV.leaf]at hl
  |nl c=>simp only[RepC]at h;obtain⟨A,e⟩:=h;simp at e;simp[e,Value.oneCell']
  |cl c xs=>simp only[RepC]at h;obtain⟨_,A,e⟩:=h;simp at e;simp[e,Value.oneCell']
  |mp l=>simp only[RepC]at h;obtain⟨g,_,e⟩:=h;simp at e;simp[e,Value.oneCell']
  |ls l c n=>simp only[RepC]at h;obtain⟨g,_,e⟩:=h;simp at e;simp[e,Value.oneCell']
  |no=>simp[AV.stor]at hs
  |ud=>simp[AV.stor]at hs
 exact⟨hc u h1,h1⟩
theorem storL_one:∀ {ls:List AV} {cs:List Value},storL ls=true->RepCs σ F w ls cs->∀u∈cs,u.oneCell'=true
 | [],cs,_,h=>by simp only[RepCs]at h;simp[h]
 |x::xs,cs,hs,h=>by
  simp only[RepCs,storL,Bool.and_eq_true]at h hs
  obtain⟨u,us,rfl,h1,h2⟩:=h
  intro v hv
  rcases List.mem_cons.1 hv with rfl|hv
  ·exact(leaf_one hs.1.2 hs.1.1 h1).2
  ·exact storL_one hs.2 h2 v hv
theorem cells_rep{x:AV}{v:Value}(hs:x.stor=true)(h:RepV σ F w x v):RepCs σ F w (cellsOf x) v.cells.toList∧∀u∈v.cells.toList,u.oneCell'=true:=by
 by_cases hS:x.isS=true
 ·have hU:RepU σ F w x v:=by cases x<;>simp_all[AV.isS,RepV]
  unfold RepU at hU
  rw[if_pos hS]at hU
  obtain⟨cs,rfl,hc⟩:=hU
  cases x with
  |v c y=>
   cases c<;>simp[AV.isS]at hS
   rename_i n
   simp only[RepC]at hc
   refine⟨by simpa[cellsOf,Value.cells,lvs]using lv_rep 99 _ _ _ (fok99 n) (Kx_struct.1 hc),fun u hu=> ?_⟩
   obtain⟨d,hd⟩:=hc
   exact K_one hd u (by simpa[Value.cells]using hu)
  |ag n ls=>
   simp only[RepC]at hc
   exact⟨by simpa[cellsOf,Value.cells]using hc.2,fun u hu=>storL_one (by simpa[AV.stor]using hs) hc.2 u (by simpa[Value.cells]using hu)⟩
  |_=>simp[AV.isS]at hS
 ·have hS':x.isS=false:=by simpa using hS
  have hleaf:x.leaf=true:=by
   cases x with
   |v c y=>cases c<;>simp_all[AV.leaf,AV.isS]
   |ag n ls=>simp[AV.isS]at hS'
   |tu vs=>simp[AV.stor]at hs
   |_=>rfl
  have hC:RepC σ F w x [v]:=by
   cases x with
   |tu vs=>simp[AV.stor]at hs
   |_=>simp only[RepV,RepU,hS',Bool.false_eq_true,if_false]at h;exact h
  obtain⟨h1,h2⟩:=leaf_one hs hleaf hC
  have hco:cellsOf x=[x]:=by
   cases x with
   |v c y=>cases c<;>simp_all[cellsOf,AV.isS]
   |ag n ls=>simp[AV.isS]at hS'
   |_=>rfl
  rw[hco,h1]
  simp only[RepCs]
  exact⟨⟨v,[],rfl,hC,rfl⟩,by simp[h2]⟩
theorem run_store_at{t:TypeId}{c:Ki}(ht:tk P t c=true){b off:Nat}{cur:Array Value}{e:TypeId}(hg:w.heap[b]? =some (.cells cur e (0,0))){v:Value}(hl:v.cells.size=c.sz)(hfit:off+c.sz<=cur.size)(h1:∀u∈v.cells.toList,u.oneCell'=true):
  (Instr.storeAt t (.pointer (some ⟨b,off,none⟩)) v).run P w= .ok () (w.setRow b (cur.toList.take off++v.cells.toList++cur.toList.drop (off+v.cells.toList.length)).toArray):=by
 have hst:=run_storeCells_at P b off e v.cells.toList 0 cur w hg (by simp[hl];omega) h1
 simp only[Nat.add_zero]at hst
 simp[Instr.storeAt,Instr.sureAddr,storeVar,tk_size ht,hl,hst]
theorem upd_setRow{b:Nat}{l:Lab}(ho:ow b=some l)(cs:Array Value):Upd (fun m=>m==l) ow w ow (w.setRow b cs):=
 ⟨rfl,rfl,rfl,by simp,fun k _ hk=>⟨rfl,setRow_other w b k cs (fun e=>by subst e;have:=hk l ho;simp at this)⟩⟩
theorem Rep.setOb(hr:Rep N G σ ow w a Γ){l:Lab}{ow':Own}{w':World}(hu:Upd (fun m=>m==l) ow w ow' w'){o':Ob}(ho:ObR G σ ow' w' l o')(hpn:o'.pnd G.pb l=true->σ l=G.pin l:=by intro h;cases h):Rep N G σ ow' w' a ⟨Γ.tm,(l,o')::Γ.ob⟩:=by
 refine⟨hr.size,hr.defers,fun t x hx=>(hr.tm t x hx).keep (p:=fun _=>false) (fun _ _=>rfl) hu.fz (refs_false x),fun k q hq=> ?_,hr.own' hu,hr.top' hu,fun k q hq hp=>by
  simp only[lo]at hq
  split at hq
  ·rename_i he;subst he;cases hq;exact hpn hp
  ·exact hr.pin k q hq hp,hr.big⟩
 simp only[lo]at hq
 split at hq
 ·rename_i he;subst he;cases hq;exact ho
 ·rename_i he
  exact(hr.ob k q hq).upd (q:=fun _=>false) hu (fun _ _=>rfl) (by simpa using fun e=>he e.symm) rfl (fun ls _=>refsL_false ls)
theorem put_none(a:Act)(v:Value):a.put none v=a:=rfl
theorem snd_st_box(hr:Rep N G σ ow w a Γ){l off ls x'' y'' t c y}(hop:o.op= .store t x'' y'')(hdst:o.dst=none)(hy:O.m y y''=true)(ht:tk P t c=true)(rx:RepV σ (fz G ow w) w (.pt l off) (a.eval x''))
  (hl:lo Γ.ob l=some (.box ls)) {v:AV} (hev:ev Γ y=some v) (hs:v.stor=true) (hlen:(cellsOf v).length=c.sz) (hfit:off+c.sz<=ls.length) (hk:K ⟨Γ.tm,(l,.box (setAt ls off (cellsOf v)))::Γ.ob⟩):o.wp P a w (Post N G ow w K) Q:=by
 have ry:=ev_rep hr hy hev
 obtain⟨hc,h1⟩:=cells_rep hs ry
 obtain⟨b,e,cs,hsb,hg,hown,hreps⟩:=hr.ob _ _ hl
 obtain⟨b',hs',eu⟩:=RepV_pt.1 rx
 rw[hsb]at hs'
 cases hs'
 have hcl:cs.toList.length=ls.length:=hreps.length
 have hvl:(a.eval y'').cells.toList.length=c.sz:=by rw[hc.length];exact hlen
 have hrun:=run_store_at (w:=w) (c:=c) (off:=off) ht hg (v:=a.eval y'') (by simpa using hvl) (by simp at hcl;omega) h1
 refine wp_skip' (w':=w.setRow b (cs.toList.take off++(a.eval y'').cells.toList++cs.toList.drop (off+(a.eval y'').cells.toList.length)).toArray) (by simp[execOp,hop,eu,hrun]) ?_
 rw[hdst,put_none]
 have hu:Upd (fun m=>m==l) ow w ow (w.setRow b (cs.toList.take off++(a.eval y'').cells.toList++cs.toList.drop (off+(a.eval y'').cells.toList.length)).toArray):=upd_setRow hown _
 refine⟨_,σ,ow,hk,hr.setOb hu ⟨b,e,_,hsb,setRow_heap w b cs _ e _ hg,hown,?_⟩ (fun h=>hr.pin _ _ hl h),hu.ext⟩
 have:=RepCs.setAt off hreps hc (by rw[hvl,hcl];exact hfit)
 simpa using RepCs.keep (p:=fun _=>false) (fun _ _=>rfl) hu.fz (refsL_false _) this
end
end Go.Q
namespace Go.Q
theorem ElemsD.set{α:Type}{sz:Nat}{P:α->List Value->List Nat->Prop}{y:α}{a:List Value}{p:List Nat}(hp:P y a p)(ha:a.length=sz):∀ {xs:List α} {v:List Value} {bs:List Nat} {i:Nat},ElemsD sz P xs v bs->i<xs.length->
  ∃bs',ElemsD sz P (xs.set i y) (v.take (i*sz)++a++v.drop (i*sz+sz)) bs'∧(∀b∈bs',b∈bs∨b∈p)∧(bs.Nodup->p.Nodup->(∀b∈p,b∉bs)->bs'.Nodup)
 | [],_,_,i,_,hi=>absurd hi (by simp)
 |x::xs,v,bs,0,⟨a',b',q,r,e,hl,eb,hq,hr⟩,_=>by
  subst e eb
  refine⟨p++r,?_,fun b hb=> ?_,fun h1 h2 h3=> ?_⟩
  ·refine⟨a,b',p,r,?_,ha,rfl,hp,hr⟩
   simp[<-hl]
  ·rcases List.mem_append.1 hb with h|h
   ·exact .inr h
   ·exact .inl (List.mem_append_right _ h)
  ·rw[List.nodup_append]at h1⊢
   exact⟨h2,h1.2.1,fun x hx z hz e=>h3 x hx (List.mem_append_right _ (e▸hz))⟩
 |x::xs,v,bs,i+1,⟨a',b',q,r,e,hl,eb,hq,hr⟩,hi=>by
  subst e eb
  obtain⟨bs',h1,h2,h3⟩:=ElemsD.set hp ha (i:=i) hr (by simpa using hi)
  refine⟨q++bs',?_,fun b hb=> ?_,fun k1 k2 k3=> ?_⟩
  ·refine⟨a',_,q,bs',?_,hl,rfl,hq,h1⟩
   have e1:(i+1)*sz=a'.length+i*sz:=by rw[Nat.add_mul,hl];omega
   rw[e1,List.take_append,List.take_of_length_le (by omega)]
   have e2:a'.length+i*sz+sz=a'.length+(i*sz+sz):=by omega
   rw[e2,List.drop_append,List.drop_of_length_le (l:=a') (by omega)]
   simp
  ·rcases List.mem_append.1 hb with h|h
   ·exact .inl (List.mem_append_left _ h)
   ·rcases h2 b h with h|h
    ·exact .inl (List.mem_append_right _ h)
    ·exact .inr h
  ·rw[List.nodup_append]at k1⊢
   refine⟨k1.1,h3 k1.2.1 k2 (fun b hb hb'=>k3 b hb (List.mem_append_right _ hb')),fun x hx z hz e=> ?_⟩
   subst e
   rcases h2 x hz with h|h
   ·exact k1.2.2 x hx x h rfl
   ·exact k3 x h (List.mem_append_left _ hx)
def OB(ow:Own)(labs:List Lab)(bs:List Nat):Prop:=∀b∈bs,∃l∈labs,ow b=some l
section
variable {P:Program} {S:FuncId->List SA->RA->Prop} {N:Nat} {G:Gd} {σ:Lab->Value} {ow:Own} {w:World} {a:Act} {Γ:Env} {K:Env->Prop} {Q:Exit->Act->World->Prop} {o:Oper} {F:Nat->Prop}
theorem Dx_flat{c:Ki}(hf:c.flat=true){x:c.T}{v:List Value}(h:Kx F w c x v):Dx w c x v []:=by
 cases c<;>simp[Ki.flat]at hf
 ·obtain⟨h1,h2⟩:=Kx_int.1 h;exact Dx_int.2 ⟨h1,h2,rfl⟩
 ·exact Dx_bool.2 ⟨Kx_bool.1 h,rfl⟩
 ·obtain⟨h1,h2⟩:=Kx_str.1 h;exact Dx_str.2 ⟨h1,h2,rfl⟩
theorem as_eq{c:Ki}{x:AV}{y:c.T}(h:x.as c=some y):x= .v c y:=by
 cases x with
 |v c' z=>
  simp only[AV.as]at h
  split at h
  ·rename_i e;subst e;simpa using h
  ·cases h
 |_=>simp[AV.as]at h
theorem oas_eq{c c':Ki}{d p:Bool}{xs:List c'.T}{y:List c.T}(h:(Ob.row d p c' xs).as c=some y):Ob.row d p c' xs= .row d p c y:=by
 simp only[Ob.as]at h
 split at h
 ·rename_i e;subst e;simp at h;rw[h]
 ·cases h
theorem row_deep{dp:Bool}{c:Ki}{xs:List c.T}{v:Value}{bs:List Nat}(hf:(dp||c.flat)=true)(h:RowO w F dp c xs v bs):RowD w c.sz (Dx w c) xs v bs:=by
 unfold RowO at h
 split at h
 ·exact h
 ·rename_i hd
  have hf':c.flat=true:=by simpa[hd]using hf
  exact h.mono (fun _ _=>rfl) fun x a p _ hp=>by rw[hp.2];exact Dx_flat hf' hp.1
theorem pkOL_rep(hob:∀l q,lo Γ.ob l=some q->ObR G σ ow w l q){c:Ki}{x:AV}{y:c.T}{labs:List Lab}(h:pkOL Γ.ob c x=some (y,labs)){u:Value}(hx:RepC σ F w x [u]):
  ∃bs,Dx w c y [u] bs∧bs.Nodup∧OB ow labs bs:=by
 unfold pkOL at h
 split at h
 ·rename_i c l
  split at h
  ·rename_i dp c' xs hl
   split at h
   ·rename_i hf
    simp only[Option.map_eq_some_iff,Prod.mk.injEq]at h
    obtain⟨y',hy,rfl,rfl⟩:=h
    have e:=oas_eq hy
    simp only[Ob.row.injEq,true_and]at e
    obtain⟨rfl,e⟩:=e
    obtain rfl:=eq_of_heq e
    obtain⟨bs,hrow,hnd,how⟩:=hob _ _ hl
    simp only[RepC]at hx
    obtain⟨A,n,cp,hs,e⟩:=hx
    simp only[List.cons.injEq,and_true]at e
    subst e
    rw[hs]at hrow
    exact⟨bs,Dx_slice.2 ⟨_,rfl,row_deep hf hrow⟩,hnd,fun b hb=>⟨l,by simp,how b hb⟩⟩
   ·cases h
  ·cases h
 ·simp only[Option.some.injEq,Prod.mk.injEq]at h
  obtain⟨rfl,rfl⟩:=h
  simp only[RepC,List.cons.injEq,and_true]at hx
  obtain⟨A,hx⟩:=hx
  subst hx
  exact⟨[],Dx_slice.2 ⟨_,rfl,.inl ⟨⟨_,rfl⟩,rfl,rfl⟩⟩,by simp,fun b hb=>by cases hb⟩
 ·simp only[Option.map_eq_some_iff,Prod.mk.injEq]at h
  obtain⟨y',hy,rfl,rfl⟩:=h
  rw[as_eq hy]at hx
  exact⟨[],Dx_flat rfl hx,by simp,fun b hb=>by cases hb⟩
 ·simp only[Option.map_eq_some_iff,Prod.mk.injEq]at h
  obtain⟨y',hy,rfl,rfl⟩:=h
  rw[as_eq hy]at hx
  exact⟨[],Dx_flat rfl hx,by simp,fun b hb=>by cases hb⟩
 ·simp only[Option.map_eq_some_iff,Prod.mk.injEq]at h
  obtain⟨y',hy,rfl,rfl⟩:=h
  rw[as_eq hy]at hx
  exact⟨[],Dx_flat rfl hx,by simp,fun b hb=>by cases hb⟩
 ·cases h
theorem pkOL_leaf{ob:List (Lab×Ob)}{c:Ki}{x:AV}{r:c.T×List Lab}(h:pkOL ob c x=some r):x.isS=false∧∀vs,x≠ .tu vs:=by
 unfold pkOL at h
 split at h
 ·exact⟨rfl,fun _ e=>by cases e⟩
 ·exact⟨rfl,fun _ e=>by cases e⟩
 ·simp only[Option.map_eq_some_iff]at h
  obtain⟨y',hy,_⟩:=h
  rw[as_eq hy]
  exact⟨rfl,fun _ e=>by cases e⟩
 ·simp only[Option.map_eq_some_iff]at h
  obtain⟨y',hy,_⟩:=h
  rw[as_eq hy]
  exact⟨rfl,fun _ e=>by cases e⟩
 ·simp only[Option.map_eq_some_iff]at h
  obtain⟨y',hy,_⟩:=h
  rw[as_eq hy]
  exact⟨rfl,fun _ e=>by cases e⟩
 ·cases h
theorem OB.append{l1 l2:List Lab}{b1 b2:List Nat}(h1:OB ow l1 b1)(h2:OB ow l2 b2):OB ow (l1++l2) (b1++b2):=fun b hb=>by
 rcases List.mem_append.1 hb with h|h
 ·obtain⟨l,hl,e⟩:=h1 b h;exact⟨l,List.mem_append_left _ hl,e⟩
 ·obtain⟨l,hl,e⟩:=h2 b h;exact⟨l,List.mem_append_right _ hl,e⟩
theorem OB.nodup{l1 l2:List Lab}{b1 b2:List Nat}(h1:OB ow l1 b1)(h2:OB ow l2 b2)(hl:(l1++l2).Nodup)(n1:b1.Nodup)(n2:b2.Nodup):(b1++b2).Nodup:=by
 rw[List.nodup_append]at hl⊢
 refine⟨n1,n2,fun x hx z hz e=> ?_⟩
 subst e
 obtain⟨l,hl1,e1⟩:=h1 x hx
 obtain⟨l',hl2,e2⟩:=h2 x hz
 rw[e1]at e2
 cases e2
 exact hl.2.2 l hl1 l hl2 rfl
theorem imO_rep(hob:∀l q,lo Γ.ob l=some q->ObR G σ ow w l q):∀(f:Nat) (cs:List Ki) (ls:List AV) (vs:List Value) (h:HL cs) (rest:List AV) (labs:List Lab),imO Γ.ob f cs ls=some (h,rest,labs)->RepCs σ F w ls vs->labs.Nodup->
  ∃va vb bs,vs=va++vb∧RepCs σ F w rest vb∧HAllD (Dx w) cs h va bs∧bs.Nodup∧OB ow labs bs:=by
 intro f
 induction f with
 |zero=>intro cs ls vs h rest labs hi;simp[imO]at hi
 |succ f ih=>
  intro cs ls vs h rest labs hi hr hn
  cases cs with
  |nil=>
   simp only[imO,Option.some.injEq,Prod.mk.injEq]at hi
   obtain⟨_,rfl,rfl⟩:=hi
   exact⟨[],vs,[],rfl,hr,⟨rfl,rfl⟩,by simp,fun b hb=>by cases hb⟩
  |cons c cs=>
   by_cases hS:∃n,c= .struct n
   ·obtain⟨n,rfl⟩:=hS
    simp only[imO,Option.bind_eq_some_iff,Option.map_eq_some_iff,Prod.mk.injEq]at hi
    obtain⟨⟨h1,rest1,labs1⟩,e1,⟨h2,rest2,labs2⟩,e2,e3,rfl,rfl⟩:=hi
    subst e3
    have hn':=List.nodup_append.1 hn
    obtain⟨va,vb,bs,rfl,hr1,hD1,nd1,ob1⟩:=ih _ _ _ _ _ _ e1 hr hn'.1
    obtain⟨vc,vd,bs2,rfl,hr2,hD2,nd2,ob2⟩:=ih _ _ _ _ _ _ e2 hr1 hn'.2.1
    have hd:Dx w (.struct n) (mk n h1) va bs:=Dx_struct.2 (by rw[un_mk];exact hD1)
    exact⟨va++vc,vd,bs++bs2,by simp,hr2,⟨va,vc,bs,bs2,rfl,hd.len,rfl,hd,hD2⟩,OB.nodup ob1 ob2 hn nd1 nd2,ob1.append ob2⟩
   ·cases ls with
    |nil=>exfalso;cases c<;>simp_all[imO]
    |cons x ls=>
     have hi':(pkOL Γ.ob c x).bind (fun x=>(imO Γ.ob f cs ls).map fun q=>((x.1,q.1),q.2.1,x.2++q.2.2))=some (h,rest,labs):=by
      cases c<;>first|exact hi|(exfalso;exact hS ⟨_,rfl⟩)
     simp only[Option.bind_eq_some_iff,Option.map_eq_some_iff,Prod.mk.injEq]at hi'
     obtain⟨⟨y,labs1⟩,e1,⟨h2,rest2,labs2⟩,e2,e3,rfl,rfl⟩:=hi'
     subst e3
     simp only[RepCs]at hr
     obtain⟨u,us,rfl,hx,hr⟩:=hr
     have hn':=List.nodup_append.1 hn
     obtain⟨bs,hd,nd,obb⟩:=pkOL_rep hob e1 hx
     obtain⟨vc,vd,bs2,rfl,hr2,hD2,nd2,ob2⟩:=ih _ _ _ _ _ _ e2 hr hn'.2.1
     exact⟨u::vc,vd,bs++bs2,by simp,hr2,⟨[u],vc,bs,bs2,rfl,hd.len▸rfl,rfl,hd,hD2⟩,OB.nodup obb ob2 hn nd nd2,obb.append ob2⟩
theorem pkO_rep(hob:∀l q,lo Γ.ob l=some q->ObR G σ ow w l q){c:Ki}{x:AV}{y:c.T}{labs:List Lab}(h:pkO Γ.ob c x=some (y,labs)){u:Value}(hx:RepV σ F w x u)(hn:labs.Nodup):
  ∃bs,Dx w c y u.cells.toList bs∧bs.Nodup∧OB ow labs bs:=by
 unfold pkO at h
 split at h
 ·rename_i n m ls
  split at h
  ·rename_i e
   subst e
   simp only[Option.bind_eq_some_iff]at h
   obtain⟨⟨hh,rest,labs'⟩,e1,h⟩:=h
   split at h
   ·rename_i hr
    simp only[Option.some.injEq,Prod.mk.injEq]at h
    obtain⟨rfl,rfl⟩:=h
    simp only[List.isEmpty_iff]at hr
    subst hr
    simp only[RepV,RepU,AV.isS,if_true,RepC]at hx
    obtain⟨cs,rfl,_,hc⟩:=hx
    obtain⟨va,vb,bs,rfl,hr1,hD,nd,obb⟩:=imO_rep hob _ _ _ _ _ _ _ e1 hc hn
    simp only[RepCs]at hr1
    subst hr1
    exact⟨bs,Dx_struct.2 (by rw[un_mk];simpa[Value.cells]using hD),nd,obb⟩
   ·cases h
  ·cases h
 ·obtain⟨hS,htu⟩:=pkOL_leaf h
  have hC:RepC σ F w x [u]:=by
   cases x with
   |tu vs=>exact absurd rfl (htu vs)
   |_=>simp only[RepV,RepU,hS,Bool.false_eq_true,if_false]at hx;exact hx
  obtain⟨bs,h1,h2,h3⟩:=pkOL_rep hob h hC
  have h1u:u.oneCell'=true:=by
   obtain⟨d,hd⟩:=h1.read (F:=fun _=>True) (fun _ _=>trivial)
   exact K_one hd u (by simp)
  have hcu:u.cells.toList=[u]:=by cases u<;>simp_all[Value.oneCell',Value.cells]
  rw[hcu]
  exact⟨bs,h1,h2,h3⟩
end
end Go.Q
namespace Go.Q
theorem take_patch{α:Type}(l a:List α)(o n:Nat)(h:o+a.length<=n)(hn:n<=l.length):(l.take o++a++l.drop (o+a.length)).take n=(l.take n).take o++a++(l.take n).drop (o+a.length):=by
 have h1:(l.take o).length=o:=by rw[List.length_take];omega
 have h2:((l.take n).take o).length=o:=by rw[List.length_take,List.length_take];omega
 have h3:(l.take o++a).length=o+a.length:=by rw[List.length_append,h1]
 have h4:((l.take n).take o++a).length=o+a.length:=by rw[List.length_append,h2]
 apply List.ext_getElem?
 intro j
 rw[List.getElem?_take]
 simp only[List.getElem?_append,h1,h2,h3,h4,List.getElem?_drop,List.getElem?_take]
 by_cases hj:j<n
 ·by_cases hj2:j<o+a.length
  ·by_cases hj3:j<o
   ·simp[hj,hj2,hj3]
   ·simp[hj,hj2,hj3]
  ·have:o+a.length+(j-(o+a.length))<n:=by omega
   simp[hj,hj2,this]
 ·rw[if_neg hj,if_neg (by omega),if_neg (by omega)]
section
variable {P:Program} {S:FuncId->List SA->RA->Prop} {N:Nat} {G:Gd} {σ:Lab->Value} {ow:Own} {w:World} {a:Act} {Γ:Env} {K:Env->Prop} {Q:Exit->Act->World->Prop} {o:Oper} {F:Nat->Prop}
theorem snd_st_el(hr:Rep N G σ ow w a Γ){l i p c xs x'' y'' t y}{y0:c.T}{labs:List Lab}(hop:o.op= .store t x'' y'')(hdst:o.dst=none)(hy:O.m y y''=true)(ht:tk P t c=true)(rx:RepV σ (fz G ow w) w (.ep l c i 0) (a.eval x''))
  (hl:lo Γ.ob l=some (.row true p c xs)) {v:AV} (hev:ev Γ y=some v) (hpk:pkO Γ.ob c v=some (y0,labs)) (h0:0<=i) (h1:i<(xs.length:Int)) (hn:labs.Nodup) (hnl:l∉labs)
  (hk:K ⟨(Γ.kill fun m=>labs.contains m).tm,(l,.row true p c (xs.set i.toNat y0))::(Γ.kill fun m=>labs.contains m).ob⟩):o.wp P a w (Post N G ow w K) Q:=by
 have ry:=ev_rep hr hy hev
 obtain⟨bsv,hD,hnd,hob⟩:=pkO_rep hr.ob hpk ry hn
 obtain⟨bs,hrow,hbnd,hbow⟩:=hr.ob _ _ hl
 obtain⟨g,n,cap,hs,_,eu⟩:=RepV_ep.1 rx
 simp only[RowO,if_true]at hrow
 rw[hs]at hrow
 rcases hrow with⟨_,hx0,_⟩|⟨g',cap',cur,e,rest,hv,hg,k1,k2,k3,rfl,k4⟩
 ·have hx1:(xs.length:Int)=0:=by rw[hx0];rfl
  omega
 simp only[Value.slice.injEq,Option.some.injEq,Addr.mk.injEq,true_and,and_true]at hv
 obtain⟨rfl,rfl,rfl⟩:=hv
 have hi:i.toNat<xs.length:=by omega
 have hvl:(a.eval y'').cells.toList.length=c.sz:=hD.len
 have hmul:i.toNat*c.sz+c.sz<=xs.length*c.sz:=by
  rw[<-Nat.succ_mul];exact Nat.mul_le_mul_right _ hi
 have hmul2:xs.length*c.sz<=cur.size:=by rw[k3];exact Nat.mul_le_mul_right _ k1
 have h1c:∀u∈(a.eval y'').cells.toList,u.oneCell'=true:=by
  obtain⟨d,hd⟩:=hD.read (F:=fun _=>True) (fun _ _=>trivial)
  exact K_one hd
 have hrun:=run_store_at (w:=w) (c:=c) (off:=i.toNat*c.sz) ht hg (v:=a.eval y'') (by simpa using hvl) (by omega) h1c
 refine wp_skip' (w':=w.setRow g (cur.toList.take (i.toNat*c.sz)++(a.eval y'').cells.toList++cur.toList.drop (i.toNat*c.sz+(a.eval y'').cells.toList.length)).toArray) (by simp[execOp,hop,eu,hrun]) ?_
 rw[hdst,put_none]
 let ow':Own:=fun b=>if b∈bsv then some l else ow b
 have hgl:ow g=some l:=hbow g (by simp)
 have hdisj:∀b∈bsv,b∉g::rest:=fun b hb hb'=>by
  obtain⟨l',hl',e1⟩:=hob b hb
  rw[hbow b hb']at e1
  cases e1
  exact hnl hl'
 have hu:Upd (fun m=>m==l||labs.contains m) ow w ow' (w.setRow g (cur.toList.take (i.toNat*c.sz)++(a.eval y'').cells.toList++cur.toList.drop (i.toNat*c.sz+(a.eval y'').cells.toList.length)).toArray):=by
  refine⟨rfl,rfl,rfl,by simp,fun b hb hq=>⟨?_,?_⟩⟩
  ·show(if b∈bsv then some l else ow b)=ow b
   rw[if_neg]
   intro hb'
   obtain⟨l',hl',e1⟩:=hob b hb'
   have:=hq l' e1
   simp[hl']at this
  ·refine setRow_other w g b _ (fun e=> ?_)
   subst e
   have:=hq l hgl
   simp at this
 have hrk:=hr.kill (fun m=>labs.contains m)
 have hfree:=Free.kill (fun m=>labs.contains m) Γ
 refine⟨_,σ,ow',hk,⟨hrk.size,hrk.defers,fun t x hx=>(hrk.tm t x hx).keep (p:=fun _=>false) (fun _ _=>rfl) hu.fz (refs_false x),fun k q hq=> ?_,hr.own' hu,hr.top' hu,fun k q hq hp=>by
  simp only[lo]at hq
  split at hq
  ·rename_i he;subst he;cases hq;exact hr.pin _ _ hl hp
  ·exact hrk.pin k q hq hp,hr.big⟩,hu.ext⟩
 simp only[lo]at hq
 split at hq
 ·rename_i he
  subst he
  cases hq
  have hset:=ElemsD.set (P:=Dx w c) hD hvl k4 hi
  obtain⟨bs',e1,e2,e3⟩:=hset
  have hmem:∀b∈g::bs',ow' b=some l:=fun b hb=>by
   show(if b∈bsv then some l else ow b)=some l
   split
   ·rfl
   ·rcases List.mem_cons.1 hb with rfl|hb
    ·exact hgl
    ·rcases e2 b hb with h|h
     ·exact hbow b (List.mem_cons_of_mem _ h)
     ·rename_i hh;exact absurd h hh
  have hnotg:∀b∈bs',b≠g:=fun b hb e=>by
   subst e
   rcases e2 b hb with h|h
   ·exact(List.nodup_cons.1 hbnd).1 h
   ·exact hdisj b h (by simp)
  refine⟨g::bs',?_,List.nodup_cons.2 ⟨fun h=>hnotg g h rfl,e3 (List.nodup_cons.1 hbnd).2 hnd fun b hb hb'=>hdisj b hb (List.mem_cons_of_mem _ hb')⟩,hmem⟩
  simp only[RowO,if_true]
  refine .inr ⟨g,cap,_,e,bs',by rw[hs];simp,setRow_heap w g cur _ e _ hg,by simpa using k1,k2,?_,rfl,?_⟩
  ·rw[<-k3]
   simp only[List.size_toArray,List.length_append,List.length_take,List.length_drop,Array.length_toList,hvl]
   omega
  ·have hp:=take_patch cur.toList (a.eval y'').cells.toList (i.toNat*c.sz) (xs.length*c.sz) (by rw[hvl];exact hmul) (by simpa using hmul2)
   simp only[List.length_set]at*
   rw[hp,hvl]
   refine e1.mono fun x q r hs hq=>hq.keep fun b hb=>setRow_other w g b _ (hnotg b (hs b hb))
 ·rename_i he
  have hqf:=hfree.ob k q hq
  exact(hrk.ob k q hq).upd (q:=fun _=>false) hu (fun _ _=>rfl) (by simp only[Bool.or_eq_false_iff];exact⟨by simpa using fun e=>he e.symm,hqf.1⟩) rfl (fun ls _=>refsL_false ls)
end
end Go.Q
namespace Go.Q
section
variable {P:Program} {S:FuncId->List SA->RA->Prop} {N:Nat} {G:Gd} {σ:Lab->Value} {ow:Own} {w:World} {a:Act} {Γ:Env} {K:Env->Prop} {Q:Exit->Act->World->Prop} {o:Oper} {F:Nat->Prop}
theorem heap_new(w:World)(ob:Obj):(w.alloc ob).heap[w.heap.size]? =some ob:=heap_alloc_new w ob
theorem heap_old(w:World)(ob:Obj)(b:Nat)(h:b<w.heap.size):(w.alloc ob).heap[b]? =w.heap[b]? :=by
 simp only[World.alloc,Array.getElem?_push]
 rw[if_neg (by omega)]
theorem upd_alloc{d:Nat}{ob:Obj}:Upd (hd d) ow w (fun b=>if b=w.heap.size then some [d]else ow b) (w.alloc ob):=
 ⟨rfl,rfl,rfl,by simp,fun b hb _=>⟨if_neg (by omega),heap_old w ob b hb⟩⟩
def σnew(σ:Lab->Value)(d:Nat)(v:Value):Lab->Value:=fun l=>if l=[d]then v else σ l
theorem σnew_keep{d:Nat}{v:Value}:∀l,hd d l=false->σnew σ d v l=σ l:=fun l hl=>by
 unfold σnew
 rw[if_neg]
 intro e
 subst e
 simp[hd]at hl
theorem step_new(hr:Rep N G σ ow w a Γ){d:Nat}(hd':dstOk N d o=true){cs:Array Value}{e:TypeId}{v:Value}{x:AV}{q:Ob}
  (hrun:(execOp a.eval o).run P w= .ok (.value v) (w.alloc (.cells cs e)))
  (hx:RepV (σnew σ d v) (fz G (fun b=>if b=w.heap.size then some [d]else ow b) (w.alloc (.cells cs e))) (w.alloc (.cells cs e)) x v)
  (hq:Rep N G (σnew σ d v) (fun b=>if b=w.heap.size then some [d]else ow b) (w.alloc (.cells cs e)) a (Γ.kill (hd d))->
   ObR G (σnew σ d v) (fun b=>if b=w.heap.size then some [d]else ow b) (w.alloc (.cells cs e)) [d] q)
  (hk:K (((Γ.kill (hd d)).new [d] q).put d x)) (hnp:q.pn=false:=by rfl):o.wp P a w (Post N G ow w K) Q:=by
 obtain⟨h1,h2⟩:=dst_of hd'
 refine wp_value hrun ?_
 rw[h1]
 have hr':=(hr.kill (hd d)).upd (σ':=σnew σ d v) (upd_alloc (ob:=.cells cs e)) σnew_keep (Free.kill (hd d) Γ)
 exact⟨_,_,_,hk,(hr'.new (hq hr') (fun h=>by rw[pnd_false hnp (hr.big d [] h2)]at h;cases h)).put h2 hx,(upd_alloc (d:=d) (ob:=.cells cs e)).ext⟩
theorem z1_rep(c:Ki):RepC σ F w (z1 c) [kz (z1 c)]:=by
 cases c with
 |int k=>simp only[z1,kz,RepC];exact Kx_int.2 ⟨rfl,by unfold inR Ki.z;cases k<;>exact⟨by decide,by decide⟩⟩
 |bool=>simp only[z1,kz,RepC];exact Kx_bool.2 rfl
 |str=>simp only[z1,kz,RepC];exact Kx_str.2 ⟨rfl,by simp[Ki.z,maxLen]⟩
 |slice c=>simp only[z1,kz,RepC];exact⟨none,rfl⟩
 |struct n=>simp only[z1,RepC]
 |ptr c=>simp only[z1,kz,RepC];exact Kx_ptr_none.2 rfl
theorem z1s_rep:∀(cs:List Ki),RepCs σ F w (cs.map z1) ((cs.map z1).map kz)
 | []=>rfl
 |c::cs=>⟨_,_,rfl,z1_rep c,z1s_rep cs⟩
theorem zA_rep(c:Ki):RepCs σ F w (zA c) (zc c):=by
 unfold zc zA
 cases c with
 |struct n=>exact z1s_rep _
 |int k=>exact⟨_,_,rfl,z1_rep _,rfl⟩
 |bool=>exact⟨_,_,rfl,z1_rep _,rfl⟩
 |str=>exact⟨_,_,rfl,z1_rep _,rfl⟩
 |slice c=>exact⟨_,_,rfl,z1_rep _,rfl⟩
 |ptr c=>exact⟨_,_,rfl,z1_rep _,rfl⟩
theorem tz_zero{t:TypeId}{c:Ki}(h:tz P t c=true):∃i z,P.info? t=some i∧i.zero=some z∧z.cells.toList=zc c:=by
 unfold tz at h
 split at h
 ·rename_i i hi
  split at h
  ·rename_i z hz
   exact⟨i,z,hi,hz,zeqs_eq h⟩
  ·cases h
 ·cases h
theorem snd_bx(hr:Rep N G σ ow w a Γ){d x c}(hm:I.m P N (.bx d x c) o=true)(hv:vi S (.bx d x c) Γ K):o.wp P a w (Post N G ow w K) Q:=by
 simp only[vi]at hv
 obtain⟨v,he,hst,hk⟩:=need_iff hv
 simp only[I.m]at hm
 split at hm
 ·rename_i e x' hop
  simp only[Bool.and_eq_true]at hm
  obtain⟨hd',hx⟩:=hm
  have hrun:(execOp a.eval o).run P w= .ok (.value (.pointer (some ⟨w.heap.size,0,none⟩))) (w.alloc (.cells (a.eval x').cells e)):=by
   simp[execOp,hop,Instr.box,newVar,newRow]
  refine step_new hr hd' hrun (RepV_pt.2 ⟨_,by simp[σnew],rfl⟩) (fun hr'=> ?_) hk
  have rx:=ev_rep hr' hx he
  exact⟨w.heap.size,e,_,by simp[σnew],heap_new w _,by simp,(cells_rep hst rx).1⟩
 ·cases hm
theorem snd_al(hr:Rep N G σ ow w a Γ){d c}(hm:I.m P N (.al d c) o=true)(hv:vi S (.al d c) Γ K):o.wp P a w (Post N G ow w K) Q:=by
 simp only[vi]at hv
 simp only[I.m]at hm
 split at hm
 ·rename_i e hop
  simp only[Bool.and_eq_true]at hm
  obtain⟨hd',ht⟩:=hm
  obtain⟨i,z,hi,hz,hzc⟩:=tz_zero ht
  have hrun:(execOp a.eval o).run P w= .ok (.value (.pointer (some ⟨w.heap.size,0,none⟩))) (w.alloc (.cells z.cells e)):=by
   simp[execOp,hop,Instr.alloc,zeroValue,typeInfo,hi,hz,newVar,newRow]
  refine step_new hr hd' hrun (RepV_pt.2 ⟨_,by simp[σnew],rfl⟩) (fun hr'=> ?_) hv
  exact⟨w.heap.size,e,_,by simp[σnew],heap_new w _,by simp,by rw[hzc];exact zA_rep c⟩
 ·cases hm
theorem inR64{n:Nat}(hn:(n:Int)<=9223372036854775807):inR .i64 n:=by simp[inR,IntKind.min,IntKind.max,IntKind.signed,IntKind.bits];omega
theorem snd_ln(hr:Rep N G σ ow w a Γ){d st x}(hm:I.m P N (.ln d st x) o=true)(hv:vi S (.ln d st x) Γ K):o.wp P a w (Post N G ow w K) Q:=by
 simp only[I.m]at hm
 split at hm
 ·rename_i x' t hop
  simp only[Bool.and_eq_true]at hm
  obtain⟨⟨hd',hx⟩,ht⟩:=hm
  cases st with
  |false=>
   obtain⟨v,he,hk⟩:=need_iff hv
   clear hv
   have rx:=ev_rep hr hx he
   have hu:∃e,P.underlying t=some (.slice e):=by
    unfold lnOk at ht
    split at ht
    ·cases ht
    ·exact⟨_,by assumption⟩
    ·cases ht
   obtain⟨el,hu⟩:=hu
   have hrun:∀(A:Option Addr) (n c:Nat),a.eval x'= .slice A n c->(execOp a.eval o).run P w= .ok (.value (.int .i64 n)) w:=fun A n c e=>by
    simp[execOp,hop,resolve,invoke,builtin,e,Builtin.len_,run_underlying hu,goInt]
   split at hk
   ·rename_i c xs
    obtain⟨A,cap,e1,h2,h3,_⟩:=RepV_slice.1 rx
    have hb:((List.length xs:Nat):Int)<=9223372036854775807:=by simp[maxLen]at h3;omega
    exact step_put hr hd' (hrun _ _ _ e1) (RepV_int.2 ⟨rfl,inR64 hb⟩) (hk hb)
   ·rename_i l
    obtain⟨ob,hl,hk2⟩:=need_iff hk
    clear hk
    split at hk2
    ·rename_i dp pin c xs
     obtain⟨bs,hrow,_,_⟩:=hr.ob _ _ hl
     obtain⟨A,cap,hs,h2,h3⟩:=row_form hrow
     obtain⟨A',n',c',hs',e1⟩:=RepV_sl.1 rx
     rw[hs]at hs'
     cases hs'
     have hb:((xs.length:Nat):Int)<=9223372036854775807:=by simp[maxLen]at h3;omega
     exact step_put hr hd' (hrun _ _ _ e1) (RepV_int.2 ⟨rfl,inR64 hb⟩) (hk2 hb)
    ·exact hk2.elim
   ·obtain⟨A',e1⟩:=RepV_nl.1 rx
    exact step_put hr hd' (hrun _ _ _ e1) (RepV_int.2 ⟨rfl,inR64 (by simp)⟩) hk
   ·exact hk.elim
  |true=>
   obtain⟨v,he,hk⟩:=need_iff hv
   clear hv
   have rx:=ev_rep hr hx he
   have hu:P.underlying t=some .string:=by
    unfold lnOk at ht
    split at ht
    ·assumption
    ·cases ht
    ·cases ht
   split at hk
   ·rename_i s
    obtain⟨e1,h2⟩:=RepV_str.1 rx
    have hb:((List.length s:Nat):Int)<=9223372036854775807:=by simp[maxLen]at h2;omega
    have hsz:(ByteArray.mk (List.toArray s)).size=List.length s:=by simp[ByteArray.size]
    exact step_put hr hd' (by simp[execOp,hop,resolve,invoke,builtin,e1,Builtin.len_,run_underlying hu,goInt,hsz]) (RepV_int.2 ⟨rfl,inR64 hb⟩) (hk hb)
   ·exact hk.elim
 ·cases hm
end
end Go.Q
namespace Go.Q
section
variable {P:Program} {S:FuncId->List SA->RA->Prop} {N:Nat} {G:Gd} {σ:Lab->Value} {ow:Own} {w:World} {a:Act} {Γ:Env} {K:Env->Prop} {Q:Exit->Act->World->Prop} {o:Oper} {F:Nat->Prop}
theorem inR0(k:IntKind):inR k 0:=by unfold inR;cases k<;>exact⟨by decide,by decide⟩
theorem HAllD_zero:∀(f:Nat) (cs:List Ki),fok f cs=true->nop f cs=true->HAllD (Dx w) cs (zH cs) (((lks f cs).map z1).map kz) []
 |0,_,h,_=>by simp[fok]at h
 |_+1,[],_,_=>⟨rfl,rfl⟩
 |f+1,.struct n::cs,h,h'=>by
  simp only[fok,nop,Bool.and_eq_true]at h h'
  have hd:Dx w (.struct n) (zS n) (((lks f (flds n)).map z1).map kz) []:=Dx_struct.2 (by rw[un_zS];exact HAllD_zero f _ h.1 h'.1)
  refine⟨_,_,[],[],?_,hd.len,rfl,hd,HAllD_zero f cs h.2 h'.2⟩
  simp[lks]
 |f+1,.int k::cs,h,h'=>⟨_,_,[],[],by simp[lks];rfl,rfl,rfl,Dx_int.2 ⟨rfl,inR0 k,rfl⟩,HAllD_zero f cs (by simpa[fok]using h) (by simpa[nop]using h')⟩
 |f+1,.bool::cs,h,h'=>⟨_,_,[],[],by simp[lks];rfl,rfl,rfl,Dx_bool.2 ⟨rfl,rfl⟩,HAllD_zero f cs (by simpa[fok]using h) (by simpa[nop]using h')⟩
 |f+1,.str::cs,h,h'=>⟨_,_,[],[],by simp[lks];rfl,rfl,rfl,Dx_str.2 ⟨rfl,Nat.zero_le _,rfl⟩,HAllD_zero f cs (by simpa[fok]using h) (by simpa[nop]using h')⟩
 |f+1,.slice c::cs,h,h'=>⟨_,_,[],[],by simp[lks];rfl,rfl,rfl,Dx_slice.2 ⟨_,rfl,.inl ⟨⟨_,rfl⟩,rfl,rfl⟩⟩,HAllD_zero f cs (by simpa[fok]using h) (by simpa[nop]using h')⟩
 |f+1,.ptr c::cs,_,h'=>by simp[nop]at h'
theorem Dx_zero{c:Ki}(h:nop 99 [c]=true):Dx w c c.z (zc c) []:=by
 have hf:fok 99 [c]=true:=by
  cases c with
  |struct n=>
   have:∀n,fok 98 (flds n)=true:=fun n=>match n with
    |0|1|2|3|4|5|6|7|8|9|10|11|12|13|14|15|16|17|18|19|20|21|22|23|24|25|26|27|28|29|30|31|32|33|34|35|36|37|38|39|40|41|42|43=>rfl
    |_+44=>rfl
   simp only[fok,this n,Bool.and_self]
  |_=>rfl
 cases c with
 |struct n=>
  have hn:nop 98 (flds n)=true:=by simp only[nop,Bool.and_eq_true]at h;exact h.1
  have hf':fok 98 (flds n)=true:=by simp only[fok,Bool.and_eq_true]at hf;exact hf.1
  have h98:=HAllD_zero (w:=w) 98 (flds n) hf' hn
  have e:lks 98 (flds n)=lks 99 (flds n):=by
   have:∀n,lks 98 (flds n)=lks 99 (flds n):=fun n=>match n with
    |0|1|2|3|4|5|6|7|8|9|10|11|12|13|14|15|16|17|18|19|20|21|22|23|24|25|26|27|28|29|30|31|32|33|34|35|36|37|38|39|40|41|42|43=>rfl
    |_+44=>rfl
   exact this n
  rw[e]at h98
  exact Dx_struct.2 (by show HAllD (Dx w) (flds n) (un n (zS n)) _ _;rw[un_zS];exact h98)
 |int k=>exact Dx_int.2 ⟨rfl,by unfold inR Ki.z;cases k<;>exact⟨by decide,by decide⟩,rfl⟩
 |bool=>exact Dx_bool.2 ⟨rfl,rfl⟩
 |str=>exact Dx_str.2 ⟨rfl,by simp[Ki.z,maxLen],rfl⟩
 |slice c=>exact Dx_slice.2 ⟨_,rfl,.inl ⟨⟨_,rfl⟩,rfl,rfl⟩⟩
 |ptr c=>simp[nop]at h
theorem ElemsD_replicate{α:Type}{sz:Nat}{p:α->List Value->List Nat->Prop}{x:α}{z:List Value}(h:p x z [])(hz:z.length=sz):∀n,ElemsD sz p (List.replicate n x) ((List.replicate n z).flatten) []
 |0=>⟨rfl,rfl⟩
 |n+1=>⟨z,_,[],[],by simp[List.replicate_succ],hz,rfl,h,ElemsD_replicate h hz n⟩
theorem madeCells_flat(z:Array Value)(n:Nat)(hz:0<z.size):(madeCells z (n*z.size)).toList=(List.replicate n z.toList).flatten:=by
 induction n with
 |zero=>simp[madeCells]
 |succ n ih=>
  rw[List.replicate_succ',List.flatten_append,<-ih]
  apply List.ext_getElem?
  intro j
  simp only[madeCells,Array.toList_map,Array.toList_range,List.getElem?_append,List.length_map,List.length_range,List.getElem?_map,List.flatten_cons,List.flatten_nil,List.append_nil]
  by_cases hj:j<n*z.size
  ·rw[if_pos hj,List.getElem?_range (by rw[Nat.add_mul];omega),List.getElem?_range hj]
  ·rw[if_neg hj]
   by_cases hj2:j<(n+1)*z.size
   ·rw[List.getElem?_range hj2]
    have h1:j-n*z.size<z.size:=by rw[Nat.add_mul]at hj2;omega
    have h2:j % z.size=j-n*z.size:=by
     have:j=(j-n*z.size)+n*z.size:=by omega
     rw[this,Nat.add_mul_mod_self_right,Nat.mod_eq_of_lt h1]
     omega
    simp[h2,h1]
   ·rw[List.getElem?_eq_none (by simp;omega),List.getElem?_eq_none (by rw[Nat.add_mul]at hj2;simp;omega)]
    rfl
theorem mk_elem{t:TypeId}{c:Ki}(h:mkOk P t c=true):∃e i z,P.underlying t=some (.slice e)∧P.info? e=some i∧i.zero=some z∧z.cells.toList=zc c∧i.size=c.sz∧i.bytes<=65536∧0<i.size:=by
 unfold mkOk at h
 split at h
 ·rename_i e hu
  simp only[Bool.and_eq_true]at h
  obtain⟨h1,h2⟩:=h
  obtain⟨i,z,hi,hz,hzc⟩:=tz_zero h1
  rw[hi]at h2
  simp only[Bool.and_eq_true,beq_iff_eq,decide_eq_true_eq]at h2
  exact⟨e,i,z,hu,hi,hz,hzc,h2.1.1,h2.1.2,h2.2⟩
 ·cases h
theorem snd_mk(hr:Rep N G σ ow w a Γ){d dp c x}(hm:I.m P N (.mk d dp c x) o=true)(hv:vi S (.mk d dp c x) Γ K):o.wp P a w (Post N G ow w K) Q:=by
 obtain⟨v,he,hk⟩:=need_iff hv
 clear hv
 simp only[I.m]at hm
 split at hm
 ·rename_i t x' y' hop
  simp only[Bool.and_eq_true]at hm
  obtain⟨⟨⟨hd',hx⟩,hy⟩,ht⟩:=hm
  have rx:=ev_rep hr hx he
  have ry:=ev_rep hr hy he
  obtain⟨e,i,z,hu,hi,hz,hzc,hsz,hby,hpos⟩:=mk_elem ht
  split at hk
  ·rename_i k n
   obtain⟨h0,h1,hdp,hk2⟩:=hk
   have e1:=(RepV_int.1 rx).1
   have e2:=(RepV_int.1 ry).1
   have hbb:(i.bytes:Int)*n<=281474976710656:=by
    have:(i.bytes:Int)*n<=65536*2147483647:=Int.mul_le_mul (by omega) h1 h0 (by omega)
    omega
   have hmake:=run_make (P:=P) w t e i z hu hi hz k k n n h0 (Int.le_refl _) hbb (by omega)
   have hzs:z.cells.size=i.size:=by
    have:z.cells.toList.length=c.sz:=by
     rw[hzc]
     have:=(zA_rep (σ:=σ) (F:=fun _=>True) (w:=w) c).length
     rw[this]
     unfold zA
     have hl:∀n,((lks 99 (flds n)).map z1).length=ssz n:=fun n=>match n with
      |0|1|2|3|4|5|6|7|8|9|10|11|12|13|14|15|16|17|18|19|20|21|22|23|24|25|26|27|28|29|30|31|32|33|34|35|36|37|38|39|40|41|42|43=>rfl
      |_+44=>rfl
     cases c<;>first|rfl|exact hl _
    rw[hsz,<-this];simp
   have hrun:(execOp a.eval o).run P w= .ok (.value (.slice (some ⟨w.heap.size,0,none⟩) n.toNat n.toNat)) (w.alloc (.cells (madeCells z.cells (n.toNat*i.size)) e)):=by
    simp[execOp,hop,e1,e2,hmake]
   refine step_new hr hd' hrun (RepV_sl.2 ⟨_,_,_,by simp[σnew],rfl⟩) (fun hr'=> ?_) hk2
   refine⟨[w.heap.size],?_,by simp,by simp⟩
   have hflat:(madeCells z.cells (n.toNat*i.size)).toList=(List.replicate n.toNat (zc c)).flatten:=by
    rw[<-hzs,madeCells_flat z.cells n.toNat (by omega),hzc]
   have hszc:(zc c).length=c.sz:=by rw[<-hzc];simp[hzs,hsz]
   have hsize:(madeCells z.cells (n.toNat*i.size)).size=n.toNat*c.sz:=by rw[size_madeCells,hsz]
   have key:∀p:c.T->List Value->List Nat->Prop,p c.z (zc c) []->RowD (w.alloc (.cells (madeCells z.cells (n.toNat*i.size)) e)) c.sz p (List.replicate n.toNat c.z) (.slice (some ⟨w.heap.size,0,none⟩) n.toNat n.toNat) [w.heap.size]:=by
    intro p hp
    refine .inr ⟨w.heap.size,n.toNat,_,e,[],by simp,heap_new w _,by simp,by simp[maxLen];omega,hsize,rfl,?_⟩
    rw[List.length_replicate,List.take_of_length_le (by rw[Array.length_toList,hsize];exact Nat.le_refl _),hflat]
    exact ElemsD_replicate hp hszc _
   have hσ:σnew σ d (.slice (some ⟨w.heap.size,0,none⟩) n.toNat n.toNat) [d]= .slice (some ⟨w.heap.size,0,none⟩) n.toNat n.toNat:=by simp[σnew]
   rw[hσ]
   unfold RowO
   cases dp with
   |true=>simp only[if_true];exact key _ (Dx_zero hdp)
   |false=>
    simp only[Bool.false_eq_true,if_false]
    exact key _ ⟨(Dx_zero hdp).read (fun b hb=>by cases hb),rfl⟩
  ·exact hk.elim
 ·cases hm
end
end Go.Q
namespace Go.Q
def ArgR(F:Nat->Prop)(w:World):SA->Value->Prop
 | .v c x,u=>RepV (fun _=>undef) F w (.v c x) u
 | .fn f cs,u=>RepV (fun _=>undef) F w (.fn f (capV cs)) u
 |_,_=>False
def ArgsR(F:Nat->Prop)(w:World):List SA->List Value->Prop
 | [],us=>us=[]
 |s::ss,us=>∃u r,us=u::r∧ArgR F w s u∧ArgsR F w ss r
def ResR(G:Gd)(ow:Own)(w:World)(r:RA)(u:Value):Prop:=
 ∃σ,RepV σ (fz G ow w) w (r.intro []).1 u∧∀l o,lo (r.intro []).2 l=some o->ObR G σ ow w l o
def tabNames:List (String×List Value):=[("internal/strconv.uint64pow10",[1,10,100,1000,10000,100000,1000000,10000000,100000000,1000000000,10000000000,100000000000,1000000000000,10000000000000,100000000000000,1000000000000000,10000000000000000,100000000000000000,1000000000000000000,10000000000000000000].map fun z=>Value.int .u64 z)]
def tabs(P:Program):List (Nat×Array Value):=tabNames.filterMap fun q=>(P.globalNamed q.1).map fun g=>(g,q.2.toArray)
def SpW(P:Program)(f:FuncId)(c:Ki)(y0:c.T)(j:Int)(y:Option c.T)(n:Int):Prop:=
 ∀(w:World) (u:Value) (bs:List Nat),Dx w c y0 u.cells.toList bs->bs.Nodup->u=valOf c u.cells.toList->inR .i64 j->Laid (tabs P) (fun b=>b<w.heap.size∧b∉bs) w->
  Calls P f #[u,.int .i64 j] w fun e w'=>e= .returned (.int .i64 n)∧inR .i64 n∧w'.os=w.os∧w'.tape=w.tape∧w'.output=w.output∧w.heap.size<=w'.heap.size∧(∀b,b<w.heap.size->b∉bs->w'.heap[b]? =w.heap[b]?)∧
   ∀y1,y=some y1->∃bs',Dx w' c y1 u.cells.toList bs'∧bs'.Nodup∧∀b∈bs',b∈bs∨w.heap.size<=b
def LvR(F:Nat->Prop)(w:World):LV->Value->List Nat->Prop
 | .v c x,u,bs=>c.isS=false∧Kx F w c x [u]∧bs=[]
 | .o c xs,u,bs=>RowO w F true c xs u bs
 | .s c xs,u,bs=>RowO w F false c xs u bs
def LvsR(F:Nat->Prop)(w:World):List LV->List Value->List Nat->Prop
 | [],us,bs=>us=[]∧bs=[]
 |r::rs,us,bs=>∃u us' p q,us=u::us'∧bs=p++q∧LvR F w r u p∧LvsR F w rs us' q
def LoR(F:Nat->Prop)(w:World):LO->Value->List Nat->Prop
 | .box ls,v,bs=>∃b e cs rest,v= .pointer (some ⟨b,0,none⟩)∧w.heap[b]? =some (.cells cs e (0,0))∧bs=b::rest∧LvsR F w ls cs.toList rest
 | .row dp c xs,v,bs=>RowO w F dp c xs v bs
 | .mp kk vk es,v,bs=>∃g ms clk,v= .map (some g)∧w.heap[g]? =some (.map ms clk)∧bs=[g]∧EntR F w kk vk es ms.toList
 | .gone,_,bs=>bs=[]
def LosR(F:Nat->Prop)(w:World):List LO->List Value->List Nat->Prop
 | [],us,bs=>us=[]∧bs=[]
 |r::rs,us,bs=>∃u us' p q,us=u::us'∧bs=p++q∧LoR F w r u p∧LosR F w rs us' q
def RA.isT:RA->Bool
 | .t _=>true
 |_=>false
mutual
def PcR(F:Nat->Prop)(w:World):RA->Value->List Nat->Prop
 | .v c x,u,bs=>Kx F w c x u.cells.toList∧u=valOf c u.cells.toList∧bs=[]
 | .o c x,u,bs=>Dx w c x u.cells.toList bs∧u=valOf c u.cells.toList
 | .s c xs,u,bs=>RowO w F false c xs u bs
 | .cl c xs,u,bs=>Kx F w (.slice c) xs [u]∧(∃A,u= .slice A (List.length xs) (List.length xs))∧bs=[]
 | .t rs,u,bs=>∃us,u= .tuple us.toArray∧PcsR F w rs us bs
 | .w _ _ _,_,_=>False
 | .q _ _,_,_=>False
 | .m kk vk es,v,bs=>∃g ms clk,v= .map (some g)∧w.heap[g]? =some (.map ms clk)∧bs=[g]∧EntR F w kk vk es ms.toList
 | .b n x,v,bs=>∃g e cs,v= .pointer (some ⟨g,0,none⟩)∧w.heap[g]? =some (.cells cs e (0,0))∧bs=[g]∧Kx F w (.struct n) x cs.toList
def PcsR(F:Nat->Prop)(w:World):List RA->List Value->List Nat->Prop
 | [],us,bs=>us=[]∧bs=[]
 |r::rs,us,bs=>∃u us' p q,us=u::us'∧bs=p++q∧PcR F w r u p∧r.isT=false∧PcsR F w rs us' q
end
def SA.isS:SA->Bool
 | .v (.struct _) _=>true
 | .ag _ _=>true
 |_=>false
def nsL:List SA->Bool
 | []=>true
 |s::ss=> !s.isS&&nsL ss
mutual
def ArgQ(F:Nat->Prop)(w:World)(vs:List Value):SA->Value->Prop
 | .v c x,u=>RepV (fun _=>undef) F w (.v c x) u
 | .fn f cs,u=>RepV (fun _=>undef) F w (.fn f (capV cs)) u
 | .pt i off,u=>∃b,vs[i]? =some (.pointer (some ⟨b,0,none⟩))∧u= .pointer (some ⟨b,off,none⟩)
 | .sl i,u=>vs[i]? =some u∧∃A n c,u= .slice A n c
 | .mp i,u=>vs[i]? =some u∧∃g,u= .map (some g)
 | .ag n ls,u=>ls.length=ssz n∧nsL ls=true∧∃cs,u= .agg cs.toArray∧ArgQs F w vs ls cs
 | .fb f cs,u=>nsL cs=true∧∃us,u= .func (.func f) #[] us.toArray∧ArgQs F w vs cs us
 | .io _ _,_=>False
 | .lo _,_=>False
def ArgQs(F:Nat->Prop)(w:World)(vs:List Value):List SA->List Value->Prop
 | [],us=>us=[]
 |s::ss,us=>∃u r,us=u::r∧ArgQ F w vs s u∧ArgQs F w vs ss r
end
def FQ(F:Nat->Prop)(w w':World)(bs pq:List Nat)(b:Nat):Prop:=b∉pq∧b<w'.heap.size∧(F b∨w.heap.size<=b∨b∈bs)
def SpQ(P:Program)(f:FuncId)(as:List SA)(os:List LO)(r:RA)(os':List LO):Prop:=
 ∀(F:Nat->Prop) (w:World) (us vs:List Value) (bs:List Nat),(∀b,F b->b<w.heap.size∧b∉bs)->Laid (tabs P) F w->ArgQs F w vs as us->LosR F w os vs bs->bs.Nodup->
  Calls P f us.toArray w fun e w'=>∃u p q,e= .returned u∧PcR (FQ F w w' bs (p++q)) w' r u p∧LosR (FQ F w w' bs (p++q)) w' os' vs q∧(p++q).Nodup∧(∀b∈p++q,(b∈bs∨w.heap.size<=b)∧b<w'.heap.size)∧
   w'.os=w.os∧w'.tape=w.tape∧w'.output=w.output∧w.heap.size<=w'.heap.size∧∀b,b<w.heap.size->b∉bs->w'.heap[b]? =w.heap[b]?
def Sp(P:Program)(f:FuncId)(as:List SA)(r:RA):Prop:=
 callOk P f=true∧(∀(F:Nat->Prop) (w:World) (us:List Value),(∀b,F b->b<w.heap.size)->Laid (tabs P) F w->ArgsR F w as us->
  Calls P f us.toArray w fun e w'=>∃u ow',e= .returned u∧ResR (gd fun b=>F b∨w.heap.size<=b) ow' w' r u∧Ext (fun _=>none) w ow' w')∧
 (∀(c:Ki) (y0:c.T) (j:Int),as=[.io c y0,.v kI j]->r.isW=true->SpW P f c y0 j (wAs c r) r.wn)∧
 ∀(as0:List SA) (os:List LO) (r0:RA) (os':List LO),as=as0++os.map SA.lo->os≠ []->r= .q r0 os'->SpQ P f as0 os r0 os'
def SOk(P:Program)(G:Gd)(S:FuncId->List SA->RA->Prop):Prop:=(∀f as r,S f as r->Sp P f as r)∧G.tb=tabs P
section
variable {P:Program} {S:FuncId->List SA->RA->Prop} {N:Nat} {G:Gd} {σ:Lab->Value} {ow:Own} {w:World} {a:Act} {Γ:Env} {K:Env->Prop} {Q:Exit->Act->World->Prop} {o:Oper} {F F':Nat->Prop}
theorem RowO.read{dp:Bool}{c:Ki}{xs:List c.T}{v:Value}{bs:List Nat}(hF:∀b,F b->F' b)(hb:∀b∈bs,F' b)(h:RowO w F dp c xs v bs):Kx F' w (.slice c) xs [v]:=by
 rw[Kx_slice]
 unfold RowO at h
 split at h
 ·exact h.read (F:=F') (Q:=Kx F' w c) hb fun x a p hs hp=>hp.read fun b h=>hb b (hs b h)
 ·exact h.read (F:=F') (Q:=Kx F' w c) hb fun x a p hs hp=>hp.1.keep fun b h=>⟨hF b h,rfl⟩
theorem pkL_rep(hob:∀l q,lo Γ.ob l=some q->ObR G σ ow w l q)(hF:∀b,fz G ow w b->F' b){c:Ki}{x:AV}{y:c.T}(h:pkL Γ.ob c x=some y){u:Value}(hx:RepC σ (fz G ow w) w x [u])
  (hO:x.refs (fun _=>true)=true->∀b l,ow b=some l->b<w.heap.size->F' b):Kx F' w c y [u]:=by
 unfold pkL at h
 split at h
 ·rename_i c l
  simp only[Option.bind_eq_some_iff]at h
  obtain⟨ob,hl,hy⟩:=h
  cases ob with
  |box ls=>simp[Ob.as]at hy
  |mp _ _ _=>simp[Ob.as]at hy
  |row dp pin c' xs=>
   have e:=oas_eq hy
   simp only[Ob.row.injEq,true_and]at e
   obtain⟨rfl,e⟩:=e
   obtain rfl:=eq_of_heq e
   obtain⟨bs,hrow,hnd,how⟩:=hob _ _ hl
   simp only[RepC]at hx
   obtain⟨A,n,cp,hs,e⟩:=hx
   simp only[List.cons.injEq,and_true]at e
   subst e
   rw[hs]at hrow
   exact hrow.read hF fun b hb=>hO rfl b l (how b hb) (hrow.lt b hb)
 ·simp only[Option.some.injEq]at h
  subst h
  simp only[RepC,List.cons.injEq,and_true]at hx
  obtain⟨A,hx⟩:=hx
  subst hx
  exact Kx_slice.2 ⟨A,0,rfl,Nat.zero_le _,Nat.zero_le _,fun i hi=>absurd hi (by simp)⟩
 ·have e:=as_eq h
  simp only[AV.v.injEq,Ki.slice.injEq]at e
  obtain⟨rfl,e⟩:=e
  obtain rfl:=eq_of_heq e
  simp only[RepC]at hx
  exact hx.1.keep fun b hb=>⟨hF b hb,rfl⟩
 ·rw[as_eq h]at hx
  simp only[RepC]at hx
  exact hx.keep fun b hb=>⟨hF b hb,rfl⟩
theorem pkL_or{ob:List (Lab×Ob)}{c:Ki}{x:AV}{y:c.T}(h:pkL ob c x=some y):(x.isS=false∧(∀vs,x≠ .tu vs)∧c.isS=false)∨AV.as c x=some y:=by
 unfold pkL at h
 split at h
 ·exact .inl ⟨rfl,(fun _ e=>by cases e),rfl⟩
 ·exact .inl ⟨rfl,(fun _ e=>by cases e),rfl⟩
 ·exact .inl ⟨rfl,(fun _ e=>by cases e),rfl⟩
 ·exact .inr h
theorem im_rep(hob:∀l q,lo Γ.ob l=some q->ObR G σ ow w l q)(hF:∀b,fz G ow w b->F' b):∀(f:Nat) (cs:List Ki) (ls:List AV) (vs:List Value) (h:HL cs) (rest:List AV),im Γ.ob f cs ls=some (h,rest)->RepCs σ (fz G ow w) w ls vs->
  (refsL (fun _=>true) ls=true->∀b l,ow b=some l->b<w.heap.size->F' b)->∃va vb,vs=va++vb∧RepCs σ (fz G ow w) w rest vb∧HAll (Kx F' w) cs h va∧(refsL (fun _=>true) ls=false->refsL (fun _=>true) rest=false):=by
 intro f
 induction f with
 |zero=>intro cs ls vs h rest hi;simp[im]at hi
 |succ f ih=>
  intro cs ls vs h rest hi hr hO
  cases cs with
  |nil=>
   simp only[im,Option.some.injEq,Prod.mk.injEq]at hi
   obtain⟨_,rfl⟩:=hi
   exact⟨[],vs,rfl,hr,rfl,id⟩
  |cons c cs=>
   by_cases hS:∃n,c= .struct n
   ·obtain⟨n,rfl⟩:=hS
    simp only[im,Option.bind_eq_some_iff,Option.map_eq_some_iff,Prod.mk.injEq]at hi
    obtain⟨⟨h1,rest1⟩,e1,⟨h2,rest2⟩,e2,e3,rfl⟩:=hi
    subst e3
    obtain⟨va,vb,rfl,hr1,hD1,n1⟩:=ih _ _ _ _ _ e1 hr hO
    obtain⟨vc,vd,rfl,hr2,hD2,n2⟩:=ih _ _ _ _ _ e2 hr1 (fun h=>hO (by
     cases hq:refsL (fun _=>true) ls with
     |true=>rfl
     |false=>rw[n1 hq]at h;cases h))
    have hd:Kx F' w (.struct n) (mk n h1) va:=Kx_struct.2 (by rw[un_mk];exact hD1)
    exact⟨va++vc,vd,by simp,hr2,⟨va,vc,rfl,hd.len,hd,hD2⟩,fun h=>n2 (n1 h)⟩
   ·cases ls with
    |nil=>exfalso;cases c<;>simp_all[im]
    |cons x ls=>
     have hi':(pkL Γ.ob c x).bind (fun x=>(im Γ.ob f cs ls).map fun q=>((x,q.1),q.2))=some (h,rest):=by
      cases c<;>first|exact hi|(exfalso;exact hS ⟨_,rfl⟩)
     simp only[Option.bind_eq_some_iff,Option.map_eq_some_iff,Prod.mk.injEq]at hi'
     obtain⟨y,e1,⟨h2,rest2⟩,e2,e3,rfl⟩:=hi'
     subst e3
     simp only[RepCs]at hr
     obtain⟨u,us,rfl,hx,hr⟩:=hr
     have hd:=pkL_rep hob hF e1 hx (fun h=>hO (by simp[refsL,h]))
     obtain⟨vc,vd,rfl,hr2,hD2,n2⟩:=ih _ _ _ _ _ e2 hr (fun h=>hO (by simp[refsL,h]))
     refine⟨u::vc,vd,by simp,hr2,⟨[u],vc,rfl,hd.len▸rfl,hd,hD2⟩,fun h=>n2 ?_⟩
     simp only[refsL,Bool.or_eq_false_iff]at h
     exact h.2
theorem RepV_cells{c:Ki}{x:c.T}{es:List Value}{u:Value}(h:Kx F w c x es)(hu:u=valOf c es){σ:Lab->Value}:RepV σ F w (.v c x) u:=hu▸RepV_of_K h
theorem pk_rep(hob:∀l q,lo Γ.ob l=some q->ObR G σ ow w l q)(hF:∀b,fz G ow w b->F' b){c:Ki}{x:AV}{y:c.T}(h:pk Γ.ob c x=some y){u:Value}(hx:RepV σ (fz G ow w) w x u)
  (hO:x.refs (fun _=>true)=true->∀b l,ow b=some l->b<w.heap.size->F' b):RepV (fun _=>undef) F' w (.v c y) u:=by
 unfold pk at h
 split at h
 ·rename_i n m ls
  split at h
  ·rename_i e
   subst e
   simp only[imS,Option.bind_eq_some_iff]at h
   obtain⟨⟨hh,rest⟩,e1,h⟩:=h
   split at h
   ·rename_i hr
    simp only[Option.some.injEq]at h
    subst h
    simp only[List.isEmpty_iff]at hr
    subst hr
    simp only[RepV,RepU,AV.isS,if_true,RepC]at hx
    obtain⟨cs,rfl,_,hc⟩:=hx
    obtain⟨va,vb,rfl,hr1,hD,_⟩:=im_rep hob hF _ _ _ _ _ _ e1 hc (fun h=>hO (by simpa[AV.refs]using h))
    simp only[RepCs]at hr1
    subst hr1
    exact RepV_cells (Kx_struct.2 (by rw[un_mk];exact hD)) (by simp[valOf,Ki.isS])
   ·cases h
  ·cases h
 ·rename_i c l off
  split at h
  ·rename_i ls hl
   simp only[Option.map_eq_some_iff]at h
   obtain⟨⟨⟨hx0,_⟩,rest⟩,e1,rfl⟩:=h
   obtain⟨b,e,cs,hs,hg,hown,hreps⟩:=hob _ _ hl
   obtain⟨b',hs',eu⟩:=RepV_pt.1 hx
   rw[hs]at hs'
   cases hs'
   have hOl:∀b l,ow b=some l->b<w.heap.size->F' b:=hO rfl
   have hlt:b<w.heap.size:=(Array.getElem?_eq_some_iff.1 hg).1
   obtain⟨va,vb,ev,hr1,⟨va1,va2,eva,hl1,hK,hnil⟩,_⟩:=im_rep hob hF _ _ _ _ _ _ e1 (hreps.drop off) (fun _=>hOl)
   cases hnil
   refine RepV_ptr_some.2 ⟨⟨b,off,none⟩,va1,eu,hOl b l hown hlt,hl1,Cells_box hg off _ fun j u hj=> ?_,hK⟩
   have hlt2:j<va1.length:=(List.getElem?_eq_some_iff.1 hj).1
   have:(cs.toList.drop off)[j]? =some u:=by rw[ev,eva,List.append_nil,List.getElem?_append_left hlt2];exact hj
   simpa[List.getElem?_drop]using this
  ·cases h
 ·rcases pkL_or h with⟨hS,hnt,hcS⟩|e
  ·have hC:RepC σ (fz G ow w) w x [u]:=by
    cases x with
    |tu vs=>exact absurd rfl (hnt vs)
    |_=>simp only[RepV,RepU,hS,Bool.false_eq_true,if_false]at hx;exact hx
   exact RepV_cells (pkL_rep hob hF h hC hO) (by simp[valOf,hcS])
  ·rw[as_eq e]at hx
   exact RepV.keep (σ':=fun _=>undef) (F':=F') (w':=w) (p:=fun _=>true) (fun _ h=>by cases h) (fun b hb=>⟨hF b hb,rfl⟩) rfl hx
end
end Go.Q
namespace Go.Q
section
variable {P:Program} {S:FuncId->List SA->RA->Prop} {N:Nat} {G:Gd} {σ:Lab->Value} {ow:Own} {w:World} {a:Act} {Γ:Env} {K:Env->Prop} {Q:Exit->Act->World->Prop} {o:Oper} {F:Nat->Prop}
theorem RepV_cellsK{c:Ki}{y:c.T}{u:Value}(h:RepV σ F w (.v c y) u):Kx F w c y u.cells.toList:=by
 cases hS:c.isS with
 |true=>
  cases c<;>simp[Ki.isS]at hS
  simp only[RepV,RepU,AV.isS,if_true,RepC]at h
  obtain⟨cs,rfl,h⟩:=h
  simpa[Value.cells]using h
 |false=>
  have hns:AV.isS (.v c y)=false:=by cases c<;>simp_all[AV.isS,Ki.isS]
  simp only[RepV,RepU,hns,Bool.false_eq_true,if_false,RepC]at h
  obtain⟨d,hd⟩:=h
  have h1:u.oneCell'=true:=K_one hd u (by simp)
  have:u.cells.toList=[u]:=by cases u<;>simp_all[Value.oneCell',Value.cells]
  rw[this]
  exact⟨d,hd⟩
theorem snd_st_el2(hr:Rep N G σ ow w a Γ){l i p c xs x'' y'' t y}{y0:c.T}(hop:o.op= .store t x'' y'')(hdst:o.dst=none)(hy:O.m y y''=true)(ht:tk P t c=true)(rx:RepV σ (fz G ow w) w (.ep l c i 0) (a.eval x''))
  (hl:lo Γ.ob l=some (.row false p c xs)) {v:AV} (hev:ev Γ y=some v) (hpk:pk Γ.ob c v=some y0) (h0:0<=i) (h1:i<(xs.length:Int)) (hn:v.refs (fun _=>true)=false)
  (hk:K ⟨Γ.tm,(l,.row false p c (xs.set i.toNat y0))::Γ.ob⟩):o.wp P a w (Post N G ow w K) Q:=by
 have ry:=ev_rep hr hy hev
 have hD:=RepV_cellsK (pk_rep (F':=fz G ow w) hr.ob (fun _ h=>h) hpk ry (fun h=>by rw[hn]at h;cases h))
 obtain⟨bs,hrow,hbnd,hbow⟩:=hr.ob _ _ hl
 obtain⟨g,n,cap,hs,_,eu⟩:=RepV_ep.1 rx
 simp only[RowO,Bool.false_eq_true,if_false]at hrow
 rw[hs]at hrow
 rcases hrow with⟨_,hx0,_⟩|⟨g',cap',cur,e,rest,hv,hg,k1,k2,k3,rfl,k4⟩
 ·have hx1:(xs.length:Int)=0:=by rw[hx0];rfl
  omega
 simp only[Value.slice.injEq,Option.some.injEq,Addr.mk.injEq,true_and,and_true]at hv
 obtain⟨rfl,rfl,rfl⟩:=hv
 have hi:i.toNat<xs.length:=by omega
 have hvl:(a.eval y'').cells.toList.length=c.sz:=hD.len
 have hmul:i.toNat*c.sz+c.sz<=xs.length*c.sz:=by
  rw[<-Nat.succ_mul];exact Nat.mul_le_mul_right _ hi
 have hmul2:xs.length*c.sz<=cur.size:=by rw[k3];exact Nat.mul_le_mul_right _ k1
 have h1c:∀u∈(a.eval y'').cells.toList,u.oneCell'=true:=by
  obtain⟨d,hd⟩:=hD
  exact K_one hd
 have hrun:=run_store_at (w:=w) (c:=c) (off:=i.toNat*c.sz) ht hg (v:=a.eval y'') (by simpa using hvl) (by omega) h1c
 refine wp_skip' (w':=w.setRow g (cur.toList.take (i.toNat*c.sz)++(a.eval y'').cells.toList++cur.toList.drop (i.toNat*c.sz+(a.eval y'').cells.toList.length)).toArray) (by simp[execOp,hop,eu,hrun]) ?_
 rw[hdst,put_none]
 have hgl:ow g=some l:=hbow g (by simp)
 have hu:Upd (fun m=>m==l) ow w ow (w.setRow g (cur.toList.take (i.toNat*c.sz)++(a.eval y'').cells.toList++cur.toList.drop (i.toNat*c.sz+(a.eval y'').cells.toList.length)).toArray):=by
  refine⟨rfl,rfl,rfl,by simp,fun b hb hq=>⟨rfl,?_⟩⟩
  refine setRow_other w g b _ (fun e=> ?_)
  subst e
  have:=hq l hgl
  simp at this
 refine⟨_,σ,ow,hk,⟨hr.size,hr.defers,fun t x hx=>(hr.tm t x hx).keep (p:=fun _=>false) (fun _ _=>rfl) hu.fz (refs_false x),fun k q hq=> ?_,hr.own' hu,hr.top' hu,fun k q hq hp=>by
  simp only[lo]at hq
  split at hq
  ·rename_i he;subst he;cases hq;exact hr.pin _ _ hl hp
  ·exact hr.pin k q hq hp,hr.big⟩,hu.ext⟩
 simp only[lo]at hq
 split at hq
 ·rename_i he
  subst he
  cases hq
  have hset:=ElemsD.set (P:=fun x a p=>Kx (fz G ow w) w c x a∧p=[]) (p:=[]) (y:=y0) ⟨hD,rfl⟩ hvl k4 hi
  obtain⟨bs',e1,e2,e3⟩:=hset
  have hsub:∀b∈bs',b∈rest:=fun b hb=>by
   rcases e2 b hb with h|h
   ·exact h
   ·cases h
  have hnotg:∀b∈bs',b≠g:=fun b hb e=>by
   subst e
   exact(List.nodup_cons.1 hbnd).1 (hsub _ hb)
  refine⟨g::bs',?_,List.nodup_cons.2 ⟨fun h=>hnotg g h rfl,e3 (List.nodup_cons.1 hbnd).2 List.nodup_nil fun b hb=>by cases hb⟩,fun b hb=>hbow b (by
   rcases List.mem_cons.1 hb with h|h
   ·exact List.mem_cons.2 (.inl h)
   ·exact List.mem_cons_of_mem _ (hsub _ h))⟩
  simp only[RowO,Bool.false_eq_true,if_false]
  refine .inr ⟨g,cap,_,e,bs',by rw[hs];simp,setRow_heap w g cur _ e _ hg,by simpa using k1,k2,?_,rfl,?_⟩
  ·rw[<-k3]
   simp only[List.size_toArray,List.length_append,List.length_take,List.length_drop,Array.length_toList,hvl]
   omega
  ·have hp:=take_patch cur.toList (a.eval y'').cells.toList (i.toNat*c.sz) (xs.length*c.sz) (by rw[hvl];exact hmul) (by simpa using hmul2)
   simp only[List.length_set]at*
   have hfz:=hu.fz (G:=G)
   rw[hvl]at hfz
   rw[hp,hvl]
   refine e1.mono fun x q r hs hq=>⟨hq.1.keep hfz,hq.2⟩
 ·rename_i he
  exact(hr.ob k q hq).upd (q:=fun _=>false) hu (fun _ _=>rfl) (by simpa using fun e=>he e.symm) rfl (fun ls _=>refsL_false ls)
theorem snd_st(hr:Rep N G σ ow w a Γ){x y c}(hm:I.m P N (.st x y c) o=true)(hv:vi S (.st x y c) Γ K):o.wp P a w (Post N G ow w K) Q:=by
 obtain⟨u,he,hk⟩:=need_iff hv
 clear hv
 simp only[I.m]at hm
 split at hm
 ·rename_i t x'' y'' hop
  simp only[Bool.and_eq_true,Option.isNone_iff_eq_none]at hm
  obtain⟨⟨⟨hd,hx⟩,hy⟩,ht⟩:=hm
  have rx:=ev_rep hr hx he
  split at hk
  ·rename_i l off
   obtain⟨ob,hl,hk2⟩:=need_iff hk
   clear hk
   split at hk2
   ·rename_i ls
    obtain⟨v,hev,hk3⟩:=need_iff hk2
    obtain⟨h1,h2,h3,hk4⟩:=hk3
    exact snd_st_box hr hop hd hy ht rx hl hev h1 h2 h3 hk4
   ·exact hk2.elim
  ·rename_i l c' i
   obtain⟨ob,hl,hk2⟩:=need_iff hk
   clear hk
   split at hk2
   ·rename_i p c2 xs
    obtain⟨v,hev,hk3⟩:=need_iff hk2
    obtain⟨⟨y0,labs⟩,hpk,rfl,rfl,h0,h1,hn,hnl,hk4⟩:=need_iff hk3
    exact snd_st_el hr hop hd hy ht rx hl hev hpk h0 h1 hn hnl hk4
   ·rename_i p c2 xs
    obtain⟨v,hev,hk3⟩:=need_iff hk2
    obtain⟨y0,hpk,rfl,rfl,h0,h1,hn,hk4⟩:=need_iff hk3
    exact snd_st_el2 hr hop hd hy ht rx hl hev hpk h0 h1 hn hk4
   ·exact hk2.elim
  ·exact hk.elim
 ·cases hm
end
end Go.Q
namespace Go.Q
mutual
def AV.pre(d:Nat):AV->AV
 | .sl l=>.sl (d::l)
 | .pt l o=>.pt (d::l) o
 | .ep l c i o=>.ep (d::l) c i o
 | .ag n ls=>.ag n (preL d ls)
 | .fn f cs=>.fn f (preL d cs)
 | .tu vs=>.tu (preL d vs)
 | .v c x=>.v c x
 | .nl c=>.nl c
 | .cl c xs=>.cl c xs
 | .mp l=>.mp (d::l)
 | .ls l c n=>.ls (d::l) c n
 | .no=>.no
 | .ud=>.ud
def preL(d:Nat):List AV->List AV
 | []=>[]
 |a::as=>a.pre d::preL d as
end
def Ob.pre(d:Nat):Ob->Ob
 | .box ls=>.box (preL d ls)
 | .row p q c xs=>.row p q c xs
 | .mp kk vk es=>.mp kk vk es
def preO(d:Nat):List (Lab×Ob)->List (Lab×Ob)
 | []=>[]
 |(l,o)::r=>(d::l,o.pre d)::preO d r
theorem preO_append(d:Nat):∀a b,preO d (a++b)=preO d a++preO d b
 | [],_=>rfl
 |(l,o)::r,b=>by simp[preO,preO_append d r b]
theorem ownL_pre(d:Nat)(l:Lab):∀(j:Nat) (ls:List AV),(∀a∈ls,a.refs (fun _=>true)=false∧∃c x,a= .v c x)->(ownL (d::l) j ls).1=preL d (ownL l j ls).1∧(ownL (d::l) j ls).2=preO d (ownL l j ls).2
 |_,[],_=>⟨rfl,rfl⟩
 |j,a::ls,h=>by
  obtain⟨_,c,x,rfl⟩:=h a (by simp)
  obtain⟨h1,h2⟩:=ownL_pre d l (j+1) ls (fun b hb=>h b (by simp[hb]))
  cases c<;>simp[ownL,preL,preO,AV.pre,Ob.pre,h1,h2]
theorem lv_v:∀(f:Nat) (cs:List Ki) (x:HL cs),∀a∈lv f cs x,a.refs (fun _=>true)=false∧∃c y,a= .v c y
 |0,_,_,a,h=>by simp[lv]at h
 |_+1,[],_,a,h=>by simp[lv]at h
 |f+1,.struct n::cs,x,a,h=>by
  simp only[lv,List.mem_append]at h
  rcases h with h|h
  ·exact lv_v f _ _ a h
  ·exact lv_v f _ _ a h
 |f+1,.int k::cs,x,a,h=>by
  simp only[lv,List.mem_cons]at h
  rcases h with rfl|h
  ·exact⟨rfl,_,_,rfl⟩
  ·exact lv_v f _ _ a h
 |f+1,.bool::cs,x,a,h=>by
  simp only[lv,List.mem_cons]at h
  rcases h with rfl|h
  ·exact⟨rfl,_,_,rfl⟩
  ·exact lv_v f _ _ a h
 |f+1,.str::cs,x,a,h=>by
  simp only[lv,List.mem_cons]at h
  rcases h with rfl|h
  ·exact⟨rfl,_,_,rfl⟩
  ·exact lv_v f _ _ a h
 |f+1,.slice c::cs,x,a,h=>by
  simp only[lv,List.mem_cons]at h
  rcases h with rfl|h
  ·exact⟨rfl,_,_,rfl⟩
  ·exact lv_v f _ _ a h
 |f+1,.ptr c::cs,x,a,h=>by
  simp only[lv,List.mem_cons]at h
  rcases h with rfl|h
  ·exact⟨rfl,_,_,rfl⟩
  ·exact lv_v f _ _ a h
theorem preL_v(d:Nat):∀ {ls:List AV},(∀a∈ls,a.refs (fun _=>true)=false∧∃c y,a= .v c y)->preL d ls=ls
 | [],_=>rfl
 |a::as,h=>by
  obtain⟨_,c,y,rfl⟩:=h a (by simp)
  simp only[preL,AV.pre,preL_v d fun b hb=>h b (List.mem_cons_of_mem _ hb)]
mutual
theorem intro_pre(d:Nat)(l:Lab):∀(r:RA),(r.intro (d::l)).1=(r.intro l).1.pre d∧(r.intro (d::l)).2=preO d (r.intro l).2
 | .v c x=>by simp[RA.intro,AV.pre,preO]
 | .s c xs=>by simp[RA.intro,AV.pre,preO,Ob.pre]
 | .w c y n=>by simp[RA.intro,AV.pre,preO]
 | .cl c xs=>by simp[RA.intro,AV.pre,preO]
 | .q r os=>by simp[RA.intro,AV.pre,preO]
 | .m kk vk es=>by simp[RA.intro,AV.pre,preO,Ob.pre]
 | .b n x=>by
  have e:preL d (lvs n x)=lvs n x:=preL_v d (ls:=lvs n x) (lv_v 99 _ _)
  simp only[RA.intro,AV.pre,preO,Ob.pre,e,and_self]
 | .t rs=>by
  obtain⟨h1,h2⟩:=introL_pre d l 0 rs
  simp[RA.intro,AV.pre,h1,h2]
 | .o (.slice c) xs=>by simp[RA.intro,AV.pre,preO,Ob.pre]
 | .o (.struct n) x=>by
  obtain⟨h1,h2⟩:=ownL_pre d l 0 (lvs n x) (lv_v 99 _ _)
  simp[RA.intro,AV.pre,h1,h2]
 | .o (.int k) x=>by simp[RA.intro,AV.pre,preO]
 | .o .bool x=>by simp[RA.intro,AV.pre,preO]
 | .o .str x=>by simp[RA.intro,AV.pre,preO]
 | .o (.ptr c) x=>by simp[RA.intro,AV.pre,preO]
theorem introL_pre(d:Nat)(l:Lab):∀(i:Nat) (rs:List RA),(introL (d::l) i rs).1=preL d (introL l i rs).1∧(introL (d::l) i rs).2=preO d (introL l i rs).2
 |_,[]=>by simp[introL,preL,preO]
 |i,r::rs=>by
  obtain⟨h1,h2⟩:=introL_pre d l (i+1) rs
  obtain⟨h3,h4⟩:=intro_pre d (l++[i]) r
  rw[<-List.cons_append]at*
  simp only[introL,preL,List.cons_append]at*
  rw[h1,h2,h3,h4,preO_append]
  exact⟨rfl,rfl⟩
end
section
variable {σ σ':Lab->Value} {F F':Nat->Prop} {w w':World} {d:Nat}
mutual
theorem RepC.pre(hσ:∀l,σ' (d::l)=σ l)(hF:∀b,F b->F' b):∀ {x:AV} {cs:List Value},RepC σ F w x cs->RepC σ' F' w (x.pre d) cs
 | .v c x,cs,h=>by simp only[RepC,AV.pre]at h⊢;exact h.keep fun b hb=>⟨hF b hb,rfl⟩
 | .sl l,cs,h=>by simp only[RepC,AV.pre]at h⊢;rw[hσ];exact h
 | .pt l o,cs,h=>by simp only[RepC,AV.pre]at h⊢;rw[hσ];exact h
 | .ep l c i o,cs,h=>by simp only[RepC,AV.pre]at h⊢;rw[hσ];exact h
 | .ag n ls,cs,h=>by
  simp only[RepC,AV.pre]at h⊢
  exact⟨by rw[preL_len];exact h.1,RepCs.pre hσ hF h.2⟩
 | .fn f caps,cs,h=>by
  simp only[RepC,AV.pre]at h⊢
  obtain⟨vs,e,h⟩:=h
  exact⟨vs,e,RepCs.pre hσ hF h⟩
 | .tu _,cs,h=>by simp only[RepC]at h
 | .nl _,cs,h=>by simp only[RepC,AV.pre]at h⊢;exact h
 | .cl c xs,cs,h=>by simp only[RepC,AV.pre]at h⊢;exact⟨h.1.keep fun b hb=>⟨hF b hb,rfl⟩,h.2⟩
 | .mp l,cs,h=>by simp only[RepC,AV.pre]at h⊢;rw[hσ];exact h
 | .ls l _ _,cs,h=>by simp only[RepC,AV.pre]at h⊢;rw[hσ];exact h
 | .no,cs,h=>by simp only[RepC,AV.pre]
 | .ud,cs,h=>by simp only[RepC,AV.pre]at h⊢;exact h
theorem RepCs.pre(hσ:∀l,σ' (d::l)=σ l)(hF:∀b,F b->F' b):∀ {xs:List AV} {cs:List Value},RepCs σ F w xs cs->RepCs σ' F' w (preL d xs) cs
 | [],cs,h=>by simp only[RepCs,preL]at h⊢;exact h
 |a::as,cs,h=>by
  simp only[RepCs,preL]at h⊢
  obtain⟨u,us,e,h1,h2⟩:=h
  exact⟨u,us,e,RepC.pre hσ hF h1,RepCs.pre hσ hF h2⟩
theorem preL_len:∀(ls:List AV),(preL d ls).length=ls.length
 | []=>rfl
 |a::as=>by simp[preL,preL_len as]
end
theorem pre_isS(x:AV):(x.pre d).isS=x.isS:=by cases x<;>simp[AV.pre,AV.isS]
theorem RepU.pre(hσ:∀l,σ' (d::l)=σ l)(hF:∀b,F b->F' b){x:AV}{u:Value}(h:RepU σ F w x u):RepU σ' F' w (x.pre d) u:=by
 unfold RepU at h⊢
 rw[pre_isS]
 split at h
 ·rename_i hs
  rw[if_pos hs]
  obtain⟨cs,e,h⟩:=h
  exact⟨cs,e,h.pre hσ hF⟩
 ·rename_i hs
  rw[if_neg hs]
  exact h.pre hσ hF
theorem RepUs.pre(hσ:∀l,σ' (d::l)=σ l)(hF:∀b,F b->F' b):∀ {xs:List AV} {us:List Value},RepUs σ F w xs us->RepUs σ' F' w (preL d xs) us
 | [],us,h=>h
 |a::as,us,⟨v,vs,e,h1,h2⟩=>⟨v,vs,e,h1.pre hσ hF,RepUs.pre hσ hF h2⟩
theorem RepV.pre(hσ:∀l,σ' (d::l)=σ l)(hF:∀b,F b->F' b){x:AV}{u:Value}(h:RepV σ F w x u):RepV σ' F' w (x.pre d) u:=by
 cases x with
 |tu vs=>
  simp only[AV.pre,RepV]at h⊢
  obtain⟨us,e,h⟩:=h
  exact⟨us,e,h.pre hσ hF⟩
 |_=>exact RepU.pre hσ hF h
theorem Kx_flat{c:Ki}(hf:c.flat=true){x:c.T}{v:List Value}(h:Kx F w c x v):Kx F' w c x v:=by
 cases c<;>simp[Ki.flat]at hf
 ·exact Kx_int.2 (Kx_int.1 h)
 ·exact Kx_bool.2 (Kx_bool.1 h)
 ·exact Kx_str.2 (Kx_str.1 h)
mutual
theorem RepC.ff:∀ {x:AV} {cs:List Value},x.ff=true->RepC σ F w x cs->RepC σ F' w x cs
 | .v c x,cs,hf,h=>by simp only[RepC,AV.ff]at h hf⊢;exact Kx_flat hf h
 | .sl l,cs,_,h=>by simp only[RepC]at h⊢;exact h
 | .pt l o,cs,_,h=>by simp only[RepC]at h⊢;exact h
 | .ep l c i o,cs,_,h=>by simp only[RepC]at h⊢;exact h
 | .ag n ls,cs,hf,h=>by simp only[RepC,AV.ff]at h hf⊢;exact⟨h.1,RepCs.ff hf h.2⟩
 | .fn f caps,cs,hf,h=>by
  simp only[RepC,AV.ff]at h hf⊢
  obtain⟨vs,e,h⟩:=h
  exact⟨vs,e,RepCs.ff hf h⟩
 | .tu _,cs,_,h=>by simp only[RepC]at h
 | .nl _,cs,_,h=>by simp only[RepC]at h⊢;exact h
 | .cl _ _,cs,hf,h=>by simp[AV.ff]at hf
 | .mp _,cs,_,h=>by simp only[RepC]at h⊢;exact h
 | .ls _ _ _,cs,_,h=>by simp only[RepC]at h⊢;exact h
 | .no,cs,_,h=>by simp only[RepC]
 | .ud,cs,_,h=>by simp only[RepC]at h⊢;exact h
theorem RepCs.ff:∀ {xs:List AV} {cs:List Value},ffL xs=true->RepCs σ F w xs cs->RepCs σ F' w xs cs
 | [],cs,_,h=>by simp only[RepCs]at h⊢;exact h
 |a::as,cs,hf,h=>by
  simp only[RepCs,ffL,Bool.and_eq_true]at h hf⊢
  obtain⟨u,us,e,h1,h2⟩:=h
  exact⟨u,us,e,RepC.ff hf.1 h1,RepCs.ff hf.2 h2⟩
end
theorem RepU.ff{x:AV}{u:Value}(hf:x.ff=true)(h:RepU σ F w x u):RepU σ F' w x u:=by
 unfold RepU at h⊢
 split at h
 ·rename_i hs
  rw[if_pos hs]
  obtain⟨cs,e,h⟩:=h
  exact⟨cs,e,h.ff hf⟩
 ·rename_i hs
  rw[if_neg hs]
  exact h.ff hf
theorem RepUs.ff:∀ {xs:List AV} {us:List Value},ffL xs=true->RepUs σ F w xs us->RepUs σ F' w xs us
 | [],us,_,h=>h
 |a::as,us,hf,⟨v,vs,e,h1,h2⟩=>by
  simp only[ffL,Bool.and_eq_true]at hf
  exact⟨v,vs,e,h1.ff hf.1,RepUs.ff hf.2 h2⟩
theorem RepV.ff{x:AV}{u:Value}(hf:x.ff=true)(h:RepV σ F w x u):RepV σ F' w x u:=by
 cases x with
 |tu vs=>
  obtain⟨us,e,h⟩:=h
  exact⟨us,e,RepUs.ff (by simpa[AV.ff]using hf) h⟩
 |_=>exact RepU.ff hf h
theorem RowO.ff{dp:Bool}{c:Ki}{xs:List c.T}{v:Value}{bs:List Nat}(hf:(dp||c.flat)=true)(h:RowO w F dp c xs v bs):RowO w F' dp c xs v bs:=by
 unfold RowO at h⊢
 cases dp with
 |true=>exact h
 |false=>
  simp only[Bool.false_eq_true,if_false]at h⊢
  exact h.mono (fun _ _=>rfl) fun x a p _ hp=>⟨Kx_flat (by simpa using hf) hp.1,hp.2⟩
theorem lo_mem:∀ {ob:List (Lab×Ob)} {l:Lab} {o:Ob},lo ob l=some o->(l,o)∈ob
 | [],_,_,h=>by cases h
 |(k,q)::r,l,o,h=>by
  simp only[lo]at h
  split at h
  ·rename_i e;subst e;cases h;simp
  ·exact List.mem_cons_of_mem _ (lo_mem h)
theorem ffO_mem:∀ {ob:List (Lab×Ob)} {l:Lab} {o:Ob},ffO ob=true->(l,o)∈ob->∃dp p c xs,o= .row dp p c xs∧(dp||c.flat)=true
 | [],_,_,_,h=>by cases h
 |(k,.row dp p c xs)::r,l,o,hf,h=>by
  simp only[ffO,Bool.and_eq_true]at hf
  rcases List.mem_cons.1 h with h|h
  ·cases h;exact⟨dp,p,c,xs,rfl,hf.1⟩
  ·exact ffO_mem hf.2 h
 |(k,.box ls)::r,l,o,hf,h=>by simp[ffO]at hf
 |(k,.mp _ _ _)::r,l,o,hf,h=>by simp[ffO]at hf
theorem lo_preO:∀(ob:List (Lab×Ob)) (l:Lab) (o:Ob),lo (preO d ob) l=some o->∃l' o',l=d::l'∧o=o'.pre d∧lo ob l'=some o'
 | [],_,_,h=>by cases h
 |(k,q)::r,l,o,h=>by
  simp only[preO,lo]at h
  split at h
  ·rename_i e;subst e;cases h;exact⟨k,q,rfl,rfl,by simp[lo]⟩
  ·rename_i e
   obtain⟨l',o',rfl,rfl,h'⟩:=lo_preO r l o h
   refine⟨l',o',rfl,rfl,?_⟩
   simp only[lo]
   rw[if_neg (fun e'=>e (by rw[e']))]
   exact h'
end
end Go.Q
namespace Go.Q
section
variable {P:Program} {N:Nat} {G:Gd} {σ:Lab->Value} {ow:Own} {w:World} {a:Act} {Γ:Env} {K:Env->Prop} {Q:Exit->Act->World->Prop} {o:Oper} {F F':Nat->Prop}
theorem capS_eq:∀ {l:List AV} {s:List (Sigma Ki.T)},capS l=some s->l=capV s∧∀y∈s,y.1.isS=false
 | [],s,h=>by cases h;exact⟨rfl,fun y hy=>by cases hy⟩
 | .v c x::r,s,h=>by
  cases c with
  |struct n=>simp[capS]at h
  |_=>
   simp only[capS,Option.map_eq_some_iff]at h
   obtain⟨q,hq,rfl⟩:=h
   obtain⟨h1,h2⟩:=capS_eq hq
   refine⟨by rw[h1];rfl,fun y hy=> ?_⟩
   rcases List.mem_cons.1 hy with rfl|hy
   ·rfl
   ·exact h2 y hy
 | .sl _::_,_,h| .pt _ _::_,_,h| .ep _ _ _ _::_,_,h| .ag _ _::_,_,h| .fn _ _::_,_,h| .tu _::_,_,h| .nl _::_,_,h| .no::_,_,h| .ud::_,_,h=>by simp[capS]at h
theorem fnS_eq{x:AV}{f:FuncId×List (Sigma Ki.T)}(h:fnS x=some f):x= .fn f.1 (capV f.2):=by
 cases x<;>simp only[fnS]at h<;>try cases h
 simp only[Option.map_eq_some_iff]at h
 obtain⟨s,hs,rfl⟩:=h
 rw[(capS_eq hs).1]
theorem fnS_isS{x:AV}{f:FuncId×List (Sigma Ki.T)}(h:fnS x=some f):∀y∈f.2,y.1.isS=false:=by
 cases x<;>simp only[fnS]at h<;>try cases h
 simp only[Option.map_eq_some_iff]at h
 obtain⟨s,hs,rfl⟩:=h
 exact(capS_eq hs).2
theorem capV_refsL{p:Lab->Bool}:∀(s:List (Sigma Ki.T)),refsL p (capV s)=false
 | []=>rfl
 |⟨c,x⟩::s=>by
  simp only[AV.refs,capV,refsL,Bool.false_or]
  exact capV_refsL s
theorem capV_refs{f:FuncId}{p:Lab->Bool}(s:List (Sigma Ki.T)):(AV.fn f (capV s)).refs p=false:=by
 simp only[AV.refs];exact capV_refsL s
theorem ArgsR_append:∀ {as bs:List SA} {us vs:List Value},ArgsR F w as us->ArgsR F w bs vs->ArgsR F w (as++bs) (us++vs)
 | [],_,_,_,h,k=>by cases h;exact k
 |s::ss,_,_,_,⟨u,r,e,hs,hr⟩,k=>by subst e;exact⟨u,_,rfl,hs,ArgsR_append hr k⟩
theorem capA_rep(hF:∀b,F b->F' b):∀ {s:List (Sigma Ki.T)} {vs:List Value},(∀y∈s,y.1.isS=false)->RepCs σ F w (capV s) vs->ArgsR F' w (capA s) vs
 | [],_,_,h=>h
 |⟨c,x⟩::s,_,hs,⟨u,us,e,h1,h2⟩=>by
  refine⟨u,us,e,?_,capA_rep hF (fun y hy=>hs y (List.mem_cons_of_mem _ hy)) h2⟩
  have hc:=hs ⟨c,x⟩ (by simp)
  have:(AV.v c x).isS=false:=by cases c<;>first|rfl|cases hc
  simp only[ArgR,RepV,RepU,this,Bool.false_eq_true,if_false]
  simp only[RepC]at h1⊢
  exact h1.keep fun b hb=>⟨hF b hb,rfl⟩
theorem co_rep(hr:Rep N G σ ow w a Γ)(hF:∀b,fz G ow w b->F' b):∀ {xs:List (O×Md)} {as:List SA} {ops:List Operand},co Γ xs=some as->argsM xs ops=true->
  (coLab Γ xs=true->∀b l,ow b=some l->b<w.heap.size->F' b)->ArgsR F' w as (ops.map a.eval)
 | [],as,ops,h,hm,_=>by
  simp only[co,Option.some.injEq]at h
  subst h
  cases ops with
  |nil=>rfl
  |cons x xs=>simp[argsM]at hm
 |(x,.v c)::r,as,ops,h,hm,hO=>by
  simp only[co,Option.bind_eq_some_iff,Option.map_eq_some_iff]at h
  obtain⟨av,he,y,hp,s,hs,rfl⟩:=h
  cases ops with
  |nil=>simp[argsM]at hm
  |cons z zs=>
   simp only[argsM,Bool.and_eq_true]at hm
   have rz:=ev_rep hr hm.1 he
   refine⟨_,_,rfl,pk_rep hr.ob hF hp rz (fun h=>hO (by simp[coLab,he,h])),co_rep hr hF hs hm.2 fun h=>hO (by simp[coLab,h])⟩
 |(x,.io c)::r,as,ops,h,hm,_=>by simp[co]at h
 |(x,.fn)::r,as,ops,h,hm,hO=>by
  simp only[co,Option.bind_eq_some_iff,Option.map_eq_some_iff]at h
  obtain⟨av,he,f,hf,s,hs,rfl⟩:=h
  cases ops with
  |nil=>simp[argsM]at hm
  |cons z zs=>
   simp only[argsM,Bool.and_eq_true]at hm
   have rz:=ev_rep hr hm.1 he
   rw[fnS_eq hf]at rz
   refine⟨_,_,rfl,RepV.keep (p:=fun _=>true) (fun _ h=>by cases h) (fun b hb=>⟨hF b hb,rfl⟩) (capV_refs f.2) rz,co_rep hr hF hs hm.2 fun h=>hO (by simp[coLab,h])⟩
theorem exec_call{f:FuncId}{as:List Operand}{ts:Array TypeId}(hop:o.op= .call {callee:=.value (.func f),args:=⟨as⟩,argTypes:=ts})(hf:callOk P f=true):
  (execOp a.eval o).run P w= .ok (.enter f (as.map a.eval).toArray) w:=by
 unfold callOk at hf
 split at hf
 ·rename_i fn hfn
  simp only[Bool.and_eq_true,bne_iff_ne,ne_eq]at hf
  obtain⟨h1,h2⟩:=hf
  have h3:fn.body.isNone=false:=by cases hb:fn.body<;>simp_all
  have h1':(fn.name== "runtime.NumGoroutine")=false:=by simpa using h1
  simp[execOp,hop,resolve,Act.eval,Deferred.ofValue,invoke,callFunc,hfn,h1]
  intro h
  rw[h]at h3
  cases h3
 ·cases hf
def owCall(ow:Own)(n d:Nat)(ow':Own):Own:=fun b=>if b<n then ow b else(ow' b).map (d:: ·)
def σCall(σ:Lab->Value)(d:Nat)(σ':Lab->Value):Lab->Value:=fun l=>match l with
 | []=>σ []
 |k::l=>if k=d then σ' l else σ (k::l)
theorem upd_call{w':World}{ow':Own}{d:Nat}(he:Ext (fun _=>none) w ow' w'):Upd (hd d) ow w (owCall ow w.heap.size d ow') w':=
 ⟨he.os,he.tape,he.output,he.size,fun b hb _=>⟨if_pos hb,(he.block b hb rfl).2⟩⟩
theorem σCall_keep{d:Nat}{σ':Lab->Value}:∀l,hd d l=false->σCall σ d σ' l=σ l:=fun l hl=>by
 cases l with
 |nil=>rfl
 |cons k l=>
  simp only[hd,beq_eq_false_iff_ne]at hl
  simp[σCall,hl]
theorem ownL_pn(l:Lab):∀(j:Nat) (ls:List AV),∀x∈(ownL l j ls).2,∀pb m,x.2.pnd pb m=false
 |_,[],x,h=>by cases h
 |j,a::ls,x,h=>by
  have ih:=ownL_pn l (j+1) ls
  cases a with
  |v c y=>
   cases c with
   |slice c=>
    simp only[ownL,List.mem_cons]at h
    rcases h with rfl|h
    ·exact fun _ _=>rfl
    ·exact ih x h
   |_=>simp only[ownL]at h;exact ih x h
  |_=>simp only[ownL]at h;exact ih x h
mutual
theorem intro_pn(d:Nat)(l:Lab):∀(r:RA),∀x∈(r.intro (d::l)).2,∀pb:Lab->Bool,(∀m,pb (d::m)=false)->x.2.pnd pb x.1=false
 | .v c y,x,h=>by simp[RA.intro]at h
 | .w c y n,x,h=>by simp[RA.intro]at h
 | .cl c y,x,h=>by simp[RA.intro]at h
 | .q c y,x,h=>by simp[RA.intro]at h
 | .m kk vk es,x,h=>by
  simp only[RA.intro,List.mem_singleton]at h
  subst h;exact fun _ hp=>hp _
 | .b n y,x,h=>by
  simp only[RA.intro,List.mem_singleton]at h
  subst h;exact fun _ hp=>hp _
 | .s c xs,x,h=>by
  simp only[RA.intro,List.mem_singleton]at h
  subst h;exact fun _ _=>rfl
 | .t rs,x,h=>by
  simp only[RA.intro]at h
  exact introL_pn d l 0 rs x h
 | .o c y,x,h=>by
  cases c with
  |slice c=>
   simp only[RA.intro,List.mem_singleton]at h
   subst h;exact fun _ _=>rfl
  |struct n=>
   simp only[RA.intro]at h
   exact fun pb _=>ownL_pn (d::l) 0 _ x h pb x.1
  |_=>simp[RA.intro]at h
theorem introL_pn(d:Nat)(l:Lab):∀(i:Nat) (rs:List RA),∀x∈(introL (d::l) i rs).2,∀pb:Lab->Bool,(∀m,pb (d::m)=false)->x.2.pnd pb x.1=false
 |_,[],x,h=>by simp[introL]at h
 |i,r::rs,x,h=>by
  simp only[introL,List.mem_append,List.cons_append]at h
  rcases h with h|h
  ·exact intro_pn d _ r x h
  ·exact introL_pn d l (i+1) rs x h
end
theorem introLV_pn(l:Lab):∀(i:Nat) (ls:List LV),∀x∈(introL l i (ls.map LV.ra)).2,∀pb m,x.2.pnd pb m=false
 |_,[],x,h=>by simp[introL]at h
 |i,r::ls,x,h=>by
  simp only[List.map_cons,introL,List.mem_append]at h
  rcases h with h|h
  ·cases r<;>simp only[LV.ra,RA.intro,List.mem_singleton,List.not_mem_nil]at h<;>(subst h;exact fun _ _=>rfl)
  ·exact introLV_pn l (i+1) ls x h
theorem ret_rep(hr:Rep N G σ ow w a Γ){d:Nat}(hd':d<N){r:RA}{u:Value}{w':World}{ow':Own}{Fc:Nat->Prop}(he:Ext (fun _=>none) w ow' w')
  (hR:ResR (gd fun b=>Fc b∨w.heap.size<=b) ow' w' r u) (hs:(∀b,Fc b->fz G ow w b)∨r.safe=true):
  ∃σ'',Rep N G σ'' (owCall ow w.heap.size d ow') w' (a.put (some d) u) (Γ.ret (some d) r):=by
 obtain⟨σ',hV,hO⟩:=hR
 have hr':=(hr.kill (hd d)).upd (σ':=σCall σ d σ') (upd_call (d:=d) he) σCall_keep (Free.kill (hd d) Γ)
 have hσ:∀l,σCall σ d σ' (d::l)=σ' l:=fun l=>by simp[σCall]
 have hold:∀b l,ow' b=some l->w.heap.size<=b:=fun b l hb=>by
  rcases Nat.lt_or_ge b w.heap.size with h|h
  ·rw[(he.block b h rfl).1]at hb;cases hb
  ·exact h
 have hfz:(∀b,Fc b->fz G ow w b)->∀b,fz (gd fun b=>Fc b∨w.heap.size<=b) ow' w' b->fz G (owCall ow w.heap.size d ow') w' b:=fun hs b hb=>by
  obtain⟨h1,h2,h3⟩:=hb
  rcases Nat.lt_or_ge b w.heap.size with h|h
  ·rcases h3 with h3|h3
   ·obtain⟨k1,k2,k3⟩:=hs b h3
    exact⟨by simp[owCall,h,k1],h2,k3⟩
   ·omega
  ·exact⟨by simp[owCall,Nat.not_lt.2 h,h1],h2,hr.top.new b h⟩
 obtain⟨p1,p2⟩:=intro_pre d [] r
 have hV':RepV (σCall σ d σ') (fz G (owCall ow w.heap.size d ow') w') w' (r.intro [d]).1 u:=by
  rw[p1]
  rcases hs with hs|hs
  ·exact hV.pre hσ (hfz hs)
  ·simp only[RA.safe,Bool.and_eq_true]at hs
   have:=(RepV.ff (F':=fun _=>False) hs.1 hV).pre (σ':=σCall σ d σ') (F':=fz G (owCall ow w.heap.size d ow') w') hσ (fun _ h=>h.elim)
   exact this
 have hO':∀l q,lo (r.intro [d]).2 l=some q->ObR G (σCall σ d σ') (owCall ow w.heap.size d ow') w' l q:=fun l q hq=>by
  rw[p2]at hq
  obtain⟨l',q',rfl,rfl,hq'⟩:=lo_preO _ _ _ hq
  have hob:=hO l' q' hq'
  cases q' with
  |box ls=>
   obtain⟨b,e,cs,h1,h2,h3,h4⟩:=hob
   have hsafe:∀b,fz (gd fun b=>Fc b∨w.heap.size<=b) ow' w' b->fz G (owCall ow w.heap.size d ow') w' b:=by
    rcases hs with hs|hs
    ·exact hfz hs
    ·simp only[RA.safe,Bool.and_eq_true]at hs
     obtain⟨dp,p,c,xs,e,_⟩:=ffO_mem hs.2 (lo_mem hq')
     cases e
   refine⟨b,e,cs,by rw[hσ];exact h1,h2,?_,h4.pre hσ hsafe⟩
   have:=hold b l' h3
   simp[owCall,Nat.not_lt.2 this,h3]
  |row dp pin c xs=>
   obtain⟨bs,h1,h2,h3⟩:=hob
   refine⟨bs,?_,h2,fun b hb=> ?_⟩
   ·rw[hσ]
    rcases hs with hs|hs
    ·exact h1.keep (fun b hb=>⟨hfz hs b hb,rfl⟩) (fun _ _=>rfl)
    ·simp only[RA.safe,Bool.and_eq_true]at hs
     obtain⟨dp',p',c',xs',e,hf⟩:=ffO_mem hs.2 (lo_mem hq')
     simp only[Ob.row.injEq]at e
     obtain⟨rfl,rfl,rfl,e⟩:=e
     exact RowO.ff hf h1
   ·have:=hold b l' (h3 b hb)
    simp[owCall,Nat.not_lt.2 this,h3 b hb]
  |mp kk vk es=>
   obtain⟨g,ms,clk,h1,h2,h3,h4⟩:=hob
   have hsafe:∀b,fz (gd fun b=>Fc b∨w.heap.size<=b) ow' w' b->fz G (owCall ow w.heap.size d ow') w' b:=by
    rcases hs with hs|hs
    ·exact hfz hs
    ·simp only[RA.safe,Bool.and_eq_true]at hs
     obtain⟨dp,p,c,xs,e,_⟩:=ffO_mem hs.2 (lo_mem hq')
     cases e
   refine⟨g,ms,clk,by rw[hσ];exact h1,h2,?_,h4.keep fun b hb=>⟨hsafe b hb,rfl⟩⟩
   have:=hold g l' h3
   simp[owCall,Nat.not_lt.2 this,h3]
 refine⟨σCall σ d σ',?_⟩
 have hput:=hr'.put hd' hV'
 have key:∀(A B:List (Lab×Ob)) (l:Lab) (q:Ob),lo (A++B) l=some q->lo A l=some q∨lo B l=some q:=by
  intro A
  induction A with
  |nil=>intro B l q h;exact .inr h
  |cons x A ih=>
   intro B l q h
   obtain⟨k,z⟩:=x
   simp only[List.cons_append,lo]at h⊢
   split at h
   ·rename_i e;left;simpa[e]using h
   ·rename_i e;rw[if_neg e];exact ih B l q h
 refine⟨hput.size,hput.defers,hput.tm,fun l q hq=> ?_,hr'.own,hr'.top,fun l q hq hp=> ?_,hr'.big⟩
 ·rcases key _ _ _ _ hq with h|h
  ·exact hO' l q h
  ·exact hr'.ob l q h
 ·rcases key _ _ _ _ hq with h|h
  ·have:=intro_pn d [] r _ (lo_mem h) G.pb fun m=>hr'.big d m hd'
   simp only at this
   rw[this]at hp;cases hp
  ·exact hr'.pin l q h hp
theorem snd_ca{S:FuncId->List SA->RA->Prop}(hS':SOk P G S)(hr:Rep N G σ ow w a Γ){d f xs}(hm:I.m P N (.ca d f xs) o=true)(hv:vi S (.ca d f xs) Γ K):o.wp P a w (Post N G ow w K) Q:=by
 obtain⟨as,hco,r,hS,hsafe,hk⟩:=need_iff hv
 replace hS:=hS'.1 _ _ _ hS
 clear hv
 simp only[I.m]at hm
 split at hm
 ·rename_i f' ops ts hop
  simp only[Bool.and_eq_true,beq_iff_eq]at hm
  obtain⟨⟨⟨hd',rfl⟩,hf⟩,hargs⟩:=hm
  have hrun:=exec_call (a:=a) (w:=w) hop hf
  unfold Oper.wp
  rw[hrun,Oper.upon_enter]
  let Fc:Nat->Prop:=if coLab Γ xs=true then(fun b=>b<w.heap.size)else fz G ow w
  have hFc:∀b,Fc b->b<w.heap.size:=fun b hb=>by
   simp only[Fc]at hb
   split at hb
   ·exact hb
   ·exact hb.2.1
  have hA:ArgsR Fc w as (ops.map a.eval):=by
   refine co_rep hr (fun b hb=> ?_) hco hargs (fun h b l _ hlt=> ?_)
   ·simp only[Fc]
    split
    ·exact hb.2.1
    ·exact hb
   ·simp only[Fc,h,if_true];exact hlt
  have hL:Laid (tabs P) Fc w:=by
   rw[<-hS'.2]
   exact hr.top.laid.keep fun b hb=>⟨by
    simp only[Fc]
    split
    ·exact hb.2.1
    ·exact hb,rfl⟩
  refine(hS.2.1 Fc w _ hFc hL hA).mono fun e w' h=> ?_
  obtain⟨u,ow',rfl,hR,he⟩:=h
  have hs:(∀b,Fc b->fz G ow w b)∨r.safe=true:=by
   rcases hsafe with h|h
   ·left
    intro b hb
    simpa[Fc,h]using hb
   ·exact .inr h
  cases d with
  |none=>
   have hdn:o.dst=none:=by simpa using hd'
   show Post N G ow w K (a.put o.dst u) w'
   rw[hdn,put_none]
   refine⟨Γ,σ,fun b=>if b<w.heap.size then ow b else none,hk,?_,?_⟩
   ·have hu':Upd (fun _=>false) ow w (fun b=>if b<w.heap.size then ow b else none) w':=⟨he.os,he.tape,he.output,he.size,fun b hb _=>⟨if_pos hb,(he.block b hb rfl).2⟩⟩
    exact hr.upd hu' (fun _ _=>rfl) ⟨fun t x _=>refs_false x,fun l q _=>⟨rfl,fun ls _=>refsL_false ls⟩⟩
   ·exact⟨he.os,he.tape,he.output,he.size,fun b hb hn=>⟨by simp[hb,hn],(he.block b hb rfl).2⟩⟩
  |some d=>
   obtain⟨h1,h2⟩:=dst_of hd'
   show Post N G ow w K (a.put o.dst u) w'
   rw[h1]
   obtain⟨σ'',hrep⟩:=ret_rep hr h2 he hR hs
   exact⟨_,σ'',_,hk,hrep,(upd_call he).ext⟩
 ·cases hm
theorem exec_cf{f:FuncId}{y:Operand}{as:List Operand}{vs:List Value}{ts:Array TypeId}(hop:o.op= .call {callee:=.value y,args:=⟨as⟩,argTypes:=ts})(hy:a.eval y= .func (.func f) #[] vs.toArray)(hf:callOk P f=true):
  (execOp a.eval o).run P w= .ok (.enter f (as.map a.eval++vs).toArray) w:=by
 unfold callOk at hf
 split at hf
 ·rename_i fn hfn
  simp only[Bool.and_eq_true,bne_iff_ne,ne_eq]at hf
  obtain⟨h1,h2⟩:=hf
  have h3:fn.body.isNone=false:=by cases hb:fn.body<;>simp_all
  have h1':(fn.name== "runtime.NumGoroutine")=false:=by simpa using h1
  simp[execOp,hop,resolve,hy,Deferred.ofValue,invoke,callFunc,hfn,h1]
  intro h
  rw[h]at h3
  cases h3
 ·cases hf
theorem snd_cf{S:FuncId->List SA->RA->Prop}(hS':SOk P G S)(hr:Rep N G σ ow w a Γ){d x xs}(hm:I.m P N (.cf d x xs) o=true)(hv:vi S (.cf d x xs) Γ K):o.wp P a w (Post N G ow w K) Q:=by
 obtain⟨fs,hev,hv⟩:=need_iff hv
 obtain⟨as,hco,r,hS,hsafe,hk⟩:=need_iff hv
 replace hS:=hS'.1 _ _ _ hS
 clear hv
 simp only[Option.bind_eq_some_iff]at hev
 obtain⟨xv,hev,hfs⟩:=hev
 have hiS:=fnS_isS hfs
 rw[fnS_eq hfs]at hev
 simp only[I.m]at hm
 split at hm
 ·rename_i y ops ts hop
  simp only[Bool.and_eq_true,dstO]at hm
  obtain⟨⟨hd',hy⟩,hargs⟩:=hm
  have ry:=ev_rep hr hy hev
  simp only[RepV,RepU,AV.isS,Bool.false_eq_true,if_false,RepC,List.cons.injEq,and_true]at ry
  obtain⟨vs,ey,hvs⟩:=ry
  have hrun:=exec_cf (a:=a) (w:=w) hop ey hS.1
  unfold Oper.wp
  rw[hrun,Oper.upon_enter]
  let Fc:Nat->Prop:=if coLab Γ xs=true then(fun b=>b<w.heap.size)else fz G ow w
  have hFc:∀b,Fc b->b<w.heap.size:=fun b hb=>by
   simp only[Fc]at hb
   split at hb
   ·exact hb
   ·exact hb.2.1
  have hFz:∀b,fz G ow w b->Fc b:=fun b hb=>by
   simp only[Fc]
   split
   ·exact hb.2.1
   ·exact hb
  have hA:ArgsR Fc w (as++capA fs.2) (ops.map a.eval++vs):=by
   refine ArgsR_append ?_ (capA_rep hFz hiS hvs)
   refine co_rep hr (fun b hb=> ?_) hco hargs (fun h b l _ hlt=> ?_)
   ·simp only[Fc]
    split
    ·exact hb.2.1
    ·exact hb
   ·simp only[Fc,h,if_true];exact hlt
  have hL:Laid (tabs P) Fc w:=by
   rw[<-hS'.2]
   exact hr.top.laid.keep fun b hb=>⟨by
    simp only[Fc]
    split
    ·exact hb.2.1
    ·exact hb,rfl⟩
  refine(hS.2.1 Fc w _ hFc hL hA).mono fun e w' h=> ?_
  obtain⟨u,ow',rfl,hR,he⟩:=h
  have hs:(∀b,Fc b->fz G ow w b)∨r.safe=true:=by
   rcases hsafe with h|h
   ·left
    intro b hb
    simpa[Fc,h]using hb
   ·exact .inr h
  cases d with
  |none=>
   have hdn:o.dst=none:=by simpa using hd'
   show Post N G ow w K (a.put o.dst u) w'
   rw[hdn,put_none]
   refine⟨Γ,σ,fun b=>if b<w.heap.size then ow b else none,hk,?_,?_⟩
   ·have hu':Upd (fun _=>false) ow w (fun b=>if b<w.heap.size then ow b else none) w':=⟨he.os,he.tape,he.output,he.size,fun b hb _=>⟨if_pos hb,(he.block b hb rfl).2⟩⟩
    exact hr.upd hu' (fun _ _=>rfl) ⟨fun t x _=>refs_false x,fun l q _=>⟨rfl,fun ls _=>refsL_false ls⟩⟩
   ·exact⟨he.os,he.tape,he.output,he.size,fun b hb hn=>⟨by simp[hb,hn],(he.block b hb rfl).2⟩⟩
  |some d=>
   obtain⟨h1,h2⟩:=dst_of hd'
   show Post N G ow w K (a.put o.dst u) w'
   rw[h1]
   obtain⟨σ'',hrep⟩:=ret_rep hr h2 he hR hs
   exact⟨_,σ'',_,hk,hrep,(upd_call he).ext⟩
 ·cases hm
theorem pkO_val{ob:List (Lab×Ob)}{c:Ki}{x:AV}{r:c.T×List Lab}(h:pkO ob c x=some r){F:Nat->Prop}{u:Value}(hx:RepV σ F w x u)(hd:∃bs y,Dx w c y u.cells.toList bs):u=valOf c u.cells.toList:=by
 unfold pkO at h
 split at h
 ·rename_i n m ls
  simp only[RepV,RepU,AV.isS,if_true,RepC]at hx
  obtain⟨cs,rfl,_,_⟩:=hx
  simp[valOf,Ki.isS,Value.cells]
 ·rename_i hne
  obtain⟨hS,htu⟩:=pkOL_leaf h
  have hc:c.isS=false:=by
   unfold pkOL at h
   split at h<;>first|rfl|cases h
  have hC:RepC σ F w x [u]:=by
   cases x with
   |tu vs=>exact absurd rfl (htu vs)
   |_=>simp only[RepV,RepU,hS,Bool.false_eq_true,if_false]at hx;exact hx
  obtain⟨bs,y,hd⟩:=hd
  cases u with
  |agg cs=>
   exfalso
   unfold pkOL at h
   split at h
   ·simp only[RepC]at hC;obtain⟨A,n,cp,_,e⟩:=hC;simp at e
   ·simp[RepC]at hC
   all_goals first
    |(simp only[Option.map_eq_some_iff]at h;obtain⟨y',hy,_⟩:=h;rw[as_eq hy]at hC;simp[RepC,Kx_int,Kx_bool,Kx_str]at hC)
    |cases h
  |_=>simp[valOf,hc,Value.cells]
theorem snd_cfr{S:FuncId->List SA->RA->Prop}(hS':SOk P G S)(hr:Rep N G σ ow w a Γ){d x xs}(hm:I.m P N (.cfr d x xs) o=true)(hv:vi S (.cfr d x xs) Γ K):o.wp P a w (Post N G ow w K) Q:=by
 obtain⟨fs,hev,hv⟩:=need_iff hv
 obtain⟨as,hco,c,xr,hS,hlab,hk⟩:=need_iff hv
 replace hS:=hS'.1 _ _ _ hS
 clear hv
 simp only[Option.bind_eq_some_iff]at hev
 obtain⟨xv,hev,hfs⟩:=hev
 have hiS:=fnS_isS hfs
 rw[fnS_eq hfs]at hev
 simp only[I.m]at hm
 split at hm
 ·rename_i y ops ts hop
  simp only[Bool.and_eq_true]at hm
  obtain⟨⟨hd',hy⟩,hargs⟩:=hm
  have ry:=ev_rep hr hy hev
  simp only[RepV,RepU,AV.isS,Bool.false_eq_true,if_false,RepC,List.cons.injEq,and_true]at ry
  obtain⟨vs,ey,hvs⟩:=ry
  have hrun:=exec_cf (a:=a) (w:=w) hop ey hS.1
  unfold Oper.wp
  rw[hrun,Oper.upon_enter]
  have hA:ArgsR (fz G ow w) w (as++capA fs.2) (ops.map a.eval++vs):=by
   refine ArgsR_append ?_ (capA_rep (fun b hb=>hb) hiS hvs)
   exact co_rep hr (fun b hb=>hb) hco hargs (fun h b l _ hlt=>by rw[hlab]at h;cases h)
  have hL:Laid (tabs P) (fz G ow w) w:=by
   rw[<-hS'.2]
   exact hr.top.laid
  refine(hS.2.1 (fz G ow w) w _ (fun b hb=>hb.2.1) hL hA).mono fun e w' h=> ?_
  obtain⟨u,ow',rfl,hR,he⟩:=h
  have hu':Upd (fun _=>false) ow w (fun b=>if b<w.heap.size then ow b else none) w':=⟨he.os,he.tape,he.output,he.size,fun b hb _=>⟨if_pos hb,(he.block b hb rfl).2⟩⟩
  have hr':=hr.upd hu' (fun _ _=>rfl) ⟨fun t x _=>refs_false x,fun l q _=>⟨rfl,fun ls _=>refsL_false ls⟩⟩
  have hext:Ext ow w (fun b=>if b<w.heap.size then ow b else none) w':=⟨he.os,he.tape,he.output,he.size,fun b hb hn=>⟨by simp[hb,hn],(he.block b hb rfl).2⟩⟩
  have hV':RepV σ (fz G (fun b=>if b<w.heap.size then ow b else none) w') w' (.v c xr) u:=by
   obtain⟨σ',hV,_⟩:=hR
   refine RepV.keep (σ:=σ') (p:=fun _=>true) (fun _ h=>by cases h) (fun b hb=>⟨?_,rfl⟩) rfl hV
   obtain⟨h1,h2,h3⟩:=hb
   rcases h3 with h3|h3
   ·exact⟨by simp[h3.2.1,h3.1],h2,h3.2.2⟩
   ·exact⟨if_neg (Nat.not_lt.2 h3),h2,hr.top.new b h3⟩
  obtain⟨h1,h2⟩:=dst_of hd'
  show Post N G ow w K (a.put o.dst u) w'
  rw[h1]
  exact⟨_,σ,_,hk,hr'.put h2 hV',hext⟩
 ·cases hm
theorem frz_rep{c:Ki}{x:c.T}(hf:frz c x){ow':Own}{w':World}{u:Value}{G':Gd}(hR:ResR G' ow' w' (.o c x) u){F:Nat->Prop}(hF:∀b l,ow' b=some l->b<w'.heap.size->F b):RepV σ F w' (.v c x) u:=by
 obtain⟨σ',hV,hO⟩:=hR
 obtain⟨⟨y,labs⟩,hp,rfl,hn⟩:=need_iff hf
 obtain⟨bs,hD,hnd,hOB⟩:=pkO_rep (Γ:=⟨[],(RA.intro [] (.o c y)).2⟩) hO hp hV hn
 refine RepV_cells (hD.read fun b hb=> ?_) (pkO_val hp hV ⟨bs,y,hD⟩)
 obtain⟨l,_,hl⟩:=hOB b hb
 exact hF b l hl (hD.lt b hb)
theorem snd_cv{S:FuncId->List SA->RA->Prop}(hS':SOk P G S)(hr:Rep N G σ ow w a Γ){d f xs}(hm:I.m P N (.cv d f xs) o=true)(hv:vi S (.cv d f xs) Γ K):o.wp P a w (Post N G ow w K) Q:=by
 obtain⟨as,hco,r,hS,hk0⟩:=need_iff hv
 replace hS:=hS'.1 _ _ _ hS
 obtain⟨c,x,hk,hconv⟩:∃(c:Ki) (x:c.T),K (Γ.puto (.v c x) d)∧((r= .v c x∧(coLab Γ xs=false∨c.flat=true))∨(r= .o c x∧frz c x)):=by
  split at hk0
  ·exact⟨_,_,hk0.2,.inl ⟨rfl,hk0.1⟩⟩
  ·exact⟨_,_,hk0.2,.inr ⟨rfl,hk0.1⟩⟩
  ·exact hk0.elim
 clear hv hk0
 simp only[I.m]at hm
 split at hm
 ·rename_i f' ops ts hop
  simp only[Bool.and_eq_true,beq_iff_eq]at hm
  obtain⟨⟨⟨hd',rfl⟩,hf⟩,hargs⟩:=hm
  have hrun:=exec_call (a:=a) (w:=w) hop hf
  unfold Oper.wp
  rw[hrun,Oper.upon_enter]
  let Fc:Nat->Prop:=if coLab Γ xs=true then(fun b=>b<w.heap.size)else fz G ow w
  have hFc:∀b,Fc b->b<w.heap.size:=fun b hb=>by
   simp only[Fc]at hb
   split at hb
   ·exact hb
   ·exact hb.2.1
  have hA:ArgsR Fc w as (ops.map a.eval):=by
   refine co_rep hr (fun b hb=> ?_) hco hargs (fun h b l _ hlt=> ?_)
   ·simp only[Fc]
    split
    ·exact hb.2.1
    ·exact hb
   ·simp only[Fc,h,if_true];exact hlt
  have hL:Laid (tabs P) Fc w:=by
   rw[<-hS'.2]
   exact hr.top.laid.keep fun b hb=>⟨by
    simp only[Fc]
    split
    ·exact hb.2.1
    ·exact hb,rfl⟩
  refine(hS.2.1 Fc w _ hFc hL hA).mono fun e w' h=> ?_
  obtain⟨u,ow',rfl,hR,he⟩:=h
  have hu':Upd (fun _=>false) ow w (fun b=>if b<w.heap.size then ow b else none) w':=⟨he.os,he.tape,he.output,he.size,fun b hb _=>⟨if_pos hb,(he.block b hb rfl).2⟩⟩
  have hr':=hr.upd hu' (fun _ _=>rfl) ⟨fun t x _=>refs_false x,fun l q _=>⟨rfl,fun ls _=>refsL_false ls⟩⟩
  have hext:Ext ow w (fun b=>if b<w.heap.size then ow b else none) w':=⟨he.os,he.tape,he.output,he.size,fun b hb hn=>⟨by simp[hb,hn],(he.block b hb rfl).2⟩⟩
  have hV':RepV σ (fz G (fun b=>if b<w.heap.size then ow b else none) w') w' (.v c x) u:=by
   rcases hconv with⟨rfl,hsafe⟩|⟨rfl,hfz⟩
   rotate_left
   ·refine frz_rep hfz hR fun b l hb hlt=> ?_
    have hge:w.heap.size<=b:=by
     rcases Nat.lt_or_ge b w.heap.size with h'|h'
     ·rw[(he.block b h' rfl).1]at hb;cases hb
     ·exact h'
    exact⟨if_neg (Nat.not_lt.2 hge),hlt,hr.top.new b hge⟩
   obtain⟨σ',hV,_⟩:=hR
   rcases hsafe with h|h
   ·refine RepV.keep (σ:=σ') (p:=fun _=>true) (fun _ h=>by cases h) (fun b hb=>⟨?_,rfl⟩) rfl hV
    obtain⟨h1,h2,h3⟩:=hb
    rcases h3 with h3|h3
    ·simp only[Fc,h,Bool.false_eq_true,if_false]at h3
     exact⟨by simp[h3.2.1,h3.1],h2,h3.2.2⟩
    ·exact⟨if_neg (Nat.not_lt.2 h3),h2,hr.top.new b h3⟩
   ·exact RepV.keep (σ:=σ') (F:=fz G (fun b=>if b<w.heap.size then ow b else none) w') (p:=fun _=>true) (fun _ h=>by cases h) (fun b hb=>⟨hb,rfl⟩) rfl (RepV.ff (x:=.v c x) h hV)
  cases d with
  |none=>
   have hdn:o.dst=none:=by simpa using hd'
   show Post N G ow w K (a.put o.dst u) w'
   rw[hdn,put_none]
   exact⟨_,σ,_,hk,hr',hext⟩
  |some d=>
   obtain⟨h1,h2⟩:=dst_of hd'
   show Post N G ow w K (a.put o.dst u) w'
   rw[h1]
   exact⟨_,σ,_,hk,hr'.put h2 hV',hext⟩
 ·cases hm
end
end Go.Q
namespace Go.Q
section
variable {P:Program} {S:FuncId->List SA->RA->Prop} {N:Nat} {G:Gd} {σ:Lab->Value} {ow:Own} {w:World} {a:Act} {Γ:Env} {K:Env->Prop} {Q:Exit->Act->World->Prop} {o:Oper} {F F':Nat->Prop}
def RepVs(σ:Lab->Value)(F:Nat->Prop)(w:World):List AV->List Value->Prop
 | [],us=>us=[]
 |a::as,us=>∃v vs,us=v::vs∧RepV σ F w a v∧RepVs σ F w as vs
theorem evs_reps(hr:Rep N G σ ow w a Γ):∀ {xs:List O} {as:List AV} {ps:List (Nat×Operand)} {i:Nat},evs Γ xs=some as->psM i xs ps=true->
  ∃vs,ps.map (fun p=>(p.1,a.eval p.2))=(vs.zipIdx i).map (fun p=>(p.2,p.1))∧RepVs σ (fz G ow w) w as vs∧vs.length=xs.length
 | [],as,ps,i,h,hm=>by
  cases h
  cases ps with
  |nil=>exact⟨[],rfl,rfl,rfl⟩
  |cons x xs=>simp[psM]at hm
 |x::r,as,ps,i,h,hm=>by
  simp only[evs,Option.bind_eq_some_iff,Option.map_eq_some_iff]at h
  obtain⟨av,he,s,hs,rfl⟩:=h
  cases ps with
  |nil=>simp[psM]at hm
  |cons z zs=>
   obtain⟨j,z⟩:=z
   simp only[psM,Bool.and_eq_true,beq_iff_eq]at hm
   obtain⟨⟨rfl,hz⟩,hm⟩:=hm
   obtain⟨vs,h1,h2,h3⟩:=evs_reps hr hs hm
   exact⟨a.eval z::vs,by simp[h1],⟨_,_,rfl,ev_rep hr hz he,h2⟩,by simp[h3]⟩
theorem fold_set:∀(l:List Value) (k off:Nat) (cs:Array Value),off+k+l.length<=cs.size->
  ((l.zipIdx k).foldl (fun cs p=>cs.setIfInBounds (off+p.2) p.1) cs).toList=cs.toList.take (off+k)++l++cs.toList.drop (off+k+l.length)
 | [],k,off,cs,h=>by simp
 |x::l,k,off,cs,h=>by
  simp only[List.length_cons]at h
  simp only[List.zipIdx_cons,List.foldl_cons]
  rw[fold_set l (k+1) off _ (by simp;omega)]
  simp only[Array.toList_setIfInBounds,List.length_cons]
  have e1:off+(k+1)=off+k+1:=by omega
  rw[e1]
  have hlt:off+k<cs.toList.length:=by simp;omega
  rw[List.take_add_one,List.getElem?_set_self hlt,List.take_set_of_le (Nat.le_refl _),List.drop_set_of_lt (by omega)]
  simp only[Option.toList_some,List.append_assoc,List.singleton_append,List.cons_append,List.nil_append]
  rw[show off+k+1+l.length=off+k+(l.length+1) by omega]
theorem fill_row(sz:Nat):∀(vs:List Value) (i:Nat) (cs:Array Value),(∀v∈vs,v.cells.size=sz)->(i+vs.length)*sz<=cs.size->
  ∃cs',Instr.fill (fun i=>some (i*sz,sz)) cs ((vs.zipIdx i).map (fun p=>(p.2,p.1)))=some cs'∧cs'.size=cs.size∧cs'.toList=cs.toList.take (i*sz)++vs.flatMap (fun v=>v.cells.toList)++cs.toList.drop ((i+vs.length)*sz)
 | [],i,cs,_,_=>⟨cs,rfl,rfl,by simp⟩
 |v::vs,i,cs,hv,hl=>by
  have h1:=hv v (by simp)
  simp only[List.length_cons]at hl
  have hmul:(i+(vs.length+1))*sz=i*sz+sz+vs.length*sz:=by rw[Nat.add_mul,Nat.add_mul];omega
  rw[hmul]at hl
  simp only[List.zipIdx_cons,List.map_cons,Instr.fill]
  rw[if_neg (by simp[h1];omega)]
  have hlen:v.cells.toList.length=sz:=by simpa using h1
  have hf:=fold_set v.cells.toList 0 (i*sz) cs (by rw[hlen];omega)
  generalize hcs:(v.cells.zipIdx.foldl (fun cs x=>cs.setIfInBounds (i*sz+x.2) x.1) cs)=cs1
  have hcs':cs1.toList=cs.toList.take (i*sz)++v.cells.toList++cs.toList.drop (i*sz+sz):=by
   rw[<-hcs,<-Array.foldl_toList]
   simp only[Array.toList_zipIdx]
   rw[hf,hlen];rfl
  have hsize:cs1.size=cs.size:=by
   have:cs1.toList.length=cs.toList.length:=by
    rw[hcs'];simp only[List.length_append,List.length_take,List.length_drop,hlen,Array.length_toList];omega
   simpa using this
  obtain⟨cs',h2,h3,h4⟩:=fill_row sz vs (i+1) cs1 (fun v hv'=>hv v (List.mem_cons_of_mem _ hv')) (by rw[hsize,show(i+1+vs.length)*sz=i*sz+sz+vs.length*sz by rw[Nat.add_mul,Nat.add_mul];omega];omega)
  refine⟨cs',h2,h3.trans hsize,?_⟩
  rw[h4,hcs',List.length_cons,hmul,show(i+1+vs.length)*sz=i*sz+sz+vs.length*sz by rw[Nat.add_mul,Nat.add_mul];omega,show(i+1)*sz=i*sz+sz by rw[Nat.add_mul];omega]
  have hA:(cs.toList.take (i*sz)++v.cells.toList).length=i*sz+sz:=by
   simp only[List.length_append,List.length_take,hlen,Array.length_toList];omega
  have e1:(cs.toList.take (i*sz)++v.cells.toList++cs.toList.drop (i*sz+sz)).take (i*sz+sz)=cs.toList.take (i*sz)++v.cells.toList:=by
   rw[List.take_append_of_le_length (by rw[hA];exact Nat.le_refl _),<-hA,List.take_length]
  have e2:(cs.toList.take (i*sz)++v.cells.toList++cs.toList.drop (i*sz+sz)).drop (i*sz+sz+vs.length*sz)=cs.toList.drop (i*sz+sz+vs.length*sz):=by
   rw[List.drop_append,hA,show i*sz+sz+vs.length*sz-(i*sz+sz)=vs.length*sz by omega,List.drop_drop,List.drop_eq_nil_of_le (by rw[hA];omega)]
   simp
  rw[e1,e2]
  simp[List.append_assoc]
theorem Dx_nref{c:Ki}(hf:c.nref=true){x:c.T}{v:List Value}(h:Kx F w c x v):Dx w c x v []:=by
 cases c with
 |int k=>exact Dx_flat rfl h
 |bool=>exact Dx_flat rfl h
 |str=>exact Dx_flat rfl h
 |slice c=>simp[Ki.nref]at hf
 |ptr c=>simp[Ki.nref]at hf
 |struct n=>
  simp only[Ki.nref]at hf
  rw[Kx_struct]at h
  rw[Dx_struct]
  exact go hf h
where
 go:∀ {cs:List Ki} {y:HL cs} {v:List Value},cs.all Ki.flat=true->HAll (Kx F w) cs y v->HAllD (Dx w) cs y v []
  | [],_,_,_,h=>⟨h,rfl⟩
  |c::cs,_,_,hf,h=>by
   simp only[List.all_cons,Bool.and_eq_true]at hf
   obtain⟨a,b,e,hl,h1,h2⟩:=h
   exact⟨a,b,[],[],e,hl,rfl,Dx_flat hf.1 h1,go hf.2 h2⟩
theorem Kx_nref{c:Ki}(hf:c.nref=true){x:c.T}{v:List Value}(h:Kx F w c x v):Kx F' w c x v:=(Dx_nref hf h).read fun b hb=>by cases hb
theorem ElemsD.append{α:Type}{sz:Nat}{p:α->List Value->List Nat->Prop}:∀ {xs ys:List α} {u v:List Value} {bs cs:List Nat},ElemsD sz p xs u bs->ElemsD sz p ys v cs->ElemsD sz p (xs++ys) (u++v) (bs++cs)
 | [],_,_,_,_,_,h,k=>by obtain⟨rfl,rfl⟩:=h;exact k
 |x::xs,_,_,_,_,_,⟨a,b,p,q,e,hl,eb,hp,hr⟩,k=>by
  subst e eb
  exact⟨a,b++_,p,q++_,by simp,hl,by simp,hp,ElemsD.append hr k⟩
theorem pks_K(hob:∀l q,lo Γ.ob l=some q->ObR G σ ow w l q){c:Ki}:∀ {as:List AV} {ys:List c.T} {vs:List Value},pks Γ.ob c as=some ys->refsL (fun _=>true) as=false->RepVs σ (fz G ow w) w as vs->
  ElemsD c.sz (fun x a p=>Kx (fz G ow w) w c x a∧p=[]) ys (vs.flatMap fun v=>v.cells.toList) []∧(∀v∈vs,v.cells.size=c.sz)∧ys.length=vs.length
 | [],ys,vs,h,_,hv=>by
  cases h;cases hv
  exact⟨⟨rfl,rfl⟩,fun _ h=>(by simp at h),rfl⟩
 |x::as,ys,vs,h,hr,hv=>by
  simp only[pks,Option.bind_eq_some_iff,Option.map_eq_some_iff]at h
  obtain⟨y,hy,s,hs,rfl⟩:=h
  obtain⟨v,vs',rfl,h1,h2⟩:=hv
  simp only[refsL,Bool.or_eq_false_iff]at hr
  have hk:=RepV_cellsK (pk_rep (F':=fz G ow w) hob (fun _ h=>h) hy h1 (fun h=>by rw[hr.1]at h;cases h))
  obtain⟨k1,k2,k3⟩:=pks_K hob hs hr.2 h2
  refine⟨⟨v.cells.toList,_,[],[],rfl,hk.len,rfl,⟨hk,rfl⟩,k1⟩,fun u hu=> ?_,by simp[k3]⟩
  rcases List.mem_cons.1 hu with rfl|hu
  ·simpa using hk.len
  ·exact k2 u hu
theorem row_info{t:TypeId}{c:Ki}(h:rowOk P t c=true):∃e i z,P.underlying t=some (.slice e)∧P.info? e=some i∧i.zero=some z∧z.cells.toList=zc c∧z.cells.size=i.size∧i.size=c.sz∧i.bytes<=65536∧0<i.size:=by
 unfold rowOk at h
 split at h
 ·rename_i e he
  simp only[Bool.and_eq_true]at h
  obtain⟨i,z,hi,hz,hzc⟩:=tz_zero h.1
  rw[hi]at h
  simp only[Bool.and_eq_true,beq_iff_eq]at h
  obtain⟨_,⟨⟨h1,h2⟩,h3⟩,h4⟩:=h
  refine⟨e,i,z,he,hi,hz,hzc,?_,h1,Nat.le_of_ble_eq_true h2,by simpa[Nat.blt_eq]using h3⟩
  have:z.cells.toList.length=c.sz:=by rw[hzc,h4]
  rw[h1,<-this];simp
 ·cases h
end
end Go.Q
namespace Go.Q
section
variable {P:Program} {S:FuncId->List SA->RA->Prop} {N:Nat} {G:Gd} {σ:Lab->Value} {ow:Own} {w:World} {a:Act} {Γ:Env} {K:Env->Prop} {Q:Exit->Act->World->Prop} {o:Oper} {F F':Nat->Prop}
def σat(σ:Lab->Value)(L:Lab)(v:Value):Lab->Value:=fun l=>if l=L then v else σ l
theorem σat_keep{p:Lab->Bool}{L:Lab}{v:Value}(hL:p L=true):∀l,p l=false->σat σ L v l=σ l:=fun l hl=>by
 unfold σat
 rw[if_neg]
 rintro rfl
 rw[hL]at hl;cases hl
theorem step_own(hr:Rep N G σ ow w a Γ){d:Nat}(hd':dstOk N d o=true){p:Lab->Bool}{L:Lab}(hL:p L=true){ow':Own}{w':World}{v:Value}{x:AV}{q:Ob}
  (hrun:(execOp a.eval o).run P w= .ok (.value v) w') (hu:Upd p ow w ow' w')
  (hx:RepV (σat σ L v) (fz G ow' w') w' x v) (hq:Rep N G (σat σ L v) ow' w' a (Γ.kill p)->ObR G (σat σ L v) ow' w' L q)
  (hk:K (((Γ.kill p).new L q).put d x)) (hnp:∀pb,q.pnd pb L=false:=by intro _;rfl):o.wp P a w (Post N G ow w K) Q:=by
 obtain⟨h1,h2⟩:=dst_of hd'
 refine wp_value hrun ?_
 rw[h1]
 have hr':=(hr.kill p).upd (σ':=σat σ L v) hu (σat_keep hL) (Free.kill p Γ)
 exact⟨_,_,_,hk,(hr'.new (hq hr') (fun h=>by rw[hnp]at h;cases h)).put h2 hx,hu.ext⟩
def owRow(p:Lab->Bool)(L:Lab)(bs:List Nat)(ow:Own):Own:=fun b=>if b∈bs then some L else if(match ow b with|some m=>p m|none=>false)=true then none else ow b
theorem upd_row{p:Lab->Bool}{L:Lab}{bs:List Nat}{w':World}(hb:∀b∈bs,b<w.heap.size->∃m,ow b=some m∧p m=true)(h1:w'.os=w.os)(h2:w'.tape=w.tape)(h3:w'.output=w.output)(h4:w.heap.size<=w'.heap.size)
  (h5:∀b,b<w.heap.size->(∀l,ow b=some l->p l=false)->w'.heap[b]? =w.heap[b]?):Upd p ow w (owRow p L bs ow) w':=by
 refine⟨h1,h2,h3,h4,fun b hlt hp=>⟨?_,h5 b hlt hp⟩⟩
 unfold owRow
 rw[if_neg,if_neg]
 ·cases h:ow b with
  |none=>simp
  |some m=>simp[hp m h]
 ·intro hbs
  obtain⟨m,hm,hpm⟩:=hb b hbs hlt
  rw[hp m hm]at hpm;cases hpm
theorem owRow_at{p:Lab->Bool}{L:Lab}{bs:List Nat}{b:Nat}(h:b∈bs):owRow p L bs ow b=some L:=if_pos h
theorem app_room(t ty e e':TypeId)(i:TypeInfo)(ht:P.underlying t=some (.slice e))(hi:P.info? e=some i)
  (g sLen sCap:Nat) (cur:Array Value) (hg:w.heap[g]? =some (.cells cur e' (0,0)))
  (ad:Addr) (m c:Nat) (news:List Value) (hl:news.length=m*i.size) (hnews:∀j u,news[j]? =some u->w.cell? (ad.add j)=some u) (h1:∀u∈news,u.oneCell'=true)
  (hroom:sLen+m<=sCap) (hfit:sLen*i.size+news.length<=cur.size):
  (Builtin.append_ #[t,t] ty #[.slice (some ⟨g,0,none⟩) sLen sCap,.slice (some ad) m c]).run P w=
   .ok (.slice (some ⟨g,0,none⟩) (sLen+m) sCap) (w.setRow g (cur.toList.take (sLen*i.size)++news++cur.toList.drop (sLen*i.size+news.length)).toArray):=by
 have hf:=run_firstCells_some (P:=P) w i.size m ad m c news hl hnews
 have hst:=run_storeCells_at P g (sLen*i.size) e' news 0 cur w hg (by simpa using hfit) h1
 simp only[Nat.add_zero]at hst
 simp[Builtin.append_,run_underlying ht,sizeOf,typeInfo,hi,Builtin.lenOf,hroom,hf,Addr.add_lit,hst]
theorem app_nothing(t ty e:TypeId)(i:TypeInfo)(ht:P.underlying t=some (.slice e))(hi:P.info? e=some i)
  (A:Option Addr) (n cap:Nat) (hc:n<=cap) (B:Option Addr) (c:Nat):
  (Builtin.append_ #[t,t] ty #[.slice A n cap,.slice B 0 c]).run P w= .ok (.slice A n cap) w:=by
 cases A<;>cases B<;>simp[Builtin.append_,run_underlying ht,sizeOf,typeInfo,hi,Builtin.lenOf,Builtin.firstCells,loadCells,loadCellsFrom,hc,storeCells]
theorem run_app{t ty e:TypeId}{i:TypeInfo}{z:Value}(ht:P.underlying t=some (.slice e))(hi:P.info? e=some i)(hz:i.zero=some z)(hzs:z.cells.size=i.size)(hsz:0<i.size)(hby:i.bytes<=65536)
  {A0:Option Addr} {n cap0:Nat} {xs:List Value} (hxl:xs.length=n*i.size)
  (hbase:(n=0∧cap0=0)∨∃g cur e',A0=some ⟨g,0,none⟩∧w.heap[g]? =some (.cells cur e' (0,0))∧n<=cap0∧cap0<=maxLen∧cur.size=cap0*i.size∧cur.toList.take (n*i.size)=xs)
  {B:Option Addr} {m c:Nat} {news:List Value} (hl:news.length=m*i.size) (hB:m=0∨∃ad,B=some ad∧∀j u,news[j]? =some u->w.cell? (ad.add j)=some u) (h1:∀u∈news,u.oneCell'=true) (hb:n+m<=33554432):
  ∃v' w',(Builtin.append_ #[t,t] ty #[.slice A0 n cap0,.slice B m c]).run P w= .ok v' w'∧
   ((m=0∧v'= .slice A0 n cap0∧w'=w)∨
    (∃g cur e' cur',A0=some ⟨g,0,none⟩∧w.heap[g]? =some (.cells cur e' (0,0))∧v'= .slice A0 (n+m) cap0∧n+m<=cap0∧cap0<=maxLen∧w'=w.setRow g cur'∧cur'.size=cap0*i.size∧cur'.toList.take ((n+m)*i.size)=xs++news)∨
    (∃cap' cur',v'= .slice (some ⟨w.heap.size,0,none⟩) (n+m) cap'∧n+m<=cap'∧cap'<=maxLen∧w'=w.drew.alloc (.cells cur' e)∧cur'.size=cap'*i.size∧cur'.toList.take ((n+m)*i.size)=xs++news)):=by
 have h63:n+m<=maxLen:=by simp only[maxLen];omega
 have hbytes:(n+m)*i.bytes<=140737488355328:=Nat.le_trans (Nat.mul_le_mul hb hby) (by decide)
 have hlen:(xs++news).length=(n+m)*i.size:=by rw[List.length_append,hxl,hl,Nat.add_mul]
 have hnc:n<=cap0:=by rcases hbase with h|⟨_,_,_,_,_,h,_⟩<;>omega
 by_cases hm:m=0
 ·subst hm
  exact⟨_,_,app_nothing t ty e i ht hi A0 n cap0 hnc B c,.inl ⟨rfl,rfl,rfl⟩⟩
 obtain⟨ad,rfl,hnews⟩:=hB.resolve_left hm
 have grown:∀(old:Nat),old<n+m->n+m<=grownCap w (n+m) old e∧grownCap w (n+m) old e<=maxLen∧
   (xs.toArray++news.toArray++Builtin.zeroCells z.cells (grownCap w (n+m) old e-(n+m))).size=grownCap w (n+m) old e*i.size∧
   (xs.toArray++news.toArray++Builtin.zeroCells z.cells (grownCap w (n+m) old e-(n+m))).toList.take ((n+m)*i.size)=xs++news:=by
  intro old ho
  have hge:=grownCap_ge w (n+m) old e
  refine⟨hge,grownCap_le_maxLen w (n+m) old e h63,?_,?_⟩
  ·simp only[Array.size_append,List.size_toArray,size_zeroCells,hzs,hxl,hl,<-Nat.add_mul]
   congr 1
   omega
  ·simp only[Array.toList_append,List.append_assoc]
   rw[<-List.append_assoc,<-hlen]
   exact List.take_left
 rcases hbase with⟨rfl,rfl⟩|⟨g,cur,e',rfl,hg,_,hcm,hcs,htake⟩
 ·have hx:xs=[]:=List.eq_nil_of_length_eq_zero (by simpa using hxl)
  subst hx
  obtain⟨k1,k2,k3,k4⟩:=grown 0 (by omega)
  cases A0 with
  |none=>
   have hr:=run_append_nil (P:=P) w t ty e i z ht hi hz ad m c news hl hnews (by omega) (by omega) (by have hb:=hbytes;simp only[Nat.zero_add]at hb;omega)
   simp only[Nat.zero_add,List.nil_append,Array.empty_append]at k1 k2 k3 k4⊢
   exact⟨_,_,hr,.inr (.inr ⟨_,_,rfl,k1,k2,rfl,k3,k4⟩)⟩
  |some b=>
   have hr:=run_append_grow (P:=P) w t ty e i z ht hi hz b 0 0 [] (by simp) (by simp) ad m c news hl hnews (by omega) (by omega) (growslice_fits (by omega) hbytes)
   exact⟨_,_,hr,.inr (.inr ⟨_,_,rfl,k1,k2,rfl,k3,k4⟩)⟩
 ·by_cases hroom:n+m<=cap0
  ·have hfit:n*i.size+news.length<=cur.size:=by rw[hl,hcs,<-Nat.add_mul];exact Nat.mul_le_mul_right _ hroom
   have hr:=app_room (P:=P) t ty e e' i ht hi g n cap0 cur hg ad m c news hl hnews h1 hroom hfit
   refine⟨_,_,hr,.inr (.inl ⟨g,cur,e',_,rfl,hg,rfl,hroom,hcm,rfl,?_,?_⟩)⟩
   ·simp only[List.size_toArray,List.length_append,List.length_take,List.length_drop,Array.length_toList]
    omega
   ·rw[htake,<-hlen]
    exact List.take_left
  ·have holds:∀j u,xs[j]? =some u->w.cell? ((⟨g,0,none⟩:Addr).add j)=some u:=by
    intro j u hu
    have hadd:(⟨g,0,none⟩:Addr).add j=⟨g,j,none⟩:=by unfold Addr.add;split<;>simp_all
    rw[hadd,cell_of_row w g j cur e' (0,0) hg]
    rw[<-htake,List.getElem?_take]at hu
    split at hu
    ·simpa using hu
    ·cases hu
   have hr:=run_append_grow (P:=P) w t ty e i z ht hi hz ⟨g,0,none⟩ n cap0 xs hxl holds ad m c news hl hnews (by omega) (by omega) (growslice_fits (by omega) hbytes)
   obtain⟨k1,k2,k3,k4⟩:=grown cap0 (by omega)
   exact⟨_,_,hr,.inr (.inr ⟨_,_,rfl,k1,k2,rfl,k3,k4⟩)⟩
end
end Go.Q
namespace Go.Q
section
variable {P:Program} {S:FuncId->List SA->RA->Prop} {N:Nat} {G:Gd} {σ:Lab->Value} {ow:Own} {w:World} {a:Act} {Γ:Env} {K:Env->Prop} {Q:Exit->Act->World->Prop} {o:Oper} {F F':Nat->Prop}
theorem run_bs{t e:TypeId}{i:TypeInfo}{z:Value}(ht:P.underlying t=some (.slice e))(hi:P.info? e=some i)(hz:i.zero=some z)(hzs:z.cells.size=i.size)(hsz:0<i.size)
  (vs:List Value) (hv:∀v∈vs,v.cells.size=i.size) (hn:vs.length*i.size<=16777216):
  (Instr.buildSlice t vs.length ((vs.zipIdx 0).map (fun p=>(p.2,p.1))).toArray).run P w= .ok (.slice (some ⟨w.heap.size,0,none⟩) vs.length vs.length) (w.alloc (.cells (vs.flatMap fun v=>v.cells.toList).toArray e)):=by
 have key:∀(zs:Array Value),zs.size=vs.length*i.size->Instr.fill (fun j=>some (j*i.size,i.size)) zs ((vs.zipIdx 0).map (fun p=>(p.2,p.1)))=some (vs.flatMap fun v=>v.cells.toList).toArray:=by
  intro zs hzz
  obtain⟨cs,h1,h2,h3⟩:=fill_row i.size vs 0 zs hv (by rw[hzz,Nat.zero_add];exact Nat.le_refl _)
  rw[h1]
  congr 1
  apply Array.toList_inj.1
  rw[h3,Nat.zero_mul,Nat.zero_add,List.drop_eq_nil_of_le (by simp[hzz])]
  simp
 by_cases h0:vs.length=0
 ·have:vs=[]:=List.eq_nil_of_length_eq_zero h0
  subst this
  simp[Instr.buildSlice,run_underlying ht,sizeOf,typeInfo,hi,Instr.fill,newRow]
  have e0:Array.map (fun _=>(default:Value)) (Array.range 0)= #[]:=Array.eq_empty_of_size_eq_zero (by simp)
  rw[e0]
 ·have h1:vs.length*i.size≠0:=by
   intro h
   rcases Nat.mul_eq_zero.1 h with h|h<;>omega
  have h2:¬(16777216<vs.length*i.size):=by omega
  have hk:=key ((Array.range (vs.length*i.size)).map (z.cells[· % i.size]!)) (by simp)
  rw[<-hzs]at hk
  simp only[<-hzs]at h1 h2⊢
  simp[Instr.buildSlice,run_underlying ht,sizeOf,typeInfo,hi,zeroValue,hz,<-hzs,h1,h2,newRow]
  rw[<-hzs]at*
  simp[hk]
theorem Rep.grow(hr:Rep N G σ ow w a Γ)(ob:Obj):Rep N G σ ow (w.alloc ob) a Γ∧Ext ow w ow (w.alloc ob):=by
 have hu:Upd (fun _=>false) ow w ow (w.alloc ob):=⟨rfl,rfl,rfl,by simp,fun b hb _=>⟨rfl,heap_old w ob b hb⟩⟩
 exact⟨hr.upd hu (fun _ _=>rfl) ⟨fun t x _=>refs_false x,fun l q _=>⟨rfl,fun ls _=>refsL_false ls⟩⟩,hu.ext⟩
theorem exec_bs{t:TypeId}{ps:List (Nat×Operand)}{n:Nat}{vs:List Value}{r:Result Value}(hop:o.op= .buildSlice t n ⟨ps⟩)(he:ps.map (fun p=>(p.1,a.eval p.2))=(vs.zipIdx 0).map (fun p=>(p.2,p.1))){v:Value}{w':World}
  (h:(Instr.buildSlice t n ((vs.zipIdx 0).map (fun p=>(p.2,p.1))).toArray).run P w= .ok v w'):(execOp a.eval o).run P w= .ok (.value v) w':=by
 have:(ps.map (fun p=>(p.1,a.eval p.2))).toArray=((vs.zipIdx 0).map (fun p=>(p.2,p.1))).toArray:=by rw[he]
 simp only[execOp,hop]
 simp only[List.map_toArray]at this⊢
 rw[this]
 simp[h]
theorem snd_bs(hr:Rep N G σ ow w a Γ){d dp c xs}(hm:I.m P N (.bs d dp c xs) o=true)(hv:vi S (.bs d dp c xs) Γ K):o.wp P a w (Post N G ow w K) Q:=by
 simp only[I.m]at hm
 split at hm
 ·rename_i t n ps hop
  simp only[Bool.and_eq_true,beq_iff_eq]at hm
  obtain⟨⟨⟨⟨hd',rfl⟩,hps⟩,hrow⟩,hn⟩:=hm
  have hn':=Nat.le_of_ble_eq_true hn
  obtain⟨e,i,z,ht,hi,hz,hzc,hzs,his,hby,hsz⟩:=row_info hrow
  cases xs with
  |nil=>
   simp only[vi]at hv
   obtain⟨h1,h2⟩:=dst_of hd'
   cases ps with
   |cons p ps=>simp[psM]at hps
   |nil=>
    have hrun:=exec_bs (a:=a) (w:=w) (vs:=[]) (r:=default) hop rfl (run_bs ht hi hz hzs hsz [] (fun _ h=>by cases h) (by simp))
    refine wp_value hrun ?_
    rw[h1]
    obtain⟨hr',he⟩:=hr.grow (.cells (([]:List Value).flatMap fun v=>v.cells.toList).toArray e)
    exact⟨_,σ,ow,hv,hr'.put h2 (RepV_nl.2 ⟨_,rfl⟩),he⟩
  |cons x xs=>
   simp only[vi]at hv
   obtain⟨as,hev,hv⟩:=need_iff hv
   obtain⟨ys,hys,hc,hk⟩:=need_iff hv
   simp only[Bool.and_eq_true,Bool.not_eq_true',Bool.or_eq_true]at hc
   obtain⟨hdp,hrefs⟩:=hc
   obtain⟨vs,e1,e2,e3⟩:=evs_reps (hr.kill (hd d)) hev hps
   obtain⟨_,k2,k3⟩:=pks_K (hr.kill (hd d)).ob hys hrefs e2
   have hrun:=exec_bs (a:=a) (w:=w) (r:=default) hop e1 (by rw[<-e3];exact run_bs ht hi hz hzs hsz vs (fun v h=>by rw[k2 v h,his]) (by rw[e3,his];exact hn'))
   refine step_new hr hd' hrun (RepV_sl.2 ⟨_,_,_,by simp[σnew],rfl⟩) (fun hr'=> ?_) hk
   obtain⟨vs',f1,f2,f3⟩:=evs_reps hr' hev hps
   have hvs:vs'=vs:=by
    rw[e1]at f1
    have:=congrArg (List.map Prod.snd) f1
    simpa[List.map_map,Function.comp_def]using this.symm
   subst hvs
   obtain⟨g1,g2,g3⟩:=pks_K hr'.ob hys hrefs f2
   have htake:((vs'.flatMap fun v=>v.cells.toList).toArray.toList.take (ys.length*c.sz))=vs'.flatMap fun v=>v.cells.toList:=by
    rw[List.toList_toArray,List.take_of_length_le (by rw[g1.len];exact Nat.le_refl _)]
   have hcap:vs'.length<=maxLen:=by
    have:vs'.length*1<=vs'.length*c.sz:=Nat.mul_le_mul_left _ (by omega)
    simp only[maxLen]
    rw[<-e3]at hn'
    omega
   have hsz':(vs'.flatMap fun v=>v.cells.toList).toArray.size=vs'.length*c.sz:=by
    have:=g1.len
    rw[g3]at this
    simpa using this
   refine⟨[w.heap.size],?_,by simp,by simp⟩
   have hσ:σnew σ d (.slice (some ⟨w.heap.size,0,none⟩) vs'.length vs'.length) [d]= .slice (some ⟨w.heap.size,0,none⟩) ys.length vs'.length:=by simp[σnew,g3]
   rw[<-e3]at*
   rw[hσ]
   cases dp with
   |false=>
    simp only[RowO,Bool.false_eq_true,if_false]
    exact .inr ⟨w.heap.size,vs'.length,_,e,[],rfl,heap_new w _,by omega,hcap,hsz',rfl,by rw[htake];exact g1⟩
   |true=>
    simp only[RowO,if_true]
    refine .inr ⟨w.heap.size,vs'.length,_,e,[],rfl,heap_new w _,by omega,hcap,hsz',rfl,?_⟩
    rw[htake]
    refine g1.mono fun x a p _ h=> ?_
    rw[h.2]
    exact Dx_nref (by simpa using hdp) h.1
 ·cases hm
theorem places_of{P:Program}:∀(fs:List Field),fs.all (fun f=>(P.info? f.type).isSome)=true->∃pl:List (Nat×Nat),fs.mapM (fun f=>(P.info? f.type).map fun i=>(f.offset,i.size))=some pl∧
  ∀(j:Nat) (f:Field) (i:TypeInfo),fs[j]? =some f->P.info? f.type=some i->pl[j]? =some (f.offset,i.size)
 | [],_=>⟨[],rfl,fun j f i h=>by simp at h⟩
 |f::fs,h=>by
  simp only[List.all_cons,Bool.and_eq_true]at h
  obtain⟨pl,h1,h2⟩:=places_of fs h.2
  obtain⟨i,hi⟩:=Option.isSome_iff_exists.1 h.1
  refine⟨(f.offset,i.size)::pl,by simp[List.mapM_cons,hi,h1],fun j f' i' hj hi'=> ?_⟩
  cases j with
  |zero=>
   simp only[List.getElem?_cons_zero,Option.some.injEq]at hj
   subst hj
   rw[hi]at hi'
   cases hi'
   rfl
  |succ j=>simpa using h2 j f' i' (by simpa using hj) hi'
theorem fill_rep(hr:Rep N G σ ow w a Γ){n:Nat}{fs:Array Field}{pl:List (Nat×Nat)}(hpl:∀(j:Nat) (f:Field) (i:TypeInfo),fs.toList[j]? =some f->P.info? f.type=some i->pl[j]? =some (f.offset,i.size)):
  ∀ {ps:List (Nat×Nat×O)} {qs:List (Nat×Operand)} {as:List (Nat×AV)} {ls:List AV} {cs:Array Value},evp Γ ps=some as->bdM P n fs ps qs=true->cs.size=ssz n->RepCs σ (fz G ow w) w ls cs.toList->
  ∃cs',Instr.fill (pl.toArray[·]?) cs (qs.map fun p=>(p.1,a.eval p.2))=some cs'∧cs'.size=ssz n∧RepCs σ (fz G ow w) w (fillA ls as) cs'.toList
 | [],qs,as,ls,cs,h,hm,hs,hc=>by
  cases h
  cases qs with
  |nil=>exact⟨cs,rfl,hs,hc⟩
  |cons q qs=>simp[bdM]at hm
 |(off,sz,x)::ps,qs,as,ls,cs,h,hm,hs,hc=>by
  simp only[evp,Option.bind_eq_some_iff]at h
  obtain⟨av,he,h⟩:=h
  split at h
  ·rename_i hst
   simp only[Option.map_eq_some_iff]at h
   obtain⟨s,hs',rfl⟩:=h
   simp only[Bool.and_eq_true,beq_iff_eq]at hst
   cases qs with
   |nil=>simp[bdM]at hm
   |cons q qs=>
    obtain⟨j,y⟩:=q
    simp only[bdM,Bool.and_eq_true]at hm
    obtain⟨⟨hf,hy⟩,hm⟩:=hm
    split at hf
    ·rename_i f hfj
     simp only[Bool.and_eq_true,beq_iff_eq]at hf
     obtain⟨⟨rfl,ht⟩,hle⟩:=hf
     have hle':=Nat.le_of_ble_eq_true hle
     obtain⟨i,hi,rfl⟩:=tsz_info ht
     have hp:=hpl j f i (by simpa using hfj) hi
     obtain⟨hv,_⟩:=cells_rep hst.1 (ev_rep hr hy he)
     have hvl:(a.eval y).cells.toList.length=i.size:=by rw[hv.length];exact hst.2
     have hvs:(a.eval y).cells.size=i.size:=by simpa using hvl
     have hfo:=fold_set (a.eval y).cells.toList 0 f.offset cs (by rw[hvl,hs];omega)
     generalize hcs:((a.eval y).cells.zipIdx.foldl (fun cs x=>cs.setIfInBounds (f.offset+x.2) x.1) cs)=cs1
     have hcs':cs1.toList=cs.toList.take f.offset++(a.eval y).cells.toList++cs.toList.drop (f.offset+i.size):=by
      rw[<-hcs,<-Array.foldl_toList]
      simp only[Array.toList_zipIdx]
      rw[hfo,hvl];rfl
     have hsize:cs1.size=ssz n:=by
      have:cs1.toList.length=ssz n:=by
       rw[hcs'];simp only[List.length_append,List.length_take,List.length_drop,hvl,Array.length_toList,hs];omega
      simpa using this
     have hrep:=RepCs.setAt (ls:=ls) (xs:=cellsOf av) (cs:=cs.toList) (us:=(a.eval y).cells.toList) f.offset hc hv (by rw[hvl];simp[hs];exact hle')
     rw[hvl,<-hcs']at hrep
     obtain⟨cs',k1,k2,k3⟩:=fill_rep hr hpl hs' hm hsize hrep
     refine⟨cs',?_,k2,k3⟩
     simp only[List.map_cons,Instr.fill,List.getElem?_toArray,hp]
     rw[if_neg (by simp[hvs,hs];omega)]
     simp only[hcs]
     simpa using k1
    ·cases hf
  ·cases h
theorem snd_bd(hr:Rep N G σ ow w a Γ){d n ps}(hm:I.m P N (.bd d n ps) o=true)(hv:vi S (.bd d n ps) Γ K):o.wp P a w (Post N G ow w K) Q:=by
 simp only[vi]at hv
 obtain⟨as,hev,hk⟩:=need_iff hv
 simp only[I.m]at hm
 split at hm
 ·rename_i t qs hop
  simp only[Bool.and_eq_true,bdOk]at hm
  obtain⟨hd',hm⟩:=hm
  split at hm
  ·rename_i fs ht
   simp only[Bool.and_eq_true,beq_iff_eq]at hm
   obtain⟨⟨⟨htz,hlen⟩,hbd⟩,hall⟩:=hm
   obtain⟨i,z,hi,hz,hzc⟩:=tz_zero htz
   obtain⟨pl,h1,h2⟩:=places_of fs.toList hall
   have hzs:z.cells.size=ssz n:=by
    have:z.cells.toList.length=ssz n:=by rw[hzc];exact hlen
    simpa using this
   obtain⟨cs',k1,k2,k3⟩:=fill_rep hr h2 hev hbd hzs (by rw[hzc];exact zA_rep (.struct n))
   have hb:P.built t (qs.map fun p=>(p.1,a.eval p.2))=some cs':=by
    unfold Program.built
    simp only[hi,ht,hz,h1]
    exact k1
   have hrun:=run_build (P:=P) w t (qs.map fun p=>(p.1,a.eval p.2)).toArray cs' (by simpa using hb)
   refine step_put hr hd' (v:=.agg cs') ?_ ?_ hk
   ·simp[execOp,hop,hrun]
   ·simp only[RepV,RepU,AV.isS,if_true]
    refine⟨cs'.toList,by simp,?_⟩
    simp only[RepC]
    refine⟨?_,k3⟩
    rw[<-k3.length];simpa using k2
  ·cases hm
 ·cases hm
end
end Go.Q
namespace Go.Q
section
variable {P:Program} {S:FuncId->List SA->RA->Prop} {N:Nat} {G:Gd} {σ:Lab->Value} {ow:Own} {w:World} {a:Act} {Γ:Env} {K:Env->Prop} {Q:Exit->Act->World->Prop} {o:Oper} {F F':Nat->Prop}
theorem rows_flat{α:Type}{sz:Nat}{q:α->List Value->Prop}:∀ {ys:List α} {ad:Addr},(∀i (h:i<ys.length),∃es,es.length=sz∧Cells w (ad.add (i*sz)) es∧q ys[i] es)->
  ∃news,news.length=ys.length*sz∧(∀j u,news[j]? =some u->w.cell? (ad.add j)=some u)∧ElemsD sz (fun x a p=>q x a∧p=[]) ys news []
 | [],ad,_=>⟨[],by simp,fun j u h=>by simp at h,rfl,rfl⟩
 |y::ys,ad,h=>by
  obtain⟨es,h1,h2,h3⟩:=h 0 (by simp)
  obtain⟨news,k1,k2,k3⟩:=rows_flat (ys:=ys) (ad:=ad.add sz) (fun i hi=>by
   obtain⟨es,g1,g2,g3⟩:=h (i+1) (by simpa using hi)
   refine⟨es,g1,?_,by simpa using g3⟩
   rw[add_add,show sz+i*sz=(i+1)*sz by rw[Nat.add_mul];omega];exact g2)
  refine⟨es++news,by simp[h1,k1,Nat.add_mul];omega,fun j u hj=> ?_,es,news,[],[],rfl,h1,rfl,⟨h3,rfl⟩,k3⟩
  rcases Nat.lt_or_ge j es.length with hlt|hge
  ·rw[List.getElem?_append_left hlt]at hj
   have:=h2 j u hj
   rwa[Nat.zero_mul,add_add,Nat.zero_add]at this
  ·rw[List.getElem?_append_right hge]at hj
   have:=k2 _ u hj
   rw[add_add]at this
   rwa[show sz+(j-es.length)=j by omega]at this
theorem Kx_one{c:Ki}{x:c.T}{v:List Value}(h:Kx F w c x v):∀u∈v,u.oneCell'=true:=h.elim fun _ h=>K_one h
theorem ElemsD.cells_one{α:Type}{sz:Nat}{P:α->List Value->List Nat->Prop}(hP:∀x a p,P x a p->∀u∈a,u.oneCell'=true):∀ {xs:List α} {v bs},ElemsD sz P xs v bs->∀u∈v,u.oneCell'=true
 | [],_,_,h,u,hu=>by rw[h.1]at hu;cases hu
 |_::xs,_,_,⟨a,b,p,q,e,hl,eb,hp,hr⟩,u,hu=>by
  subst e
  rcases List.mem_append.1 hu with h|h
  ·exact hP _ _ _ hp u h
  ·exact hr.cells_one hP u h
theorem shr_rep(hr:Rep N G σ ow w a Γ){c:Ki}{x:AV}{ys:List c.T}(h:pk Γ.ob (.slice c) x=some ys)(hs:shr Γ.ob c x=true){u:Value}(hx:RepV σ (fz G ow w) w x u):
  ∃B cap news,u= .slice B ys.length cap∧news.length=ys.length*c.sz∧(ys.length=0∨∃ad,B=some ad∧∀j v,news[j]? =some v->w.cell? (ad.add j)=some v)∧
   (∀v∈news,v.oneCell'=true)∧ElemsD c.sz (fun x a p=>Kx (fz G ow w) w c x a∧p=[]) ys news []:=by
 have main:∀ {B:Option Addr} {cap:Nat},u= .slice B ys.length cap->(∀i (h:i<ys.length),∃ad es,B=some ad∧es.length=c.sz∧Cells w (ad.add (i*c.sz)) es∧Kx (fz G ow w) w c ys[i] es)->∃B cap news,u= .slice B ys.length cap∧news.length=ys.length*c.sz∧(ys.length=0∨∃ad,B=some ad∧∀j v,news[j]? =some v->w.cell? (ad.add j)=some v)∧
   (∀v∈news,v.oneCell'=true)∧ElemsD c.sz (fun x a p=>Kx (fz G ow w) w c x a∧p=[]) ys news []:=by
  intro B cap hu hi
  by_cases h0:ys.length=0
  ·have:ys=[]:=List.eq_nil_of_length_eq_zero h0
   subst this
   exact⟨B,cap,[],hu,by simp,.inl rfl,fun v hv=>(by simp at hv),rfl,rfl⟩
  ·obtain⟨ad,_,hB,_⟩:=hi 0 (by omega)
   subst hB
   obtain⟨news,k1,k2,k3⟩:=rows_flat (w:=w) (q:=fun x es=>Kx (fz G ow w) w c x es) (ys:=ys) (ad:=ad) (fun i hlt=>by
    obtain⟨ad',es,e,g1,g2,g3⟩:=hi i hlt
    cases e
    exact⟨es,g1,g2,g3⟩)
   exact⟨some ad,cap,news,hu,k1,.inr ⟨ad,rfl,k2⟩,k3.cells_one (fun x a p h=>Kx_one h.1),k3⟩
 have hnil:ys=[]->(∃B cap,u= .slice B 0 cap)->∃B cap news,u= .slice B ys.length cap∧news.length=ys.length*c.sz∧(ys.length=0∨∃ad,B=some ad∧∀j v,news[j]? =some v->w.cell? (ad.add j)=some v)∧
   (∀v∈news,v.oneCell'=true)∧ElemsD c.sz (fun x a p=>Kx (fz G ow w) w c x a∧p=[]) ys news []:=by
  rintro rfl ⟨B,cap,rfl⟩
  exact main rfl fun i hi=>absurd hi (by simp)
 cases x with
 |v c' y=>
  simp only[pk,pkL]at h
  have e:=as_eq h
  cases e
  obtain⟨A,cap,hu,_,_,hi⟩:=RepV_slice.1 hx
  refine main hu fun i hlt=> ?_
  obtain⟨ad,es,e,_,g1,g2,g3⟩:=hi i hlt
  exact⟨ad,es,e,g1,g2,g3⟩
 |nl c'=>
  simp only[pk,pkL,Option.some.injEq]at h
  obtain⟨A,hu⟩:=RepV_nl.1 hx
  exact hnil h.symm ⟨A,0,hu⟩
 |cl c' y=>
  simp only[pk,pkL]at h
  have e:=as_eq h
  simp only[AV.v.injEq,Ki.slice.injEq]at e
  obtain⟨rfl,e⟩:=e
  obtain rfl:=eq_of_heq e
  have hx':Kx (fz G ow w) w (.slice c') y [u]:=by
   simp only[RepV,RepU,AV.isS,RepC]at hx
   exact hx.1
  obtain⟨A,cap,hu,_,_,hi⟩:=Kx_slice.1 hx'
  simp only[List.cons.injEq,and_true]at hu
  refine main hu fun i hlt=> ?_
  obtain⟨ad,es,e,_,g1,g2,g3⟩:=hi i hlt
  exact⟨ad,es,e,g1,g2,g3⟩
 |sl l=>
  simp only[pk,pkL,Option.bind_eq_some_iff]at h
  obtain⟨q,hq,h⟩:=h
  obtain⟨A,n,cap,hσ,hu⟩:=RepV_sl.1 hx
  cases q with
  |box ls=>simp[Ob.as]at h
  |mp _ _ _=>simp[Ob.as]at h
  |row dp pn c' xs=>
   have e:=oas_eq h
   obtain⟨bs,hrow,_,_⟩:=hr.ob _ _ hq
   cases e
   rw[hσ]at hrow
   have key:RowK (fun _=>True) w c.sz (fun x es=>Kx (fz G ow w) w c x es) ys [.slice A n cap]:=by
    cases dp with
    |false=>
     simp only[RowO,Bool.false_eq_true,if_false]at hrow
     exact hrow.read (fun _ _=>trivial) fun x a p _ h=>h.1
    |true=>
     have hn:c.nref=true:=by simpa[shr,hq]using hs
     simp only[RowO,if_true]at hrow
     exact hrow.read (fun _ _=>trivial) fun x a p _ h=>Kx_nref hn (h.read (F:=fun _=>True) fun _ _=>trivial)
   obtain⟨A',cap',e,_,_,hi⟩:=key
   simp only[List.cons.injEq,and_true]at e
   rw[e]at hu
   refine main hu fun i hlt=> ?_
   obtain⟨ad,es,e,_,g1,g2,g3⟩:=hi i hlt
   exact⟨ad,es,e,g1,g2,g3⟩
 |_=>simp[pk,pkL,AV.as]at h
theorem exec_app{t ty:TypeId}{x y:Operand}{xs:Array TypeId}(hop:o.op= .call {callee:=.builtin .append,args:=⟨[x,y]⟩,argTypes:=⟨[t,t]⟩}){v:Value}{w':World}{A B:Option Addr}{n cap m c:Nat}
  (hx:a.eval x= .slice A n cap) (hy:a.eval y= .slice B m c)
  (h:(Builtin.append_ #[t,t] o.type #[.slice A n cap,.slice B m c]).run P w= .ok v w'):(execOp a.eval o).run P w= .ok (.value v) w':=by
 unfold execOp
 simp only[hop,resolve,invoke,builtin,Sem.run_bind,Sem.run_pure,Result.andThen_ok,List.map_toArray,List.map_cons,List.map_nil,hx,hy,h]
def El(w:World)(F:Nat->Prop)(dp:Bool)(c:Ki):c.T->List Value->List Nat->Prop:=fun x a p=>if dp then Dx w c x a p else Kx F w c x a∧p=[]
theorem RowO_iff{dp:Bool}{c:Ki}{xs:List c.T}{v:Value}{bs:List Nat}:RowO w F dp c xs v bs↔RowD w c.sz (El w F dp c) xs v bs:=by
 cases dp with
 |false=>
  have e:El w F false c=fun x a p=>Kx F w c x a∧p=[]:=by funext x a p;simp[El]
  simp only[RowO,e,Bool.false_eq_true,if_false]
 |true=>
  have e:El w F true c=Dx w c:=by funext x a p;simp[El]
  simp only[RowO,e,if_true]
theorem El.one{dp:Bool}{c:Ki}{x:c.T}{v:List Value}{p:List Nat}(h:El w F dp c x v p):∀u∈v,u.oneCell'=true:=by
 cases dp with
 |false=>exact Kx_one (show Kx F w c x v∧p=[] by simpa[El]using h).1
 |true=>exact Kx_one (F:=fun _=>True) ((show Dx w c x v p by simpa[El]using h).read fun _ _=>trivial)
theorem app_row{t e:TypeId}{i:TypeInfo}{z:Value}{c:Ki}(ht:P.underlying t=some (.slice e))(hi:P.info? e=some i)(hz:i.zero=some z)(hzs:z.cells.size=i.size)(his:i.size=c.sz)(hsz:0<i.size)(hby:i.bytes<=65536)
  {dp:Bool} {p:Lab->Bool} {L:Lab} {xs ys:List c.T} {v:Value} {bs bs2:List Nat} (hbase:RowD w c.sz (El w F dp c) xs v bs)
  {B:Option Addr} {m cap:Nat} {news:List Value} (hm:m=ys.length) (hl:news.length=ys.length*c.sz) (hB:ys.length=0∨∃ad,B=some ad∧∀j u,news[j]? =some u->w.cell? (ad.add j)=some u) (hel:ElemsD c.sz (El w F dp c) ys news bs2)
  (hb:xs.length+ys.length<=33554432) (hnd:(bs++bs2).Nodup) (hown:∀b∈bs++bs2,∃m,ow b=some m∧p m=true) (hF:∀b,F b↔fz G ow w b) (hlt:∀b∈bs++bs2,b<w.heap.size) (ty:TypeId):
  ∃A n cap0,v= .slice A n cap0∧∃v' w' ow' bs',(Builtin.append_ #[t,t] ty #[.slice A n cap0,.slice B m cap]).run P w= .ok v' w'∧Upd p ow w ow' w'∧(∃A' n' c',v'= .slice A' n' c')∧
   RowO w' (fz G ow' w') dp c (xs++ys) v' bs'∧bs'.Nodup∧∀b∈bs',ow' b=some L:=by
 subst hm
 have h1:∀u∈news,u.oneCell'=true:=hel.cells_one fun _ _ _ h=>h.one
 have hlt':∀b∈bs++bs2,b<w.heap.size:=hlt
 have keepE:∀ {w':World} {ow':Own} (_:Upd p ow w ow' w') {zs:List c.T} {u:List Value} {q:List Nat},(∀b∈q,w'.heap[b]? =w.heap[b]?)->ElemsD c.sz (El w F dp c) zs u q->ElemsD c.sz (El w' (fz G ow' w') dp c) zs u q:=by
  intro w' ow' hu zs u q hq h
  refine h.mono fun x a r hr hx=> ?_
  cases dp with
  |false=>
   simp only[El,Bool.false_eq_true,if_false]at hx⊢
   exact⟨hx.1.keep fun b hb=>hu.fz b ((hF b).1 hb),hx.2⟩
  |true=>
   simp only[El,if_true]at hx⊢
   exact hx.keep fun b hb=>hq b (hr b hb)
 have hbase':∃A n cap0,v= .slice A n cap0∧n=xs.length∧∃us rest,us.length=xs.length*c.sz∧ElemsD c.sz (El w F dp c) xs us rest∧
   ((n=0∧cap0=0∧bs=[]∧rest=[])∨∃g cur e',A=some ⟨g,0,none⟩∧bs=g::rest∧w.heap[g]? =some (.cells cur e' (0,0))∧n<=cap0∧cap0<=maxLen∧cur.size=cap0*i.size∧cur.toList.take (n*i.size)=us):=by
  rcases hbase with⟨⟨A,rfl⟩,rfl,rfl⟩|⟨g,cap0,cur,e',rest,rfl,hg,k1,k2,k3,rfl,k4⟩
  ·exact⟨A,0,0,rfl,rfl,[],[],by simp,⟨rfl,rfl⟩,.inl ⟨rfl,rfl,rfl,rfl⟩⟩
  ·exact⟨_,_,cap0,rfl,rfl,_,rest,by rw[k4.len],k4,.inr ⟨g,cur,e',rfl,rfl,hg,k1,k2,by rw[his];exact k3,by rw[his]⟩⟩
 obtain⟨A,n,cap0,rfl,rfl,us,rest,hul,hue,hb'⟩:=hbase'
 refine⟨_,_,_,rfl,?_⟩
 have hall:=hue.append hel
 have hrest:∀b∈rest++bs2,b∈bs++bs2:=by
  intro b hb
  rcases List.mem_append.1 hb with h|h
  ·refine List.mem_append_left _ ?_
   rcases hb' with⟨_,_,_,h2⟩|⟨g,_,_,_,h2,_⟩
   ·rw[h2]at h;cases h
   ·rw[h2];exact List.mem_cons_of_mem _ h
  ·exact List.mem_append_right _ h
 have hrnd:(rest++bs2).Nodup:=by
  rcases hb' with⟨_,_,h1,h2⟩|⟨g,_,_,_,h2,_⟩
  ·rw[h1]at hnd;rw[h2];exact hnd
  ·rw[h2]at hnd;exact(List.nodup_cons.1 hnd).2
 by_cases hy0:ys.length=0
 ·
  have hy:ys=[]:=List.eq_nil_of_length_eq_zero hy0
  subst hy
  have hnc:xs.length<=cap0:=by
   rcases hb' with⟨h1,h2,_⟩|⟨g,cur,e',h1,_,h2,h3,h4,h5,h6⟩<;>omega
  have hrun:=app_nothing (P:=P) (w:=w) t ty e i ht hi A xs.length cap0 hnc B cap
  have hu:Upd p ow w (owRow p L bs ow) w:=upd_row (fun b hb _=>hown b (List.mem_append_left _ hb)) rfl rfl rfl (Nat.le_refl _) (fun _ _ _=>rfl)
  refine⟨_,w,owRow p L bs ow,bs,hrun,hu,⟨_,_,_,rfl⟩,RowO_iff.2 ?_,(List.nodup_append.1 hnd).1,fun b hb=>owRow_at hb⟩
  rw[List.append_nil]
  have e2:=keepE hu (fun b _=>rfl) hue
  rcases hb' with⟨h1,h2,h3,h4⟩|⟨g,cur,e',h1,h2,h3,h4,h5,h6,h7⟩
  ·have hx:xs=[]:=List.eq_nil_of_length_eq_zero h1
   subst hx
   exact .inl ⟨⟨A,by rw[h2];rfl⟩,rfl,h3⟩
  ·subst h1
   exact .inr ⟨g,cap0,cur,e',rest,rfl,h3,h4,h5,by rw[<-his];exact h6,h2,by rw[his]at h7;rw[h7];exact e2⟩
 obtain⟨v',w',hrun,hcase⟩:=run_app (P:=P) (w:=w) (ty:=ty) (c:=cap) ht hi hz hzs hsz hby (A0:=A) (n:=xs.length) (cap0:=cap0) (xs:=us) (by rw[hul,his]) (by
  rcases hb' with⟨h1,h2,_⟩|⟨g,cur,e',h1,_,h2,h3,h4,h5,h6⟩
  ·exact .inl ⟨h1,h2⟩
  ·exact .inr ⟨g,cur,e',h1,h2,h3,h4,h5,h6⟩) (B:=B) (m:=ys.length) (news:=news) (by rw[hl,his]) hB h1 hb
 rcases hcase with⟨h0,_⟩|⟨g,cur,e',cur',hA,hg,rfl,hroom,hcm,rfl,hcs,htk⟩|⟨cap',cur',rfl,hc1,hc2,rfl,hcs,htk⟩
 ·omega
 ·
  rcases hb' with⟨h1,h2,h3,h4⟩|⟨g',cur2,e2,h1,h2,h3,h4,h5,h6,h7⟩
  ·omega
  ·rw[h1]at hA
   simp only[Option.some.injEq,Addr.mk.injEq,and_true]at hA
   subst hA
   rw[h3]at hg
   cases hg
   have hgown:=hown g' (by rw[h2];simp)
   have hu:Upd p ow w (owRow p L (g'::(rest++bs2)) ow) (w.setRow g' cur'):=by
    refine upd_row (fun b hb _=> ?_) rfl rfl rfl (by simp[World.setRow]) (fun b hb hp=> ?_)
    ·rcases List.mem_cons.1 hb with rfl|hb
     ·exact hgown
     ·exact hown b (hrest b hb)
    ·refine setRow_other w g' b _ ?_
     rintro rfl
     obtain⟨m,hm,hpm⟩:=hgown
     rw[hp m hm]at hpm;cases hpm
   have hgn:g'∉rest++bs2:=by
    rw[h2]at hnd;exact(List.nodup_cons.1 hnd).1
   refine⟨_,_,_,g'::(rest++bs2),hrun,hu,⟨_,_,_,rfl⟩,RowO_iff.2 ?_,List.nodup_cons.2 ⟨hgn,hrnd⟩,fun b hb=>owRow_at hb⟩
   subst h1
   refine .inr ⟨g',cap0,cur',_,rest++bs2,by simp,setRow_heap w g' _ _ _ _ h3,by simpa using hroom,hcm,by rw[<-his];exact hcs,rfl,?_⟩
   rw[his]at htk
   rw[List.length_append,htk]
   exact keepE hu (fun b hb=>setRow_other w g' b _ (fun e=>hgn (e▸hb))) hall
 ·
  have hu:Upd p ow w (owRow p L (w.heap.size::(rest++bs2)) ow) (w.drew.alloc (.cells cur' e)):=by
   refine upd_row (fun b hb hlt=> ?_) rfl rfl rfl (by simp) (fun b hb _=>heap_alloc_old w.drew _ b hb)
   rcases List.mem_cons.1 hb with rfl|hb
   ·exact absurd hlt (Nat.lt_irrefl _)
   ·exact hown b (hrest b hb)
  have hgn:w.heap.size∉rest++bs2:=fun h=>absurd (hlt _ (hrest _ h)) (Nat.lt_irrefl _)
  refine⟨_,_,_,w.heap.size::(rest++bs2),hrun,hu,⟨_,_,_,rfl⟩,RowO_iff.2 ?_,List.nodup_cons.2 ⟨hgn,hrnd⟩,fun b hb=>owRow_at hb⟩
  refine .inr ⟨w.heap.size,cap',cur',e,rest++bs2,by simp,heap_alloc_new w.drew _,by simpa using hc1,hc2,by rw[<-his];exact hcs,rfl,?_⟩
  rw[his]at htk
  rw[List.length_append,htk]
  exact keepE hu (fun b hb=>heap_alloc_old w.drew _ b (hlt _ (hrest _ hb))) hall
end
end Go.Q
namespace Go.Q
section
variable {P:Program} {S:FuncId->List SA->RA->Prop} {N:Nat} {G:Gd} {σ:Lab->Value} {ow:Own} {w:World} {a:Act} {Γ:Env} {K:Env->Prop} {Q:Exit->Act->World->Prop} {o:Oper} {F F':Nat->Prop}
theorem El_of{dp:Bool}{c:Ki}(hd:dp=false∨c.nref=true){ys:List c.T}{news:List Value}(h:ElemsD c.sz (fun x a p=>Kx F w c x a∧p=[]) ys news []):ElemsD c.sz (El w F dp c) ys news []:=by
 refine h.mono fun x a p _ h=> ?_
 cases dp with
 |false=>simpa[El]using h
 |true=>
  simp only[El,if_true]
  rw[h.2]
  exact Dx_nref (hd.resolve_left (by simp)) h.1
theorem snd_an(hr:Rep N G σ ow w a Γ){d dp c x y}(hm:I.m P N (.an d dp c x y) o=true)(hv:vi S (.an d dp c x y) Γ K):o.wp P a w (Post N G ow w K) Q:=by
 simp only[vi]at hv
 obtain⟨xv,hx,hv⟩:=need_iff hv
 split at hv
 rotate_left
 ·exact hv.elim
 rename_i c'
 obtain⟨yv,hy,hv⟩:=need_iff hv
 obtain⟨ys,hys,hc,hlen,hk⟩:=need_iff hv
 simp only[Bool.and_eq_true,Bool.or_eq_true,Bool.not_eq_true']at hc
 simp only[I.m]at hm
 split at hm
 ·rename_i x' y' t t' hop
  simp only[Bool.and_eq_true,beq_iff_eq]at hm
  obtain⟨⟨⟨⟨hd',rfl⟩,hxm⟩,hym⟩,hrow⟩:=hm
  obtain⟨e,i,z,ht,hi,hz,hzc,hzs,his,hby,hsz⟩:=row_info hrow
  have hr':=hr.kill (hd d)
  obtain⟨A,hxe⟩:=RepV_nl.1 (ev_rep hr' hxm hx)
  obtain⟨B,cap,news,hye,hl,hB,_,hel⟩:=shr_rep hr' hys hc.2 (ev_rep hr' hym hy)
  obtain⟨A2,n2,cap2,hv2,v',w',ow',bs',hrun,hu,⟨A',n',c2,hvs⟩,hro,hnd,hown⟩:=app_row (P:=P) (G:=G) (ow:=ow) (w:=w) (F:=fz G ow w) (xs:=[]) (bs:=[]) (L:=[d]) (p:=hd d) ht hi hz hzs his hsz hby (dp:=dp) (v:=.slice A 0 0) (.inl ⟨⟨A,rfl⟩,rfl,rfl⟩) (m:=ys.length) (cap:=cap) rfl hl hB (El_of hc.1 hel) (by simpa using hlen) (by simp) (fun b hb=>by simp at hb) (fun _=>Iff.rfl) (fun b hb=>by simp at hb) o.type
  cases hv2
  refine step_own hr hd' (L:=[d]) (q:=.row dp false c ys) (by simp[hd]) (exec_app (ty:=0) (xs:= #[]) hop hxe hye hrun) hu (RepV_sl.2 ⟨A',n',c2,by simp[σat,hvs],hvs⟩) (fun _=>⟨bs',?_,hnd,hown⟩) hk
  have:σat σ [d] v' [d]=v':=if_pos rfl
  rw[this];exact hro
 ·cases hm
theorem snd_ap(hr:Rep N G σ ow w a Γ){d L dp c x y}(hm:I.m P N (.ap d L dp c x y) o=true)(hv:vi S (.ap d L dp c x y) Γ K):o.wp P a w (Post N G ow w K) Q:=by
 simp only[vi]at hv
 obtain⟨xv,hx,hv⟩:=need_iff hv
 split at hv
 rotate_left
 ·exact hv.elim
 rename_i l
 obtain⟨q,hq,hv⟩:=need_iff hv
 obtain⟨dp',c',xs0,rfl,hv⟩:∃dp' c' xs0,q= .row dp' false c' xs0∧(dp'=dp∧need (Ob.as c (.row dp' false c' xs0)) fun xs=>need (ev Γ y) fun a=>
    if dp&& !c.nref then need (pkO Γ.ob (.slice c) a) fun r=>r.2.Nodup∧l∉r.2∧List.length xs+List.length r.1<=33554432∧
     K (((Γ.kill (fun m=>m==l||m==L||r.2.contains m)).new L (.row dp false c (xs++r.1))).put d (.sl L))
    else need (pk Γ.ob (.slice c) a) fun ys=>shr Γ.ob c a=true∧List.length xs+List.length ys<=33554432∧
     K (((Γ.kill (fun m=>m==l||m==L)).new L (.row dp false c (xs++ys))).put d (.sl L))):=by
  cases q with
  |box ls=>exact hv.elim
  |mp _ _ _=>exact hv.elim
  |row dp' pn c' xs0=>
   cases pn with
   |true=>exact hv.elim
   |false=>exact⟨dp',c',xs0,rfl,hv⟩
 obtain⟨rfl,hv1⟩:=hv
 obtain⟨xs,hxs,hv2⟩:=need_iff hv1
 clear hv1
 have e:=oas_eq hxs
 clear hxs
 cases e
 obtain⟨yv,hy,hv⟩:=need_iff hv2
 simp only[I.m]at hm
 split at hm
 rotate_left
 ·cases hm
 rename_i x' y' t t' hop
 simp only[Bool.and_eq_true,beq_iff_eq]at hm
 obtain⟨⟨⟨⟨hd',rfl⟩,hxm⟩,hym⟩,hrow⟩:=hm
 obtain⟨e,i,z,ht,hi,hz,hzc,hzs,his,hby,hsz⟩:=row_info hrow
 obtain⟨A,n,cap0,hσ,hxe⟩:=RepV_sl.1 (ev_rep hr hxm hx)
 obtain⟨bs,hro0,hbnd,hbow⟩:=hr.ob _ _ hq
 have hbase:=RowO_iff.1 hro0
 have hblt:=hro0.lt
 rw[hσ]at hbase
 have ry:=ev_rep hr hym hy
 split at hv
 ·
  rename_i hdp
  simp only[Bool.and_eq_true,Bool.not_eq_true']at hdp
  obtain⟨⟨ys,labs⟩,hpo,hln,hll,hlen,hk⟩:=need_iff hv
  simp only at hln hll hlen hk
  obtain⟨b2,hD,hb2n,hOB⟩:=pkO_rep hr.ob hpo ry hln
  have hyv:∃u,a.eval y'=u∧u.cells.toList=[u]:=by
   cases yv with
   |sl l'=>obtain⟨_,_,_,_,h⟩:=RepV_sl.1 ry;exact⟨_,h,rfl⟩
   |nl c'=>obtain⟨_,h⟩:=RepV_nl.1 ry;exact⟨_,h,rfl⟩
   |_=>simp[pkO,pkOL]at hpo
  obtain⟨u,hye,hcells⟩:=hyv
  rw[hye,hcells]at hD
  obtain⟨u',e1,hD⟩:=Dx_slice.1 hD
  cases e1
  have hblt2:∀b∈b2,b<w.heap.size:=RowO.lt (F:=fun _=>True) (deep:=true) (by simpa[RowO]using hD)
  have hy2:∃B cap news rest2,u= .slice B ys.length cap∧news.length=ys.length*c.sz∧(ys.length=0∨∃ad,B=some ad∧∀j v,news[j]? =some v->w.cell? (ad.add j)=some v)∧ElemsD c.sz (Dx w c) ys news rest2∧(∀b∈rest2,b∈b2)∧rest2.Nodup:=by
   rcases hD with⟨⟨B,rfl⟩,rfl,rfl⟩|⟨g,cap,cur,e',rest,rfl,hg,k1,k2,k3,rfl,k4⟩
   ·exact⟨B,0,[],[],rfl,by simp,.inl rfl,⟨rfl,rfl⟩,fun _ h=>h,by simp⟩
   ·refine⟨_,cap,_,rest,rfl,k4.len,.inr ⟨_,rfl,fun j v hj=> ?_⟩,k4,fun b hb=>List.mem_cons_of_mem _ hb,(List.nodup_cons.1 hb2n).2⟩
    have hadd:(⟨g,0,none⟩:Addr).add j=⟨g,j,none⟩:=by unfold Addr.add;split<;>simp_all
    rw[hadd,cell_of_row w g j cur e' (0,0) hg]
    rw[List.getElem?_take]at hj
    split at hj
    ·simpa using hj
    ·cases hj
  obtain⟨B,cap,news,rest2,rfl,hl,hB,hel,hsub,hrn⟩:=hy2
  have hpl:∀b∈bs++rest2,∃m,ow b=some m∧(m==l||m==L||labs.contains m)=true:=by
   intro b hb
   rcases List.mem_append.1 hb with h|h
   ·exact⟨l,hbow b h,by simp⟩
   ·obtain⟨m,hm,hbm⟩:=hOB b (hsub b h)
    exact⟨m,hbm,by simp[hm]⟩
  have hdis:(bs++rest2).Nodup:=by
   refine List.nodup_append.2 ⟨hbnd,hrn,fun b hb b' hb' e=> ?_⟩
   subst e
   obtain⟨m,hm,hbm⟩:=hOB b (hsub b hb')
   rw[hbow b hb]at hbm
   cases hbm
   exact hll hm
  have hltall:∀b∈bs++rest2,b<w.heap.size:=by
   intro b hb
   rcases List.mem_append.1 hb with h|h
   ·exact hblt b h
   ·exact hblt2 b (hsub b h)
  have hdt:dp'=true:=hdp.1
  subst hdt
  obtain⟨A2,n2,cap2,hv2,v',w',ow',bs',hrun,hu,⟨A',n',c2,hvs⟩,hro,hnd,hown⟩:=app_row (P:=P) (G:=G) (ow:=ow) (w:=w) (F:=fz G ow w) (L:=L) (p:=fun m=>m==l||m==L||labs.contains m) ht hi hz hzs his hsz hby (dp:=true) hbase (bs2:=rest2) (m:=ys.length) (cap:=cap) rfl hl hB (hel.mono fun x a p _ h=>by simpa[El]using h) hlen hdis hpl (fun _=>Iff.rfl) hltall o.type
  cases hv2
  refine step_own hr hd' (L:=L) (q:=.row true false c (xs++ys)) (by simp) (exec_app (ty:=0) (xs:= #[]) hop hxe hye hrun) hu (RepV_sl.2 ⟨A',n',c2,by simp[σat,hvs],hvs⟩) (fun _=>⟨bs',?_,hnd,hown⟩) hk
  have:σat σ L v' L=v':=if_pos rfl
  rw[this];exact hro
 ·rename_i hdp
  obtain⟨ys,hys,hc,hlen,hk⟩:=need_iff hv
  have hdp':dp'=false∨c.nref=true:=by
   simp only[Bool.and_eq_true,Bool.not_eq_true']at hdp
   cases dp' with
   |false=>exact .inl rfl
   |true=>right;cases hn:c.nref<;>simp_all
  obtain⟨B,cap,news,hye,hl,hB,_,hel⟩:=shr_rep hr hys hc ry
  obtain⟨A2,n2,cap2,hv2,v',w',ow',bs',hrun,hu,⟨A',n',c2,hvs⟩,hro,hnd,hown⟩:=app_row (P:=P) (G:=G) (ow:=ow) (w:=w) (F:=fz G ow w) (L:=L) (p:=fun m=>m==l||m==L) ht hi hz hzs his hsz hby (dp:=dp') hbase (bs2:=[]) (m:=ys.length) (cap:=cap) rfl hl hB (El_of hdp' hel) hlen (by simpa using hbnd) (fun b hb=>⟨l,hbow b (by simpa using hb),by simp⟩) (fun _=>Iff.rfl) (fun b hb=>hblt b (by simpa using hb)) o.type
  cases hv2
  refine step_own hr hd' (L:=L) (q:=.row dp' false c (xs++ys)) (by simp) (exec_app (ty:=0) (xs:= #[]) hop hxe hye hrun) hu (RepV_sl.2 ⟨A',n',c2,by simp[σat,hvs],hvs⟩) (fun _=>⟨bs',?_,hnd,hown⟩) hk
  have:σat σ L v' L=v':=if_pos rfl
  rw[this];exact hro
end
end Go.Q
namespace Go.Q
section
variable {P:Program} {S:FuncId->List SA->RA->Prop} {N:Nat} {G:Gd} {σ:Lab->Value} {ow:Own} {w:World} {a:Act} {Γ:Env} {K:Env->Prop} {Q:Exit->Act->World->Prop} {o:Oper} {F F':Nat->Prop}
theorem st_under{t:TypeId}(h:stOk P t=true):P.underlying t=some .string:=by
 unfold stOk at h;split at h<;>simp_all
theorem snd_ci(hr:Rep N G σ ow w a Γ){d k x}(hm:I.m P N (.ci d k x) o=true)(hv:vi S (.ci d k x) Γ K):o.wp P a w (Post N G ow w K) Q:=by
 simp only[vi]at hv
 obtain⟨v,hx,hv⟩:=need_iff hv
 split at hv
 ·rename_i k0 n
  simp only[I.m]at hm
  split at hm
  ·rename_i s t x' hop
   simp only[Bool.and_eq_true]at hm
   obtain⟨⟨⟨hd',hxm⟩,hs⟩,hk⟩:=hm
   obtain⟨ds,hs⟩:=Option.isSome_iff_exists.1 hs
   have ht:P.underlying t=some (.int k):=by unfold inOk at hk;split at hk<;>simp_all
   have e:=(RepV_int.1 (ev_rep hr hxm hx)).1
   refine step_put hr hd' (v:=.int k (k.wrap n)) ?_ (RepV_int.2 ⟨rfl,wrap_inR _ _⟩) hv
   simp[execOp,hop,e,convert,run_underlying hs,run_underlying ht,Conv.intToInt]
  ·cases hm
 ·exact hv.elim
theorem byte_cells:∀ {ys:List Int} {news:List Value},ElemsD 1 (fun(x:Int) a p=>Kx F w (.int .u8) x a∧p=[]) ys news []->news=ys.map (Value.int .u8)
 | [],_,h=>by rw[h.1];rfl
 |y::ys,_,⟨a,b,p,q,e,hl,eb,hp,hr⟩=>by
  have hq:q=[]:=(List.append_eq_nil_iff.1 eb.symm).2
  subst hq
  have h1:=(Kx_int.1 hp.1).1
  subst e h1
  rw[byte_cells hr];rfl
theorem push_all:∀(ns:List Int) (s:List UInt8),(ns.foldl (fun r n=>r.push (UInt8.ofNat n.toNat)) (⟨s.toArray⟩:ByteArray))=⟨(s++bytesOf ns).toArray⟩
 | [],s=>by simp[bytesOf]
 |n::ns,s=>by
  have e:(⟨s.toArray⟩:ByteArray).push (UInt8.ofNat n.toNat)=⟨(s++[UInt8.ofNat n.toNat]).toArray⟩:=by
   simp[ByteArray.push]
  simp only[List.foldl_cons,e,push_all ns,bytesOf,List.map_cons,List.append_assoc,List.singleton_append]
theorem snd_cs(hr:Rep N G σ ow w a Γ){d x}(hm:I.m P N (.cs d x) o=true)(hv:vi S (.cs d x) Γ K):o.wp P a w (Post N G ow w K) Q:=by
 simp only[vi]at hv
 obtain⟨v,hx,hv⟩:=need_iff hv
 obtain⟨xs,hp,hk⟩:=need_iff hv
 simp only[I.m]at hm
 split at hm
 ·rename_i s t x' hop
  simp only[Bool.and_eq_true]at hm
  obtain⟨⟨⟨hd',hxm⟩,hs⟩,ht⟩:=hm
  have ht':=st_under ht
  obtain⟨e,hs1,hs2⟩:∃e,P.underlying s=some (.slice e)∧P.underlying e=some (.int .u8):=by
   unfold byOk at hs
   split at hs
   ·rename_i e he
    refine⟨e,he,?_⟩
    split at hs<;>simp_all
   ·cases hs
  obtain⟨B,cap,news,hu,hl,hB,_,hel⟩:=shr_rep hr (c:=.int .u8) hp (by simp[shr,Ki.nref]) (ev_rep hr hxm hx)
  have hn:=byte_cells (w:=w) (F:=fz G ow w) hel
  have hlen:xs.length<=maxLen:=by
   have h1:=pk_rep (F':=fun _=>True) hr.ob (fun _ _=>trivial) hp (ev_rep hr hxm hx) (fun _ _ _ _ _=>trivial)
   obtain⟨A',c',_,h2,h3,_⟩:=RepV_slice.1 h1
   exact Nat.le_trans h2 h3
  refine step_put hr hd' (v:=.string ⟨(bytesOf xs).toArray⟩) ?_ (RepV_str.2 ⟨rfl,by simpa[bytesOf]using hlen⟩) hk
  have hconv:(convert s t (.slice B xs.length cap)).run P w= .ok (.string ⟨(bytesOf xs).toArray⟩) w:=by
   rw[run_convert_bytes_string w s t e B _ _ hs1 hs2 ht']
   rcases hB with h0|⟨ad,rfl,hc⟩
   ·have:xs=[]:=List.eq_nil_of_length_eq_zero h0
    subst this
    cases B with
    |none=>
     simp[Conv.bytesToString,bytesOf]
     rfl
    |some ad=>
     rw[run_bytesToString w ad _ cap [] (by simp[loadCells,loadCellsFrom])]
     rfl
   ·have hload:(loadCells ad xs.length).run P w= .ok (xs.map (Value.int .u8)).toArray w:=by
     have h3:news.length=xs.length*1:=by rw[hn];simp
     have h2:=run_firstCells_some (P:=P) w 1 xs.length ad xs.length cap news h3 hc
     simp only[Builtin.firstCells,Nat.mul_one,hn]at h2
     exact h2
    rw[run_bytesToString w ad _ cap xs hload]
    have:=push_all xs []
    simp only[List.nil_append]at this
    rw[<-this];rfl
  simp[execOp,hop,hu,hconv]
 ·cases hm
theorem str_get{s:Str}{n:Int}(h0:0<=n)(h1:n<(s.length:Int))(h:n.toNat<(⟨s.toArray⟩:ByteArray).size):(⟨s.toArray⟩:ByteArray)[n.toNat]=s.getD n.toNat 0:=by
 have h2:n.toNat<s.length:=by omega
 simp only[List.getD_eq_getElem?_getD,List.getElem?_eq_getElem h2,Option.getD_some]
 rfl
theorem snd_ix(hr:Rep N G σ ow w a Γ){d x i}(hm:I.m P N (.ix d x i) o=true)(hv:vi S (.ix d x i) Γ K):o.wp P a w (Post N G ow w K) Q:=by
 simp only[vi]at hv
 obtain⟨v,hx,hv⟩:=need_iff hv
 split at hv
 ·rename_i s
  obtain⟨iv,hi,hv⟩:=need_iff hv
  split at hv
  ·rename_i k n
   obtain⟨h0,h1,hk⟩:=hv
   simp only[I.m]at hm
   split at hm
   ·rename_i t x' i' hop
    simp only[Bool.and_eq_true]at hm
    obtain⟨⟨⟨hd',hxm⟩,him⟩,ht⟩:=hm
    have e1:=(RepV_str.1 (ev_rep hr hxm hx)).1
    have e2:=(RepV_int.1 (ev_rep hr him hi)).1
    have hsz:n<(((⟨s.toArray⟩:ByteArray).size:Nat):Int):=h1
    refine step_put hr hd' (v:=.int .u8 ((s.getD n.toNat 0).toNat:Int)) ?_ (RepV_int.2 ⟨rfl,?_⟩) hk
    ·have hrun:=run_index_string (P:=P) w t ⟨s.toArray⟩ k n (st_under ht)
     rw[dif_pos ⟨h0,hsz⟩,str_get h0 h1]at hrun
     simp[execOp,hop,e1,e2,hrun]
    ·generalize s.getD n.toNat 0=b
     have:=b.toNat_lt
     simp[inR,IntKind.min,IntKind.max,IntKind.signed,IntKind.bits]
     omega
   ·cases hm
  ·exact hv.elim
 ·exact hv.elim
theorem str_cut{s:Str}(i j:Nat)(hj:j<=s.length):(⟨s.toArray⟩:ByteArray).extract i j=⟨((s.take j).drop i).toArray⟩:=by
 apply ByteArray.ext
 apply Array.toList_inj.1
 simp[List.drop_take]
theorem omO_rep(hr:Rep N G σ ow w a Γ){x:Option O}{y:Option Operand}(hm:omO x y=true){z n:Int}(h:evo Γ x z=some n):(x=none∧y=none∧n=z)∨∃y' k,y=some y'∧a.eval y'= .int k n:=by
 cases x with
 |none=>
  cases y with
  |none=>simp only[evo,Option.some.injEq]at h;exact .inl ⟨rfl,rfl,h.symm⟩
  |some _=>cases hm
 |some x=>
  cases y with
  |none=>cases hm
  |some y=>
   simp only[evo]at h
   split at h
   ·rename_i k m he
    cases h
    exact .inr ⟨y,k,rfl,(RepV_int.1 (ev_rep hr hm he)).1⟩
   ·cases h
theorem snd_sx(hr:Rep N G σ ow w a Γ){d x lo hi}(hm:I.m P N (.sx d x lo hi) o=true)(hv:vi S (.sx d x lo hi) Γ K):o.wp P a w (Post N G ow w K) Q:=by
 simp only[vi]at hv
 obtain⟨v,hx,hv⟩:=need_iff hv
 split at hv
 ·rename_i s
  obtain⟨i,hi',hv⟩:=need_iff hv
  obtain⟨j,hj',hv⟩:=need_iff hv
  obtain⟨h0,h1,h2,hk⟩:=hv
  simp only[I.m]at hm
  split at hm
  ·rename_i t x' a' b' hop
   simp only[Bool.and_eq_true]at hm
   obtain⟨⟨⟨⟨hd',hxm⟩,ham⟩,hbm⟩,ht⟩:=hm
   obtain⟨e1,hsl⟩:=RepV_str.1 (ev_rep hr hxm hx)
   have hsz:(((⟨s.toArray⟩:ByteArray).size:Nat):Int)=(s.length:Int):=rfl
   refine step_put hr hd' (v:=.string ⟨((s.take j.toNat).drop i.toNat).toArray⟩) ?_ (RepV_str.2 ⟨rfl,by simp;omega⟩) hk
   rw[<-str_cut i.toNat j.toNat (by omega)]
   rcases omO_rep hr ham hi' with⟨_,rfl,rfl⟩|⟨y,k,rfl,ey⟩<;>rcases omO_rep hr hbm hj' with⟨_,rfl,rfl⟩|⟨z,k',rfl,ez⟩
   ·have:=run_slice_string_all (P:=P) w t ⟨s.toArray⟩ (st_under ht)
    simp only[execOp,hop,e1]
    simp[this,run_sliceAt_string _ _ _ _ _ _ (st_under ht),ByteArray.size]
   ·have:=run_slice_string_to_if (P:=P) w t ⟨s.toArray⟩ k' j (st_under ht)
    rw[if_pos ⟨by omega,by rw[hsz];exact h2⟩]at this
    simp only[execOp,hop,e1,ez]
    simp[this,ez,run_sliceAt_string _ _ _ _ _ _ (st_under ht)]
   ·have:=run_slice_string_from_if (P:=P) w t ⟨s.toArray⟩ k i (st_under ht)
    rw[if_pos ⟨h0,by rw[hsz];exact h1⟩]at this
    simp only[execOp,hop,e1,ey]
    simp[this,ey,run_sliceAt_string _ _ _ _ _ _ (st_under ht),ByteArray.size]
   ·have:=run_slice_string (P:=P) w t ⟨s.toArray⟩ k k' i j (st_under ht) h0 h1 (by rw[hsz];exact h2)
    simp only[execOp,hop,e1,ey,ez]
    simp[this,ey,ez,run_sliceAt_string _ _ _ _ _ _ (st_under ht)]
  ·cases hm
 ·exact hv.elim
theorem str_cells(s:Str):(⟨s.toArray⟩:ByteArray).data.map (fun b=>Value.int .u8 (b.toNat:Int))=((intsOf s).map (Value.int .u8)).toArray:=by
 simp[intsOf,Function.comp_def]
theorem firstCells_str(s:Str):(Builtin.firstCells 1 s.length (.string ⟨s.toArray⟩)).run P w= .ok ((intsOf s).map (Value.int .u8)).toArray w:=by
 simp only[Builtin.firstCells]
 have e:(⟨s.toArray⟩:ByteArray).extract 0 s.length=⟨s.toArray⟩:=by
  have:=str_cut (s:=s) 0 s.length (Nat.le_refl _)
  simpa using this
 rw[e,str_cells];rfl
theorem run_apps{t u ty e:TypeId}{i:TypeInfo}{z:Value}(ht:P.underlying t=some (.slice e))(hu:P.underlying u=some .string)(hi:P.info? e=some i)(hz:i.zero=some z)(hzs:z.cells.size=1)(hsz:i.size=1)(hby:i.bytes<=65536)
  {A0:Option Addr} {n cap0:Nat} {xs:List Value} (hxl:xs.length=n)
  (hbase:(n=0∧cap0=0)∨∃g cur e',A0=some ⟨g,0,none⟩∧w.heap[g]? =some (.cells cur e' (0,0))∧n<=cap0∧cap0<=maxLen∧cur.size=cap0∧cur.toList.take n=xs)
  (s:Str) (hs:0<s.length) (hb:n+s.length<=33554432):
  ∃v' w',(Builtin.append_ #[t,u] ty #[.slice A0 n cap0,.string ⟨s.toArray⟩]).run P w= .ok v' w'∧
   ((∃g cur e' cur',A0=some ⟨g,0,none⟩∧w.heap[g]? =some (.cells cur e' (0,0))∧v'= .slice A0 (n+s.length) cap0∧n+s.length<=cap0∧cap0<=maxLen∧w'=w.setRow g cur'∧cur'.size=cap0∧cur'.toList.take (n+s.length)=xs++(intsOf s).map (Value.int .u8))∨
    (∃cap' cur',v'= .slice (some ⟨w.heap.size,0,none⟩) (n+s.length) cap'∧n+s.length<=cap'∧cap'<=maxLen∧w'=w.drew.alloc (.cells cur' e)∧cur'.size=cap'∧cur'.toList.take (n+s.length)=xs++(intsOf s).map (Value.int .u8))):=by
 have h63:n+s.length<=maxLen:=by simp only[maxLen];omega
 have hbytes:(n+s.length)*i.bytes<=140737488355328:=Nat.le_trans (Nat.mul_le_mul hb hby) (by decide)
 have hnl:((intsOf s).map (Value.int .u8)).length=s.length:=by simp[intsOf]
 have hlen:(xs++(intsOf s).map (Value.int .u8)).length=n+s.length:=by rw[List.length_append,hxl,hnl]
 have hbs:(⟨s.toArray⟩:ByteArray).size=s.length:=rfl
 have grown:∀(old:Nat),n+s.length<=grownCap w (n+s.length) old e∧grownCap w (n+s.length) old e<=maxLen∧
   (xs.toArray++((intsOf s).map (Value.int .u8)).toArray++Builtin.zeroCells z.cells (grownCap w (n+s.length) old e-(n+s.length))).size=grownCap w (n+s.length) old e∧
   (xs.toArray++((intsOf s).map (Value.int .u8)).toArray++Builtin.zeroCells z.cells (grownCap w (n+s.length) old e-(n+s.length))).toList.take (n+s.length)=xs++(intsOf s).map (Value.int .u8):=by
  intro old
  have hge:=grownCap_ge w (n+s.length) old e
  refine⟨hge,grownCap_le_maxLen w (n+s.length) old e h63,?_,?_⟩
  ·simp only[Array.size_append,List.size_toArray,size_zeroCells,hzs,hxl,hnl]
   omega
  ·simp only[Array.toList_append,List.append_assoc]
   rw[<-List.append_assoc,<-hlen]
   exact List.take_left
 have h63':¬(9223372036854775807<((n:Int)+(s.length:Int))):=by omega
 rcases hbase with⟨rfl,rfl⟩|⟨g,cur,e',rfl,hg,hnc,hcm,hcs,htake⟩
 ·have hx:xs=[]:=List.eq_nil_of_length_eq_zero hxl
  subst hx
  obtain⟨k1,k2,k3,k4⟩:=grown 0
  refine⟨_,_,?_,.inr ⟨_,_,rfl,k1,k2,rfl,k3,k4⟩⟩
  have h48:¬(281474976710656<Builtin.nextslicecap s.length 0*i.bytes):=by
   rw[nextslicecap_zero hs];simp only[Nat.zero_add]at hbytes;omega
  have h0:s.length≠0:=by omega
  have h63a:¬(9223372036854775807<(s.length:Int)):=by omega
  have hf:=firstCells_str (P:=P) (w:=w.drew) s
  simp only[Nat.zero_add]at*
  have hf0:(Builtin.firstCells 1 0 (.slice A0 0 0)).run P w.drew= .ok #[] w.drew:=by
   cases A0<;>simp[Builtin.firstCells,loadCells,loadCellsFrom]
  simp[Builtin.append_,run_underlying ht,run_underlying hu,sizeOf,typeInfo,zeroValue,hi,hz,hsz,hbs,Builtin.lenOf,h0,h63a,h48,Question.forced,newRow,grownCap,hf,hf0]
 ·by_cases hroom:n+s.length<=cap0
  ·have hf:=firstCells_str (P:=P) (w:=w) s
   have hst:=run_storeCells_at P g n e' ((intsOf s).map (Value.int .u8)) 0 cur w hg (by rw[hnl,hcs];simpa using hroom) (by intro u hu;obtain⟨x,_,rfl⟩:=List.mem_map.1 hu;rfl)
   simp only[Nat.add_zero]at hst
   refine⟨_,w.setRow g (cur.toList.take n++(intsOf s).map (Value.int .u8)++cur.toList.drop (n+((intsOf s).map (Value.int .u8)).length)).toArray,?_,.inl ⟨g,cur,e',(cur.toList.take n++(intsOf s).map (Value.int .u8)++cur.toList.drop (n+((intsOf s).map (Value.int .u8)).length)).toArray,rfl,hg,rfl,hroom,hcm,rfl,?_,?_⟩⟩
   ·simp[Builtin.append_,run_underlying ht,run_underlying hu,sizeOf,typeInfo,hi,hsz,hbs,Builtin.lenOf,hroom,hf,Addr.add_lit,hst]
   ·simp only[List.size_toArray,List.length_append,List.length_take,List.length_drop,Array.length_toList,hnl]
    omega
   ·rw[htake,<-hlen]
    exact List.take_left
  ·have hf:=firstCells_str (P:=P) (w:=w.drew) s
   have holds:∀j u,xs[j]? =some u->w.cell? ((⟨g,0,none⟩:Addr).add j)=some u:=by
    intro j u hu'
    have hadd:(⟨g,0,none⟩:Addr).add j=⟨g,j,none⟩:=by unfold Addr.add;split<;>simp_all
    rw[hadd,cell_of_row w g j cur e' (0,0) hg]
    rw[<-htake,List.getElem?_take]at hu'
    split at hu'
    ·simpa using hu'
    ·cases hu'
   have hf0:=run_firstCells_some (P:=P) w.drew 1 n ⟨g,0,none⟩ n cap0 xs (by simpa using hxl) (fun j v h=>by simpa using holds j v h)
   obtain⟨k1,k2,k3,k4⟩:=grown cap0
   refine⟨_,_,?_,.inr ⟨_,_,rfl,k1,k2,rfl,k3,k4⟩⟩
   have h48:¬(281474976710656<Builtin.nextslicecap (n+s.length) cap0*i.bytes):=by
    have:=growslice_fits (need:=n+s.length) (old:=cap0) (by omega) hbytes
    omega
   simp[Builtin.append_,run_underlying ht,run_underlying hu,sizeOf,typeInfo,zeroValue,hi,hz,hsz,hbs,Builtin.lenOf,hroom,h63',h48,Question.forced,newRow,grownCap,hf,hf0]
   try (congr 2;apply Array.toList_inj.1;simp)
theorem apps_nothing{t u ty e:TypeId}{i:TypeInfo}(ht:P.underlying t=some (.slice e))(hu:P.underlying u=some .string)(hi:P.info? e=some i)(hsz:i.size=1)
  (A:Option Addr) (n cap:Nat) (hc:n<=cap):(Builtin.append_ #[t,u] ty #[.slice A n cap,.string ⟨([]:Str).toArray⟩]).run P w= .ok (.slice A n cap) w:=by
 have e0:(⟨([]:Str).toArray⟩:ByteArray).size=0:=rfl
 have e1:((⟨([]:Str).toArray⟩:ByteArray).extract 0 0).data= #[]:=rfl
 generalize hB:(⟨([]:Str).toArray⟩:ByteArray)=B at e0 e1⊢
 cases A<;>simp[Builtin.append_,e0,e1,run_underlying ht,run_underlying hu,sizeOf,typeInfo,hi,hsz,Builtin.lenOf,Builtin.firstCells,hc,storeCells]
theorem exec_apps{t u:TypeId}{x y:Operand}(hop:o.op= .call {callee:=.builtin .append,args:=⟨[x,y]⟩,argTypes:=⟨[t,u]⟩}){v:Value}{w':World}{A:Option Addr}{n cap:Nat}{s:ByteArray}
  (hx:a.eval x= .slice A n cap) (hy:a.eval y= .string s)
  (h:(Builtin.append_ #[t,u] o.type #[.slice A n cap,.string s]).run P w= .ok v w'):(execOp a.eval o).run P w= .ok (.value v) w':=by
 unfold execOp
 simp only[hop,resolve,invoke,builtin,Sem.run_bind,Sem.run_pure,Result.andThen_ok,List.map_toArray,List.map_cons,List.map_nil,hx,hy,h]
theorem byte_elems(w':World)(F':Nat->Prop):∀(s:Str),ElemsD 1 (El w' F' true (.int .u8)) (intsOf s) ((intsOf s).map (Value.int .u8)) []
 | []=>⟨rfl,rfl⟩
 |b::s=>by
  refine⟨[.int .u8 (b.toNat:Int)],(intsOf s).map (Value.int .u8),[],[],rfl,rfl,rfl,?_,byte_elems w' F' s⟩
  simp only[El,if_true]
  refine Dx_nref (F:=fun _=>True) rfl (Kx_int.2 ⟨rfl,?_⟩)
  have:=b.toNat_lt
  simp[inR,IntKind.min,IntKind.max,IntKind.signed,IntKind.bits]
  omega
theorem snd_sa(hr:Rep N G σ ow w a Γ){d L x y}(hm:I.m P N (.sa d L x y) o=true)(hv:vi S (.sa d L x y) Γ K):o.wp P a w (Post N G ow w K) Q:=by
 simp only[vi]at hv
 obtain⟨xv,hx,hv⟩:=need_iff hv
 split at hv
 rotate_left
 ·exact hv.elim
 rename_i l
 obtain⟨q,hq,hv⟩:=need_iff hv
 split at hv
 rotate_left
 ·exact hv.elim
 rename_i c' xs0
 obtain⟨xs,hxs,hv2⟩:=need_iff hv
 clear hv
 have e:=oas_eq hxs
 clear hxs
 cases e
 obtain⟨yv,hy,hv⟩:=need_iff hv2
 split at hv
 rotate_left
 ·exact hv.elim
 rename_i s
 obtain⟨hlen,hk⟩:=hv
 simp only[I.m]at hm
 split at hm
 rotate_left
 ·cases hm
 rename_i x' y' t u hop
 simp only[Bool.and_eq_true,beq_iff_eq]at hm
 obtain⟨⟨⟨⟨hd',hxm⟩,hym⟩,hrow⟩,hst⟩:=hm
 obtain⟨e,i,z,ht,hi,hz,hzc,hzs,his,hby,hsz⟩:=row_info hrow
 have his1:i.size=1:=his
 obtain⟨A,n,cap0,hσ,hxe⟩:=RepV_sl.1 (ev_rep hr hxm hx)
 obtain⟨bs,hro0,hbnd,hbow⟩:=hr.ob _ _ hq
 have hbase:=RowO_iff.1 hro0
 have hblt:=hro0.lt
 rw[hσ]at hbase
 have hye:=(RepV_str.1 (ev_rep hr hym hy)).1
 have hu:=st_under hst
 suffices h:∃v' w' ow' bs',(Builtin.append_ #[t,u] o.type #[.slice A n cap0,.string ⟨s.toArray⟩]).run P w= .ok v' w'∧Upd (fun m=>m==l||m==L) ow w ow' w'∧(∃A' n' c',v'= .slice A' n' c')∧
   RowO w' (fz G ow' w') true (.int .u8) (xs++intsOf s) v' bs'∧bs'.Nodup∧∀b∈bs',ow' b=some L by
  obtain⟨v',w',ow',bs',hrun,hu',⟨A',n',c2,hvs⟩,hro,hnd,hown⟩:=h
  refine step_own hr hd' (L:=L) (q:=.row true false (.int .u8) (xs++intsOf s)) (by simp) (exec_apps hop hxe hye hrun) hu' (RepV_sl.2 ⟨A',n',c2,by simp[σat,hvs],hvs⟩) (fun _=>⟨bs',?_,hnd,hown⟩) hk
  have:σat σ L v' L=v':=if_pos rfl
  rw[this];exact hro
 have hpl:∀b∈bs,∃m,ow b=some m∧(m==l||m==L)=true:=fun b hb=>⟨l,hbow b hb,by simp⟩
 have hbase':n=xs.length∧∃us rest,us.length=xs.length∧ElemsD 1 (El w (fz G ow w) true (.int .u8)) xs us rest∧
   ((n=0∧cap0=0∧bs=[]∧rest=[])∨∃g cur e',A=some ⟨g,0,none⟩∧bs=g::rest∧w.heap[g]? =some (.cells cur e' (0,0))∧n<=cap0∧cap0<=maxLen∧cur.size=cap0∧cur.toList.take n=us):=by
  rcases hbase with⟨⟨B,e1⟩,rfl,rfl⟩|⟨g,cap1,cur,e',rest,e1,hg,k1,k2,k3,rfl,k4⟩
  ·cases e1
   exact⟨rfl,[],[],rfl,⟨rfl,rfl⟩,.inl ⟨rfl,rfl,rfl,rfl⟩⟩
  ·cases e1
   refine⟨rfl,_,rest,?_,k4,.inr ⟨g,cur,e',rfl,rfl,hg,k1,k2,by simpa[Ki.sz]using k3,by simp[Ki.sz]⟩⟩
   have:=k4.len
   simpa[Ki.sz]using this
 obtain⟨rfl,us,rest,hul,hue,hb'⟩:=hbase'
 have keepE:∀ {w':World} {F':Nat->Prop} {zs:List Int} {u:List Value} {q:List Nat},(∀b∈q,w'.heap[b]? =w.heap[b]?)->ElemsD 1 (El w (fz G ow w) true (.int .u8)) zs u q->ElemsD 1 (El w' F' true (.int .u8)) zs u q:=by
  intro w' F' zs u q hq h
  refine h.mono fun x a r hr hx=> ?_
  simp only[El,if_true]at hx⊢
  exact hx.keep fun b hb=>hq b (hr b hb)
 by_cases hs0:s=[]
 ·subst hs0
  have hnc:xs.length<=cap0:=by
   rcases hb' with⟨h1,h2,_⟩|⟨g,cur,e',h1,_,h2,h3,h4,h5,h6⟩<;>omega
  refine⟨_,w,owRow (fun m=>m==l||m==L) L bs ow,bs,apps_nothing ht hu hi his1 A _ cap0 hnc,upd_row (fun b hb _=>hpl b hb) rfl rfl rfl (Nat.le_refl _) (fun _ _ _=>rfl),⟨_,_,_,rfl⟩,RowO_iff.2 ?_,hbnd,fun b hb=>owRow_at hb⟩
  have e0:xs++intsOf []=xs:=by simp[intsOf]
  rw[e0]
  rcases hb' with⟨h1,h2,h3,h4⟩|⟨g,cur,e',h1,h2,h3,h4,h5,h6,h7⟩
  ·have hx:xs=[]:=List.eq_nil_of_length_eq_zero h1
   subst hx
   exact .inl ⟨⟨A,by rw[h2];rfl⟩,rfl,h3⟩
  ·subst h1
   exact .inr ⟨g,cap0,cur,e',rest,rfl,h3,h4,h5,by simpa[Ki.sz]using h6,h2,by simp only[Ki.sz,Nat.mul_one];rw[h7];exact keepE (fun _ _=>rfl) hue⟩
 have hs:0<s.length:=List.length_pos_iff.2 hs0
 have hil:(intsOf s).length=s.length:=by simp[intsOf]
 obtain⟨v',w',hrun,hcase⟩:=run_apps (P:=P) (w:=w) (ty:=o.type) ht hu hi hz (by rw[hzs,his1]) his1 hby (A0:=A) (n:=xs.length) (cap0:=cap0) (xs:=us) hul (by
  rcases hb' with⟨h1,h2,_⟩|⟨g,cur,e',h1,_,h2,h3,h4,h5,h6⟩
  ·exact .inl ⟨h1,h2⟩
  ·exact .inr ⟨g,cur,e',h1,h2,h3,h4,h5,h6⟩) s hs hlen
 have hall:=hue.append (byte_elems w (fz G ow w) s)
 rw[List.append_nil]at hall
 rcases hcase with⟨g,cur,e',cur',hA,hg,rfl,hroom,hcm,rfl,hcs,htk⟩|⟨cap',cur',rfl,hc1,hc2,rfl,hcs,htk⟩
 ·rcases hb' with⟨h1,h2,h3,h4⟩|⟨g',cur2,e2,h1,h2,h3,h4,h5,h6,h7⟩
  ·omega
  ·rw[h1]at hA
   simp only[Option.some.injEq,Addr.mk.injEq,and_true]at hA
   subst hA
   rw[h3]at hg
   cases hg
   have hgn:g'∉rest:=by
    rw[h2]at hbnd;exact(List.nodup_cons.1 hbnd).1
   refine⟨_,_,owRow (fun m=>m==l||m==L) L bs ow,bs,hrun,?_,⟨_,_,_,rfl⟩,RowO_iff.2 ?_,hbnd,fun b hb=>owRow_at hb⟩
   ·refine upd_row (fun b hb _=>hpl b hb) rfl rfl rfl (by simp[World.setRow]) (fun b hb hp=> ?_)
    refine setRow_other w g' b _ ?_
    rintro rfl
    obtain⟨m,hm,hpm⟩:=hpl b (by rw[h2];simp)
    rw[hp m hm]at hpm;cases hpm
   ·subst h1
    refine .inr ⟨g',cap0,cur',_,rest,by simp[hil],setRow_heap w g' _ _ _ _ h3,by simpa[hil]using hroom,hcm,by simpa[Ki.sz]using hcs,h2,?_⟩
    simp only[Ki.sz,Nat.mul_one]
    rw[List.length_append,hil,htk]
    exact keepE (fun b hb=>setRow_other w g' b _ (fun e=>hgn (e▸hb))) hall
 ·have hrl:∀b∈rest,b∈bs:=by
   intro b hb
   rcases hb' with⟨_,_,_,h4⟩|⟨g,_,_,_,h2,_⟩
   ·rw[h4]at hb;cases hb
   ·rw[h2];exact List.mem_cons_of_mem _ hb
  have hrn:rest.Nodup:=by
   rcases hb' with⟨_,_,_,h4⟩|⟨g,_,_,_,h2,_⟩
   ·rw[h4];simp
   ·rw[h2]at hbnd;exact(List.nodup_cons.1 hbnd).2
  have hgn:w.heap.size∉rest:=fun h=>absurd (hblt _ (hrl _ h)) (Nat.lt_irrefl _)
  refine⟨_,_,owRow (fun m=>m==l||m==L) L (w.heap.size::rest) ow,w.heap.size::rest,hrun,?_,⟨_,_,_,rfl⟩,RowO_iff.2 ?_,List.nodup_cons.2 ⟨hgn,hrn⟩,fun b hb=>owRow_at hb⟩
  ·refine upd_row (fun b hb hlt=> ?_) rfl rfl rfl (by simp) (fun b hb _=>heap_alloc_old w.drew _ b hb)
   rcases List.mem_cons.1 hb with rfl|hb
   ·exact absurd hlt (Nat.lt_irrefl _)
   ·exact hpl b (hrl b hb)
  ·refine .inr ⟨w.heap.size,cap',cur',e,rest,by simp[hil],heap_alloc_new w.drew _,by simpa[hil]using hc1,hc2,by simpa[Ki.sz]using hcs,rfl,?_⟩
   simp only[Ki.sz,Nat.mul_one]
   rw[List.length_append,hil,htk]
   exact keepE (fun b hb=>heap_alloc_old w.drew _ b (hblt _ (hrl _ hb))) hall
end
end Go.Q
namespace Go.Q
def LsD(w:World):List AV->List Value->List (List Nat)->Prop
 | [],us,ps=>us=[]∧ps=[]
 |a::as,us,ps=>∃c x u us' p ps',a= .v c x∧c.isS=false∧us=u::us'∧ps=p::ps'∧Dx w c x [u] p∧LsD w as us' ps'
theorem LsD.append{w:World}:∀ {as bs:List AV} {us vs:List Value} {ps qs:List (List Nat)},LsD w as us ps->LsD w bs vs qs->LsD w (as++bs) (us++vs) (ps++qs)
 | [],_,_,_,_,_,⟨h1,h2⟩,h=>by subst h1 h2;exact h
 |a::as,_,_,_,_,_,⟨c,x,u,us',p,ps',e,hs,e1,e2,hd,hr⟩,h=>by
  subst e1 e2
  exact⟨c,x,u,_,p,_,e,hs,rfl,rfl,hd,hr.append h⟩
theorem lv_D{w:World}:∀ {f:Nat} {cs:List Ki} {h:HL cs} {va:List Value} {bs:List Nat},fok f cs=true->HAllD (Dx w) cs h va bs->∃ps,LsD w (lv f cs h) va ps∧bs=ps.flatten:=by
 intro f
 induction f with
 |zero=>intro cs h va bs hf;simp[fok]at hf
 |succ f ih=>
  intro cs h va bs hf hD
  cases cs with
  |nil=>
   obtain⟨h1,h2⟩:=hD
   exact⟨[],⟨h1,rfl⟩,h2⟩
  |cons c cs=>
   obtain⟨a,b,p,q,rfl,hl,rfl,hd,hr⟩:=hD
   by_cases hS:∃n,c= .struct n
   ·obtain⟨n,rfl⟩:=hS
    simp only[fok,Bool.and_eq_true]at hf
    obtain⟨ps,h1,rfl⟩:=ih hf.1 (Dx_struct.1 hd)
    obtain⟨qs,h2,rfl⟩:=ih hf.2 hr
    exact⟨ps++qs,h1.append h2,by simp⟩
   ·have hcs:c.isS=false:=by
     cases c<;>first|rfl|exact absurd ⟨_,rfl⟩ hS
    have hf':fok f cs=true:=by cases c<;>first|exact hf|exact absurd ⟨_,rfl⟩ hS
    have hlv:lv (f+1) (c::cs) h= .v c h.1::lv f cs h.2:=by
     cases c<;>first|rfl|exact absurd ⟨_,rfl⟩ hS
    obtain⟨qs,h2,rfl⟩:=ih hf' hr
    have h1:=isS_sz hcs
    obtain⟨e,rfl⟩:∃e,a=[e]:=List.length_eq_one_iff.1 (hl.trans h1)
    rw[hlv]
    exact⟨p::qs,⟨c,h.1,e,b,p,qs,rfl,hcs,rfl,rfl,hd,h2⟩,by simp⟩
theorem LsD.len{w:World}:∀ {ls:List AV} {us:List Value} {ps:List (List Nat)},LsD w ls us ps->us.length=ls.length∧ps.length=ls.length
 | [],us,ps,⟨h1,h2⟩=>by subst h1 h2;exact⟨rfl,rfl⟩
 |a::as,us,ps,⟨c,x,u,us',p,ps',e,hs,e1,e2,hd,hr⟩=>by
  subst e1 e2
  have:=hr.len
  simp only[List.length_cons]
  omega
theorem LsD.keep{w w':World}:∀ {ls:List AV} {us:List Value} {ps:List (List Nat)},LsD w ls us ps->(∀b∈ps.flatten,w'.heap[b]? =w.heap[b]?)->LsD w' ls us ps
 | [],us,ps,h,_=>h
 |a::as,us,ps,⟨c,x,u,us',p,ps',e,hs,e1,e2,hd,hr⟩,hb=>by
  subst e1 e2
  exact⟨c,x,u,us',p,ps',e,hs,rfl,rfl,hd.keep fun b h=>hb b (by simp[h]),hr.keep fun b h=>hb b (by
   simp only[List.flatten_cons,List.mem_append];exact .inr h)⟩
theorem LsD.split{w:World}:∀ {ls:List AV} {us:List Value} {ps:List (List Nat)} {j:Nat} {a:AV},LsD w ls us ps->ls[j]? =some a->
  ∃l1 l2 u1 u u2 q1 q q2 c x,ls=l1++a::l2∧us=u1++u::u2∧ps=q1++q::q2∧l1.length=j∧u1.length=j∧LsD w l1 u1 q1∧a= .v c x∧c.isS=false∧Dx w c x [u] q∧LsD w l2 u2 q2
 | [],_,_,_,_,_,h=>by simp at h
 |b::as,us,ps,0,a,⟨c,x,u,us',p,ps',e,hs,e1,e2,hd,hr⟩,h=>by
  simp only[List.getElem?_cons_zero,Option.some.injEq]at h
  subst h e1 e2
  exact⟨[],as,[],u,us',[],p,ps',c,x,rfl,rfl,rfl,rfl,rfl,⟨rfl,rfl⟩,e,hs,hd,hr⟩
 |b::as,us,ps,j+1,a,⟨c,x,u,us',p,ps',e,hs,e1,e2,hd,hr⟩,h=>by
  simp only[List.getElem?_cons_succ]at h
  obtain⟨l1,l2,u1,u',u2,q1,q,q2,c',x',rfl,rfl,rfl,h1,h2,h3,h4,h5,h6,h7⟩:=LsD.split hr h
  subst e1 e2
  exact⟨b::l1,l2,u::u1,u',u2,p::q1,q,q2,c',x',rfl,rfl,rfl,by simp[h1],by simp[h2],⟨c,x,u,u1,p,q1,e,hs,rfl,rfl,hd,h3⟩,h4,h5,h6,h7⟩
end Go.Q
namespace Go.Q
theorem ElemsD.part{α:Type}{sz:Nat}{P:α->List Value->List Nat->Prop}:∀ {xs:List α} {v:List Value} {bs:List Nat} {i:Nat},ElemsD sz P xs v bs->(hi:i<xs.length)->
  ∃v1 a v2 b1 p b2,v=v1++(a++v2)∧bs=b1++(p++b2)∧v1.length=i*sz∧a.length=sz∧P xs[i] a p∧
   ∀(Q:α->List Value->List Nat->Prop) (y:α) (a':List Value) (p':List Nat),a'.length=sz->(∀x a p,(∀b∈p,b∈b1∨b∈b2)->P x a p->Q x a p)->Q y a' p'->ElemsD sz Q (xs.set i y) (v1++(a'++v2)) (b1++(p'++b2))
 | [],_,_,_,_,hi=>absurd hi (by simp)
 |x::xs,v,bs,0,⟨a,b,p,q,e,hl,eb,hp,hr⟩,_=>by
  subst e eb
  refine⟨[],a,b,[],p,q,rfl,rfl,by simp,hl,hp,fun Q y a' p' ha' hm hq=>⟨a',b,p',q,rfl,ha',rfl,hq,hr.mono fun x a p hs h=>hm x a p (fun b hb=>.inr (hs b hb)) h⟩⟩
 |x::xs,v,bs,i+1,⟨a,b,p,q,e,hl,eb,hp,hr⟩,hi=>by
  subst e eb
  obtain⟨v1,a1,v2,b1,p1,b2,rfl,rfl,h1,h2,h3,h4⟩:=ElemsD.part hr (i:=i) (by simpa using hi)
  refine⟨a++v1,a1,v2,p++b1,p1,b2,by simp,by simp,by simp[h1,hl,Nat.add_mul];omega,h2,h3,fun Q y a' p' ha' hm hq=> ?_⟩
  have:=h4 Q y a' p' ha' (fun x a p hs h=>hm x a p (fun b hb=>by rcases hs b hb with h|h;exact .inl (List.mem_append_right _ h);exact .inr h) h) hq
  exact⟨a,_,p,_,by simp,hl,by simp,hm _ _ _ (fun b hb=>.inl (List.mem_append_left _ hb)) hp,this⟩
section
variable {S:FuncId->List SA->RA->Prop} {P:Program} {N:Nat} {G:Gd} {σ:Lab->Value} {ow:Own} {w:World} {a:Act} {Γ:Env} {K:Env->Prop} {Q:Exit->Act->World->Prop} {o:Oper}
end
end Go.Q
