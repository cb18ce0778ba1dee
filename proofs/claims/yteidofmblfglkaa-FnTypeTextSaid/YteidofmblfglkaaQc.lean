/- Maps, tuples, and calls that are lent what their caller owns: for every program of the model. -/
import Derived.Test.YteidofmblfglkaaQb
import Derived.Laws.Slices
import Derived.MapKept
import Derived.Laws.StructEq
import Derived.Orders
import Derived.Laws.Cover3
import Derived.Laws.Pointers
set_option linter.unusedVariables false
set_option linter.unusedSimpArgs false
namespace Go.Q
section
variable {P:Program} {S:FuncId->List SA->RA->Prop} {N:Nat} {G:Gd} {σ:Lab->Value} {ow:Own} {w:World} {a:Act} {Γ:Env} {K:Env->Prop} {Q:Exit->Act->World->Prop} {o:Oper} {F F':Nat->Prop}
theorem RepUs.at:∀ {as:List AV} {us:List Value},RepUs σ F w as us->∀ {i:Nat} {x:AV},as[i]? =some x->∃u,us[i]? =some u∧RepU σ F w x u
 | [],_,_,i,x,h=>by simp at h
 |y::as,_,⟨v,vs,e,h1,h2⟩,0,x,h=>by
  subst e
  simp only[List.getElem?_cons_zero,Option.some.injEq]at h
  subst h
  exact⟨v,rfl,h1⟩
 |y::as,_,⟨v,vs,e,h1,h2⟩,i+1,x,h=>by
  subst e
  simp only[List.getElem?_cons_succ]at h⊢
  exact RepUs.at h2 h
theorem snd_xt(hr:Rep N G σ ow w a Γ){d x i}(hm:I.m P N (.xt d x i) o=true)(hv:vi S (.xt d x i) Γ K):o.wp P a w (Post N G ow w K) Q:=by
 simp only[vi]at hv
 obtain⟨v,hx,hv⟩:=need_iff hv
 split at hv
 ·rename_i as
  obtain⟨y,hy,hk⟩:=need_iff hv
  simp only[I.m]at hm
  split at hm
  ·rename_i x' i' hop
   simp only[Bool.and_eq_true,beq_iff_eq]at hm
   obtain⟨⟨hd',hxm⟩,rfl⟩:=hm
   obtain⟨us,e,hus⟩:=(show∃us,a.eval x'= .tuple us.toArray∧RepUs σ (fz G ow w) w as us from ev_rep hr hxm hx)
   obtain⟨u,hu,hrep⟩:=hus.at hy
   refine step_put hr hd' (v:=u) ?_ ?_ hk
   ·have hlt:i<us.length:=(List.getElem?_eq_some_iff.1 hu).1
    have hg:us[i]=u:=(List.getElem?_eq_some_iff.1 hu).2
    simp[execOp,hop,e,Instr.extract,hu]
   ·cases y with
    |tu vs=>
     exfalso
     simp[RepU,AV.isS,RepC]at hrep
    |_=>exact hrep
  ·cases hm
 ·exact hv.elim
end
end Go.Q
namespace Go.Q
section
variable {P:Program} {S:FuncId->List SA->RA->Prop} {N:Nat} {G:Gd} {σ:Lab->Value} {ow:Own} {w:World} {a:Act} {Γ:Env} {K:Env->Prop} {Q:Exit->Act->World->Prop} {o:Oper} {F F':Nat->Prop}
def owF(ow:Own)(w:World):Own:=fun b=>if b<w.heap.size then ow b else none
theorem upd_grow{w':World}(h1:w'.os=w.os)(h2:w'.tape=w.tape)(h3:w'.output=w.output)(h4:w.heap.size<=w'.heap.size)(h5:∀b,b<w.heap.size->w'.heap[b]? =w.heap[b]?):Upd (fun _=>false) ow w (owF ow w) w':=
 ⟨h1,h2,h3,h4,fun b hb _=>⟨if_pos hb,h5 b hb⟩⟩
theorem Rep.growF(hr:Rep N G σ ow w a Γ){w':World}(hu:Upd (fun _=>false) ow w (owF ow w) w'):Rep N G σ (owF ow w) w' a Γ:=
 hr.upd hu (fun _ _=>rfl) ⟨fun t x _=>refs_false x,fun l q _=>⟨rfl,fun ls _=>refsL_false ls⟩⟩
theorem upd_alloc0(ob:Obj):Upd (fun _=>false) ow w (owF ow w) (w.alloc ob):=upd_grow rfl rfl rfl (by simp) (fun b hb=>heap_old w ob b hb)
theorem fz_new(hr:Rep N G σ ow w a Γ){w':World}(h:w.heap.size<w'.heap.size):fz G (owF ow w) w' w.heap.size:=⟨if_neg (Nat.lt_irrefl _),h,hr.top.new _ (Nat.le_refl _)⟩
theorem newK{g cap:Nat}{cur:Array Value}{e:TypeId}{c:Ki}{ys:List c.T}(hg:w.heap[g]? =some (.cells cur e (0,0)))(h1:ys.length<=cap)(h2:cap<=maxLen)(h3:cur.size=cap*c.sz)(hF:F g)
  (h:ElemsD c.sz (fun x a p=>Kx F w c x a∧p=[]) ys (cur.toList.take (ys.length*c.sz)) []):Kx F w (.slice c) ys [.slice (some ⟨g,0,none⟩) ys.length cap]:=by
 have hro:RowO w F false c ys (.slice (some ⟨g,0,none⟩) ys.length cap) [g]:=by
  simp only[RowO,Bool.false_eq_true,if_false]
  exact .inr ⟨g,cap,cur,e,[],rfl,hg,h1,h2,h3,rfl,h⟩
 exact hro.read (F':=F) (fun b h=>h) fun b hb=>by rw[List.mem_singleton]at hb;subst hb;exact hF
theorem snd_bf(hr:Rep N G σ ow w a Γ){d c xs}(hm:I.m P N (.bf d c xs) o=true)(hv:vi S (.bf d c xs) Γ K):o.wp P a w (Post N G ow w K) Q:=by
 simp only[vi]at hv
 obtain⟨as,hev,hv⟩:=need_iff hv
 obtain⟨ys,hys,hrefs,hk⟩:=need_iff hv
 simp only[I.m]at hm
 split at hm
 ·rename_i t n ps hop
  simp only[Bool.and_eq_true,beq_iff_eq]at hm
  obtain⟨⟨⟨⟨hd',rfl⟩,hps⟩,hrow⟩,hn⟩:=hm
  have hn':=Nat.le_of_ble_eq_true hn
  obtain⟨e,i,z,ht,hi,hz,hzc,hzs,his,hby,hsz⟩:=row_info hrow
  obtain⟨h1,h2⟩:=dst_of hd'
  obtain⟨vs,e1,e2,e3⟩:=evs_reps hr hev hps
  obtain⟨k1,k2,k3⟩:=pks_K hr.ob hys hrefs e2
  have hrun:=exec_bs (a:=a) (w:=w) (r:=default) hop e1 (by rw[<-e3];exact run_bs ht hi hz hzs hsz vs (fun v h=>by rw[k2 v h,his]) (by rw[e3,his];exact hn'))
  refine wp_value hrun ?_
  rw[h1]
  have hu:=upd_alloc0 (ow:=ow) (w:=w) (.cells (vs.flatMap fun v=>v.cells.toList).toArray e)
  have hsz':(vs.flatMap fun v=>v.cells.toList).toArray.size=vs.length*c.sz:=by
   have:=k1.len
   rw[k3]at this
   simpa using this
  have hcap:vs.length<=maxLen:=by
   have:vs.length*1<=vs.length*c.sz:=Nat.mul_le_mul_left _ (by omega)
   simp only[maxLen]
   rw[<-e3]at hn'
   omega
  have hK:Kx (fz G (owF ow w) (w.alloc (.cells (vs.flatMap fun v=>v.cells.toList).toArray e))) (w.alloc (.cells (vs.flatMap fun v=>v.cells.toList).toArray e)) (.slice c) ys [.slice (some ⟨w.heap.size,0,none⟩) ys.length vs.length]:=by
   refine newK (heap_new w _) (by omega) hcap hsz' (fz_new hr (by simp)) ?_
   rw[List.toList_toArray,List.take_of_length_le (by rw[k1.len];exact Nat.le_refl _)]
   exact k1.mono fun x a p _ h=>⟨h.1.keep hu.fz,h.2⟩
  refine⟨_,σ,_,hk,(hr.growF hu).put h2 ?_,hu.ext⟩
  rw[<-k3]at*
  exact RepV_leaf hK rfl
 ·cases hm
end
end Go.Q
namespace Go.Q
theorem nodB_nodup:∀ {ls:List Lab},nodB ls=true->ls.Nodup
 | [],_=>List.nodup_nil
 |l::ls,h=>by
  simp only[nodB,Bool.and_eq_true]at h
  exact List.nodup_cons.2 ⟨by simpa using h.1,nodB_nodup h.2⟩
section
variable {P:Program} {S:FuncId->List SA->RA->Prop} {N:Nat} {G:Gd} {σ:Lab->Value} {ow:Own} {w:World} {a:Act} {Γ:Env} {K:Env->Prop} {Q:Exit->Act->World->Prop} {o:Oper} {F F':Nat->Prop}
theorem pkOs_rep(hob:∀l q,lo Γ.ob l=some q->ObR G σ ow w l q){c:Ki}:∀ {as:List AV} {ys:List c.T} {vs:List Value} {labs:List Lab},pkOs Γ.ob c as=some (ys,labs)->RepVs σ (fz G ow w) w as vs->labs.Nodup->
  ∃bs,ElemsD c.sz (Dx w c) ys (vs.flatMap fun v=>v.cells.toList) bs∧bs.Nodup∧OB ow labs bs∧(∀v∈vs,v.cells.size=c.sz)∧ys.length=vs.length
 | [],ys,vs,labs,h,hv,hn=>by
  simp only[pkOs,Option.some.injEq,Prod.mk.injEq]at h
  obtain⟨rfl,rfl⟩:=h
  cases hv
  exact⟨[],⟨rfl,rfl⟩,List.nodup_nil,fun b hb=>(by cases hb),fun _ h=>(by simp at h),rfl⟩
 |x::as,ys,vs,labs,h,hv,hn=>by
  simp only[pkOs,Option.bind_eq_some_iff,Option.map_eq_some_iff,Prod.mk.injEq]at h
  obtain⟨⟨y,l1⟩,hy,⟨zs,l2⟩,hs,rfl,rfl⟩:=h
  obtain⟨v,vs',rfl,h1,h2⟩:=hv
  obtain⟨b1,k1,k2,k3⟩:=pkO_rep hob hy h1 (List.nodup_append.1 hn).1
  obtain⟨b2,g1,g2,g3,g4,g5⟩:=pkOs_rep hob hs h2 (List.nodup_append.1 hn).2.1
  refine⟨b1++b2,⟨v.cells.toList,_,b1,b2,rfl,k1.len,rfl,k1,g1⟩,k3.nodup g3 hn k2 g2,k3.append g3,fun u hu=> ?_,by simp[g5]⟩
  rcases List.mem_cons.1 hu with rfl|hu
  ·simpa using k1.len
  ·exact g4 u hu
theorem ElemsD.bs_lt{c:Ki}:∀ {xs:List c.T} {v:List Value} {bs:List Nat},ElemsD c.sz (Dx w c) xs v bs->∀b∈bs,b<w.heap.size
 | [],_,_,h,b,hb=>by rw[h.2]at hb;cases hb
 |_::xs,_,_,⟨a,b',p,q,e,hl,eb,hp,hr⟩,b,hb=>by
  subst eb
  rcases List.mem_append.1 hb with h|h
  ·exact hp.lt b h
  ·exact hr.bs_lt b h
theorem snd_bo(hr0:Rep N G σ ow w a Γ){d c xs}(hm:I.m P N (.bo d c xs) o=true)(hv:vi S (.bo d c xs) Γ K):o.wp P a w (Post N G ow w K) Q:=by
 simp only[vi]at hv
 obtain⟨as,hev,hv⟩:=need_iff hv
 obtain⟨⟨ys,labs⟩,hys,hnd,hk⟩:=need_iff hv
 have hr:=hr0.kill (hd d)
 simp only[I.m]at hm
 split at hm
 ·rename_i t n ps hop
  simp only[Bool.and_eq_true,beq_iff_eq]at hm
  obtain⟨⟨⟨⟨hd',rfl⟩,hps⟩,hrow⟩,hn⟩:=hm
  have hn':=Nat.le_of_ble_eq_true hn
  obtain⟨e,i,z,ht,hi,hz,hzc,hzs,his,hby,hsz⟩:=row_info hrow
  obtain⟨vs,e1,e2,e3⟩:=evs_reps hr hev hps
  obtain⟨bs,k1,k2,k3,k4,k5⟩:=pkOs_rep hr.ob hys e2 (nodB_nodup hnd)
  have hrun:=exec_bs (a:=a) (w:=w) (r:=default) hop e1 (by rw[<-e3];exact run_bs ht hi hz hzs hsz vs (fun v h=>by rw[k4 v h,his]) (by rw[e3,his];exact hn'))
  have hblt:=k1.bs_lt
  have hu:Upd (fun m=>hd d m||inLs labs m) ow w (owRow (fun m=>hd d m||inLs labs m) [d] (w.heap.size::bs) ow) (w.alloc (.cells (vs.flatMap fun v=>v.cells.toList).toArray e)):=by
   refine upd_row (fun b hb hlt=> ?_) rfl rfl rfl (by simp) (fun b hb _=>heap_old w _ b hb)
   rcases List.mem_cons.1 hb with rfl|hb
   ·omega
   ·obtain⟨l,hl,ho⟩:=k3 b hb
    exact⟨l,ho,by simp[inLs,hl]⟩
  have hsz':(vs.flatMap fun v=>v.cells.toList).toArray.size=vs.length*c.sz:=by
   have:=k1.len
   rw[k5]at this
   simpa using this
  have hcap:vs.length<=maxLen:=by
   have:vs.length*1<=vs.length*c.sz:=Nat.mul_le_mul_left _ (by omega)
   simp only[maxLen]
   rw[<-e3]at hn'
   omega
  refine step_own hr hd' (L:=[d]) (q:=.row true false c ys) (by simp[hd]) hrun hu (RepV_sl.2 ⟨_,_,_,by simp[σat],rfl⟩) (fun _=>⟨w.heap.size::bs,?_,?_,fun b hb=>owRow_at hb⟩) hk
  ·have hσ:σat σ [d] (.slice (some ⟨w.heap.size,0,none⟩) vs.length vs.length) [d]= .slice (some ⟨w.heap.size,0,none⟩) ys.length vs.length:=by simp[σat,k5]
   rw[<-e3]at*
   rw[hσ]
   simp only[RowO,if_true]
   refine .inr ⟨w.heap.size,vs.length,_,e,bs,rfl,heap_new w _,by omega,hcap,hsz',rfl,?_⟩
   rw[List.toList_toArray,List.take_of_length_le (by rw[k1.len];exact Nat.le_refl _)]
   exact k1.mono fun x a p hp h=>h.keep fun b hb=>heap_old w _ b (hblt b (hp b hb))
  ·refine List.nodup_cons.2 ⟨fun h=> ?_,k2⟩
   have:=hblt _ h
   omega
 ·cases hm
theorem step_obj(hr:Rep N G σ ow w a Γ){d:Nat}(hd':dstOk N d o=true){ob:Obj}{v:Value}{x:AV}{q:Ob}(hrun:(execOp a.eval o).run P w= .ok (.value v) (w.alloc ob))
  (hx:RepV (σat σ [d] v) (fz G (owRow (hd d) [d] [w.heap.size] ow) (w.alloc ob)) (w.alloc ob) x v) (hq:ObR G (σat σ [d] v) (owRow (hd d) [d] [w.heap.size] ow) (w.alloc ob) [d] q) (hpn:q.pn=false)
  (hk:K (((Γ.kill (hd d)).new [d] q).put d x)):o.wp P a w (Post N G ow w K) Q:=by
 obtain⟨h1,h2⟩:=dst_of hd'
 have hu:Upd (hd d) ow w (owRow (hd d) [d] [w.heap.size] ow) (w.alloc ob):=upd_row (fun b hb hlt=>by rw[List.mem_singleton]at hb;omega) rfl rfl rfl (by simp) (fun b hb _=>heap_old w _ b hb)
 refine wp_value hrun ?_
 rw[h1]
 have hr':=(hr.kill (hd d)).upd (σ':=σat σ [d] v) hu (σat_keep (by simp[hd])) (Free.kill (hd d) Γ)
 exact⟨_,_,_,hk,(hr'.new hq (fun h=>by rw[pnd_false hpn (hr.big d [] h2)]at h;cases h)).put h2 hx,hu.ext⟩
theorem snd_mm(hr:Rep N G σ ow w a Γ){d kk vk}(hm:I.m P N (.mm d kk vk) o=true)(hv:vi S (.mm d kk vk) Γ K):o.wp P a w (Post N G ow w K) Q:=by
 simp only[vi]at hv
 simp only[I.m]at hm
 split at hm
 ·rename_i t hop
  refine step_obj hr hm (ob:=.map #[] 0) (v:=.map (some w.heap.size)) (q:=.mp kk vk []) (by simp[execOp,hop,Instr.makeMap]) ?_ ⟨w.heap.size,#[],0,by simp[σat],heap_new w _,owRow_at (by simp),[],List.Perm.refl _,List.Pairwise.nil,rfl⟩ rfl hv
  simp only[RepV,RepU,AV.isS,Bool.false_eq_true,if_false,RepC]
  exact⟨_,by simp[σat],rfl⟩
 ·cases hm
def keyTd(td:TypeDesc):Ki->Prop
 | .int k=>td= .int k
 | .bool=>td= .bool
 | .str=>td= .string
 |_=>False
theorem key_tk{t:TypeId}{kk:Ki}(hk:kk.key=true)(h:tk1 P t kk=true):∃td,P.underlying t=some td∧keyTd td kk:=by
 cases kk<;>simp only[Ki.key,Bool.false_eq_true]at hk<;>simp only[tk1]at h<;>split at h<;>first|cases h|skip
 ·rename_i k k' e
  simp only[beq_iff_eq]at h
  exact⟨_,e,by rw[h];rfl⟩
 ·rename_i e;exact⟨_,e,rfl⟩
 ·rename_i e;exact⟨_,e,rfl⟩
theorem sameNow_key{td:TypeDesc}{kk:Ki}(h:keyTd td kk){x y:kk.T}{u v:Value}(hx:Kx F w kk x [u])(hy:Kx F w kk y [v]):Instr.sameNow td u v=some (keq kk x y)∧(keq kk x y=true->u=v∧x=y):=by
 cases kk with
 |int k=>
  cases h
  obtain⟨e1,_⟩:=Kx_int.1 hx
  obtain⟨e2,_⟩:=Kx_int.1 hy
  cases e1;cases e2
  refine⟨by simp only[Instr.sameNow,keq,if_true],fun h=> ?_⟩
  simp only[keq,beq_iff_eq]at h
  subst h;exact⟨rfl,rfl⟩
 |bool=>
  cases h
  have e1:=Kx_bool.1 hx
  have e2:=Kx_bool.1 hy
  cases e1;cases e2
  refine⟨rfl,fun h=> ?_⟩
  simp only[keq,beq_iff_eq]at h
  subst h;exact⟨rfl,rfl⟩
 |str=>
  cases h
  obtain⟨e1,_⟩:=Kx_str.1 hx
  obtain⟨e2,_⟩:=Kx_str.1 hy
  cases e1;cases e2
  have hb:((⟨List.toArray x⟩:ByteArray)==⟨List.toArray y⟩)=((x:Str)==y):=by
   rw[beq_toListBytes,ByteArray.toList_eq,ByteArray.toList_eq]
  refine⟨by simp only[Instr.sameNow,keq,hb],fun h=> ?_⟩
  simp only[keq,beq_iff_eq]at h
  subst h;exact⟨rfl,rfl⟩
 |_=>exact h.elim
theorem find_keyX{td:TypeDesc}{kk vk:Ki}(h:keyTd td kk){x:kk.T}{u:Value}(hx:Kx F w kk x [u]):∀ {es:List (kk.T×vk.T)} {ms:List MapEntry} (i:Nat),EntX F w kk vk es ms->
  (mhas es x=false∧Instr.findNow td u ms i=some none∧∀(y:vk.T) (v:Value) (b:Nat),Kx F w vk y [v]->EntX F w kk vk (mset es x y) (ms++[⟨u,v,b⟩]))∨
  (mhas es x=true∧∃j e,ms[j]? =some e∧e.key=u∧Instr.findNow td u ms i=some (some (i+j,e.val))∧Kx F w vk (mgt es x) [e.val]∧∀(y:vk.T) (v:Value),Kx F w vk y [v]->EntX F w kk vk (mset es x y) (ms.set j {e with key:=u,val:=v}))
 | [],ms,i,hm=>by
  cases hm
  exact .inl ⟨rfl,rfl,fun y v b hy=>⟨_,_,rfl,hx,hy,rfl⟩⟩
 |(k,y0)::r,ms,i,⟨e,t,hms,h1,h2,h3⟩=>by
  subst hms
  obtain⟨hs,he⟩:=sameNow_key (F:=F) (w:=w) h hx h1
  cases hq:keq kk x k with
  |true=>
   obtain⟨e1,e2⟩:=he hq
   refine .inr ⟨by simp[mhas,hq],0,e,rfl,e1.symm,?_,?_,fun y v hy=> ?_⟩
   ·simp only[Instr.findNow,hs,hq,Nat.add_zero]
   ·simp only[mgt,hq,if_true];exact h2
   ·simp only[mset,hq,if_true,List.set_cons_zero]
    exact⟨_,_,rfl,hx,hy,h3⟩
  |false=>
   rcases find_keyX h hx (i+1) h3 with⟨g1,g2,g3⟩|⟨g1,j,e',g2,g3,g4,g5,g6⟩
   ·refine .inl ⟨by simp[mhas,hq,g1],?_,fun y v b hy=> ?_⟩
    ·simp only[Instr.findNow,hs,hq,g2]
    ·simp only[mset,hq,Bool.false_eq_true,if_false]
     exact⟨e,_,rfl,h1,h2,g3 y v b hy⟩
   ·refine .inr ⟨by simp[mhas,hq,g1],j+1,e',by simpa using g2,g3,?_,?_,fun y v hy=> ?_⟩
    ·simp only[Instr.findNow,hs,hq,g4]
     rw[show i+1+j=i+(j+1) by omega]
    ·simp only[mgt,hq,Bool.false_eq_true,if_false];exact g5
    ·simp only[mset,hq,Bool.false_eq_true,if_false,List.set_cons_succ]
     exact⟨e,_,rfl,h1,h2,g6 y v hy⟩
theorem keq_eq{kk:Ki}{x y:kk.T}(h:keq kk x y=true):x=y:=by
 cases kk<;>simp only[keq,Bool.false_eq_true]at h<;>exact beq_iff_eq.1 h
theorem keq_comm{kk:Ki}(x y:kk.T):keq kk x y=keq kk y x:=by
 cases kk<;>simp only[keq]<;>first|rfl|exact Bool.beq_comm ..
theorem kdist_perm{kk vk:Ki}{es es':List (kk.T×vk.T)}(h:es'.Perm es):kdist es'↔kdist es:=
 h.pairwise_iff fun {a b} hab=>by rw[keq_comm];exact hab
theorem mhas_iff{kk vk:Ki}{x:kk.T}:∀ {es:List (kk.T×vk.T)},mhas es x=true↔ ∃e∈es,keq kk x e.1=true
 | []=>by simp[mhas]
 |(k,v)::r=>by simp[mhas,mhas_iff (es:=r)]
theorem mhas_perm{kk vk:Ki}{x:kk.T}{es es':List (kk.T×vk.T)}(h:es'.Perm es):mhas es' x=mhas es x:=by
 rw[Bool.eq_iff_iff,mhas_iff,mhas_iff]
 exact⟨fun⟨e,h1,h2⟩=>⟨e,h.mem_iff.1 h1,h2⟩,fun⟨e,h1,h2⟩=>⟨e,h.mem_iff.2 h1,h2⟩⟩
theorem mgt_at{kk vk:Ki}{x:kk.T}:∀ {es:List (kk.T×vk.T)} {e:kk.T×vk.T},kdist es->e∈es->keq kk x e.1=true->mgt es x=e.2
 | [],_,_,h,_=>by cases h
 |(k,v)::r,e,hd,h,hx=>by
  have hd':=List.pairwise_cons.1 hd
  rcases List.mem_cons.1 h with rfl|h
  ·simp only[mgt,hx,if_true]
  ·have h1:=hd'.1 e h
   have h2:keq kk x k=false:=by
    cases hq:keq kk x k with
    |false=>rfl
    |true=>have:=keq_eq hq;subst this;rw[hx]at h1;cases h1
   simp only[mgt,h2,Bool.false_eq_true,if_false]
   exact mgt_at hd'.2 h hx
theorem mgt_no{kk vk:Ki}{x:kk.T}:∀ {es:List (kk.T×vk.T)},mhas es x=false->mgt es x=vk.z
 | [],_=>rfl
 |(k,v)::r,h=>by
  simp only[mhas,Bool.or_eq_false_iff]at h
  simp only[mgt,h.1,Bool.false_eq_true,if_false]
  exact mgt_no h.2
theorem mgt_perm{kk vk:Ki}{x:kk.T}{es es':List (kk.T×vk.T)}(h:es'.Perm es)(hd:kdist es):mgt es' x=mgt es x:=by
 cases hq:mhas es x with
 |false=>rw[mgt_no hq,mgt_no ((mhas_perm h).trans hq)]
 |true=>
  obtain⟨e,h1,h2⟩:=mhas_iff.1 hq
  rw[mgt_at hd h1 h2,mgt_at ((kdist_perm h).2 hd) (h.mem_iff.2 h1) h2]
theorem mset_mem{kk vk:Ki}{x:kk.T}{y:vk.T}{e:kk.T×vk.T}:∀ {es:List (kk.T×vk.T)},kdist es->keq kk x x=true->(e∈mset es x y↔e=(x,y)∨e∈es∧keq kk x e.1=false)
 | [],_,_=>by simp[mset]
 |(k,v)::r,hd,hx=>by
  have hd':=List.pairwise_cons.1 hd
  cases hq:keq kk x k with
  |true=>
   have:=keq_eq hq;subst this
   simp only[mset,hq,if_true,List.mem_cons]
   constructor
   ·rintro(h|h)
    ·exact .inl h
    ·exact .inr ⟨.inr h,hd'.1 e h⟩
   ·rintro(h|⟨h|h,h2⟩)
    ·exact .inl h
    ·subst h;rw[hq]at h2;cases h2
    ·exact .inr h
  |false=>
   simp only[mset,hq,Bool.false_eq_true,if_false,List.mem_cons,mset_mem hd'.2 hx]
   constructor
   ·rintro(h|h|h)
    ·subst h;exact .inr ⟨.inl rfl,hq⟩
    ·exact .inl h
    ·exact .inr ⟨.inr h.1,h.2⟩
   ·rintro(h|⟨h|h,h2⟩)
    ·exact .inr (.inl h)
    ·exact .inl h
    ·exact .inr (.inr ⟨h,h2⟩)
theorem kdist_mset{kk vk:Ki}{x:kk.T}{y:vk.T}:∀ {es:List (kk.T×vk.T)},kdist es->keq kk x x=true->kdist (mset es x y)
 | [],_,_=>by simp[mset,kdist]
 |(k,v)::r,hd,hx=>by
  have hd':=List.pairwise_cons.1 hd
  cases hq:keq kk x k with
  |true=>
   have:=keq_eq hq;subst this
   simp only[mset,hq,if_true]
   exact List.pairwise_cons.2 ⟨hd'.1,hd'.2⟩
  |false=>
   simp only[mset,hq,Bool.false_eq_true,if_false]
   refine List.pairwise_cons.2 ⟨fun e he=> ?_,kdist_mset hd'.2 hx⟩
   rcases(mset_mem hd'.2 hx).1 he with rfl|h
   ·rw[keq_comm];exact hq
   ·exact hd'.1 e h.1
theorem kdist_nodup{kk vk:Ki}(hk:kk.key=true){es:List (kk.T×vk.T)}(h:kdist es):es.Nodup:=by
 refine List.Pairwise.imp (fun {a b} hab=> ?_) h
 rintro rfl
 have:keq kk a.1 a.1=true:=by cases kk<;>simp_all[Ki.key,keq]
 rw[this]at hab;cases hab
theorem kdist_same{kk vk:Ki}(hk:kk.key=true){es es':List (kk.T×vk.T)}(h:kdist es)(h':kdist es')(hm:∀e,e∈es'↔e∈es):es'.Perm es:=
 (List.perm_ext_iff_of_nodup (kdist_nodup hk h') (kdist_nodup hk h)).2 hm
theorem mset_perm{kk vk:Ki}(hk:kk.key=true){x:kk.T}{y:vk.T}{es es':List (kk.T×vk.T)}(h:es'.Perm es)(hd:kdist es)(hx:keq kk x x=true):(mset es' x y).Perm (mset es x y):=
 kdist_same hk (kdist_mset hd hx) (kdist_mset ((kdist_perm h).2 hd) hx) fun e=>by
  rw[mset_mem hd hx,mset_mem ((kdist_perm h).2 hd) hx,h.mem_iff]
theorem key_refl{kk:Ki}(hk:kk.key=true)(x:kk.T):keq kk x x=true:=by cases kk<;>simp_all[Ki.key,keq]
theorem keyTd_key{td:TypeDesc}{kk:Ki}(h:keyTd td kk):kk.key=true:=by cases kk<;>first|rfl|exact h.elim
theorem EntR.dist{kk vk:Ki}{es:List (kk.T×vk.T)}{ms:List MapEntry}(h:EntR F w kk vk es ms):kdist es:=by
 obtain⟨es',hp,hd,_⟩:=h
 exact(kdist_perm hp).1 hd
theorem find_key{td:TypeDesc}{kk vk:Ki}(h:keyTd td kk){x:kk.T}{u:Value}(hx:Kx F w kk x [u]){es:List (kk.T×vk.T)}{ms:List MapEntry}(i:Nat)(hm:EntR F w kk vk es ms):
  (mhas es x=false∧Instr.findNow td u ms i=some none∧∀(y:vk.T) (v:Value) (b:Nat),Kx F w vk y [v]->EntR F w kk vk (mset es x y) (ms++[⟨u,v,b⟩]))∨
  (mhas es x=true∧∃j e,ms[j]? =some e∧e.key=u∧Instr.findNow td u ms i=some (some (i+j,e.val))∧Kx F w vk (mgt es x) [e.val]∧∀(y:vk.T) (v:Value),Kx F w vk y [v]->EntR F w kk vk (mset es x y) (ms.set j {e with key:=u,val:=v})):=by
 have hd:=hm.dist
 obtain⟨es',hp,hd',hX⟩:=hm
 have hk:=keyTd_key h
 have hxx:=key_refl hk x
 rcases find_keyX h hx i hX with⟨g1,g2,g3⟩|⟨g1,j,e,g2,g3,g4,g5,g6⟩
 ·exact .inl ⟨(mhas_perm hp).symm.trans g1,g2,fun y v b hy=>⟨_,mset_perm hk hp hd hxx,kdist_mset hd' hxx,g3 y v b hy⟩⟩
 ·exact .inr ⟨(mhas_perm hp).symm.trans g1,j,e,g2,g3,g4,by rw[<-mgt_perm hp hd];exact g5,fun y v hy=>⟨_,mset_perm hk hp hd hxx,kdist_mset hd' hxx,g6 y v hy⟩⟩
theorem mpAs_eq{kk vk kk' vk':Ki}{es0:List (kk'.T×vk'.T)}{es:List (kk.T×vk.T)}(h:mpAs kk vk (.mp kk' vk' es0)=some es):Ob.mp kk' vk' es0= .mp kk vk es:=by
 simp only[mpAs]at h
 by_cases e:kk'=kk∧vk'=vk
 ·rw[dif_pos e]at h
  obtain⟨rfl,rfl⟩:=e
  simp only[Option.some.injEq]at h
  rw[h]
 ·rw[dif_neg e]at h;cases h
theorem RepV_mp{l:Lab}{u:Value}:RepV σ F w (.mp l) u↔ ∃g,σ l= .map (some g)∧u= .map (some g):=by
 simp[RepV,RepU,AV.isS,RepC]
theorem check_key{td:TypeDesc}{t:TypeId}{kk:Ki}(ht:P.underlying t=some td)(h:keyTd td kk)(b:Bool)(u:Value):(Instr.checkKey b 10000 t u).run P w= .ok () w:=by
 cases kk<;>first|exact h.elim|(cases h;unfold Instr.checkKey;simp only[Sem.run_bind,run_underlying ht,Result.andThen_ok];rfl)
theorem same_bits{kk:Ki}(hk:kk.key=true){x:kk.T}{u:Value}(hx:Kx F w kk x [u]):Instr.sameBits 10000 u u=true:=by
 cases kk with
 |int k=>obtain⟨e,_⟩:=Kx_int.1 hx;cases e;simp[Instr.sameBits]
 |bool=>have e:=Kx_bool.1 hx;cases e;simp[Instr.sameBits]
 |str=>obtain⟨e,_⟩:=Kx_str.1 hx;cases e;simp only[Instr.sameBits,beq_toListBytes,beq_self_eq_true]
 |_=>simp[Ki.key]at hk
theorem one_of{c:Ki}(h:c.isSt=false){x:c.T}{u:Value}(hx:RepV σ F w (.v c x) u):Kx F w c x [u]:=by
 cases c<;>simp[Ki.isSt]at h<;>simpa[RepV,RepU,AV.isS,RepC]using hx
theorem key_st{c:Ki}(h:c.key=true):c.isSt=false:=by cases c<;>simp_all[Ki.key,Ki.isSt]
theorem heap_setObj(w:World)(g:Nat)(ob:Obj)(h:g<w.heap.size):({w with heap:=w.heap.setIfInBounds g ob}:World).heap[g]? =some ob:=by
 simp[Array.getElem?_setIfInBounds,h]
theorem snd_mu(hr:Rep N G σ ow w a Γ){m k v kk vk}(hm:I.m P N (.mu m k v kk vk) o=true)(hv:vi S (.mu m k v kk vk) Γ K):o.wp P a w (Post N G ow w K) Q:=by
 simp only[vi]at hv
 obtain⟨av,ha,hv1⟩:=need_iff hv
 clear hv
 split at hv1
 rotate_left
 ·exact hv1.elim
 rename_i l
 obtain⟨q,hq,hv2⟩:=need_iff hv1
 clear hv1
 split at hv2
 rotate_left
 ·exact hv2.elim
 rename_i kk' vk' es0
 obtain⟨es,hes,hv3⟩:=need_iff hv2
 clear hv2
 obtain⟨xa,hxa,hv4⟩:=need_iff hv3
 clear hv3
 obtain⟨x,hx,hv5⟩:=need_iff hv4
 clear hv4
 obtain⟨ya,hya,hv6⟩:=need_iff hv5
 clear hv5
 obtain⟨y,hy,hkey,hst,hk⟩:=need_iff hv6
 clear hv6
 have e1:=mpAs_eq hes
 cases e1
 have ex:=as_eq hx
 subst ex
 have ey:=as_eq hy
 subst ey
 have main:∀ {t:TypeId} {m' k' v':Operand},(o.op= .mapUpdate t m' k' v'∨o.op= .insert t m' k' v')->(o.dst.isNone&&m.m m'&&k.m k'&&v.m v'&&mpOk P t kk vk)=true->o.wp P a w (Post N G ow w K) Q:=by
  intro t m' k' v' hop hm
  simp only[Bool.and_eq_true]at hm
  obtain⟨⟨⟨⟨hd',hmm⟩,hkm⟩,hvm⟩,ht⟩:=hm
  unfold mpOk at ht
  split at ht
  rotate_left
  ·cases ht
  rename_i kt et hut
  simp only[Bool.and_eq_true]at ht
  obtain⟨td,htd,hkt⟩:=key_tk hkey ht.1.1.2
  obtain⟨g,hσ,eu⟩:=RepV_mp.1 (ev_rep hr hmm ha)
  obtain⟨g',ms,clk,hσ',hg,how,hent⟩:=hr.ob _ _ hq
  rw[hσ]at hσ'
  cases hσ'
  have hkx:=one_of (key_st hkey) (ev_rep hr hkm hxa)
  have hvx:=one_of hst (ev_rep hr hvm hya)
  have hglt:g<w.heap.size:=(Array.getElem?_eq_some_iff.1 hg).1
  have hgo:(getObj g).run P w= .ok (.map ms clk) w:=MapKept.run_getObj_map hg
  have fin:∀(ms':Array MapEntry) (clk':Nat),(Instr.mapUpdate t (a.eval m') (a.eval k') (a.eval v')).run P w= .ok () {w with heap:=w.heap.setIfInBounds g (.map ms' clk')}->EntR (fz G ow w) w kk vk (mset es x y) ms'.toList->o.wp P a w (Post N G ow w K) Q:=by
   intro ms' clk' hrun he
   have hdn:o.dst=none:=by simpa using hd'
   refine wp_skip' (w':= {w with heap:=w.heap.setIfInBounds g (.map ms' clk')}) (by rcases hop with hop|hop<;>simp[execOp,hop,hrun]) ?_
   rw[hdn,put_none]
   have hu:Upd (fun m=>m==l) ow w ow {w with heap:=w.heap.setIfInBounds g (.map ms' clk')}:=⟨rfl,rfl,rfl,by simp,fun b hb hp=>⟨rfl,by
    have hne:g≠b:=fun e=>by subst e;have:=hp l how;simp at this
    simp[Array.getElem?_setIfInBounds,hne]⟩⟩
   exact⟨_,σ,ow,hk,hr.setOb hu (o':=.mp kk vk (mset es x y)) ⟨g,ms',clk',hσ,heap_setObj w g _ hglt,how,he.keep hu.fz⟩ (fun h=>hr.pin _ _ hq h),hu.ext⟩
  rcases find_key (w:=w) hkt hkx 0 hent with⟨g1,g2,g3⟩|⟨g1,j,e,g2,g3,g4,g5,g6⟩
  ·refine fin (ms.push ⟨a.eval k',a.eval v',clk⟩) (clk+1) ?_ (by simpa using g3 y _ clk hvx)
   simp only[Instr.mapUpdate,Sem.run_bind,run_underlying hut,Result.andThen_ok,eu,hgo,check_key htd hkt,Instr.findKey,run_underlying htd,g2,Sem.run_pure]
   exact MapKept.run_setObj_map _ hg
  ·have hj:j<ms.toList.length:=(List.getElem?_eq_some_iff.1 g2).1
   have hkk:ms[j]? =some e:=by simpa using g2
   refine fin (ms.modify j fun e=> {e with key:=a.eval k',val:=a.eval v'}) clk ?_ ?_
   ·simp only[Instr.mapUpdate,Sem.run_bind,run_underlying hut,Result.andThen_ok,eu,hgo,check_key htd hkt,Instr.findKey,run_underlying htd,g4,Nat.zero_add,hkk,Option.map_some,Option.getD_some,g3,Instr.keyThatStays,same_bits hkey hkx,Sem.run_pure,if_true]
    exact MapKept.run_setObj_map _ hg
   ·have:(ms.modify j fun e=> {e with key:=a.eval k',val:=a.eval v'}).toList=ms.toList.set j {e with key:=a.eval k',val:=a.eval v'}:=by
     apply List.ext_getElem?
     intro i
     by_cases hi:j=i
     ·subst hi
      have hj':j<ms.size:=by simpa using hj
      have e3:=(Array.getElem?_eq_some_iff.1 hkk).2
      simp[Array.getElem?_modify,hkk,List.getElem?_set,hj',e3]
     ·simp[Array.getElem?_modify,List.getElem?_set,hi]
    rw[this]
    exact g6 y _ hvx
 simp only[I.m]at hm
 split at hm
 ·rename_i t m' k' v' hop
  exact main (.inl hop) hm
 ·rename_i t m' k' v' hop
  exact main (.inr hop) hm
 ·cases hm
theorem Kx_z{c:Ki}(h:c.isSt=false):Kx F w c c.z [kz (z1 c)]:=by
 cases c with
 |int k=>exact Kx_int.2 ⟨rfl,inR0 k⟩
 |bool=>exact Kx_bool.2 rfl
 |str=>exact Kx_str.2 ⟨rfl,by simp[Ki.z,maxLen]⟩
 |slice c=>exact Kx_slice.2 ⟨none,0,rfl,Nat.le_refl _,Nat.zero_le _,fun i hi=>absurd hi (by simp[Ki.z])⟩
 |struct n=>simp[Ki.isSt]at h
 |ptr c=>exact Kx_ptr_none.2 rfl
theorem snd_ml(hr:Rep N G σ ow w a Γ){d m k kk vk ok}(hm:I.m P N (.ml d m k kk vk ok) o=true)(hv:vi S (.ml d m k kk vk ok) Γ K):o.wp P a w (Post N G ow w K) Q:=by
 simp only[vi]at hv
 obtain⟨av,ha,hv1⟩:=need_iff hv
 clear hv
 split at hv1
 rotate_left
 ·exact hv1.elim
 rename_i l
 obtain⟨q,hq,hv2⟩:=need_iff hv1
 clear hv1
 split at hv2
 rotate_left
 ·exact hv2.elim
 rename_i kk' vk' es0
 obtain⟨es,hes,hv3⟩:=need_iff hv2
 clear hv2
 obtain⟨xa,hxa,hv4⟩:=need_iff hv3
 clear hv3
 obtain⟨x,hx,hkey,hst,hk⟩:=need_iff hv4
 clear hv4
 have e1:=mpAs_eq hes
 cases e1
 have ex:=as_eq hx
 subst ex
 simp only[I.m]at hm
 split at hm
 rotate_left
 ·cases hm
 rename_i t m' k' ok' hop
 simp only[Bool.and_eq_true,beq_iff_eq]at hm
 obtain⟨⟨⟨⟨hd',rfl⟩,hmm⟩,hkm⟩,ht⟩:=hm
 unfold mpOk at ht
 split at ht
 rotate_left
 ·cases ht
 rename_i kt et hut
 simp only[Bool.and_eq_true]at ht
 obtain⟨td,htd,hkt⟩:=key_tk hkey ht.1.1.2
 obtain⟨i,z,hi,hz,hzc⟩:=tz_zero ht.1.2
 have hagg:z=kz (z1 vk):=by
  have h2:=ht.2
  rw[hi]at h2
  simp only[hz]at h2
  have hc:zc vk=[kz (z1 vk)]:=by cases vk<;>simp[Ki.isSt]at hst<;>rfl
  rw[hc]at hzc
  cases z<;>simp_all[Value.cells]
 obtain⟨g,hσ,eu⟩:=RepV_mp.1 (ev_rep hr hmm ha)
 obtain⟨g',ms,clk,hσ',hg,how,hent⟩:=hr.ob _ _ hq
 rw[hσ]at hσ'
 cases hσ'
 have hkx:=one_of (key_st hkey) (ev_rep hr hkm hxa)
 have hgo:(getObj g).run P w= .ok (.map ms clk) w:=MapKept.run_getObj_map hg
 have hzv:(zeroValue et).run P w= .ok z w:=by simp[zeroValue,typeInfo,hi,hz]
 have fin:∀v:Value,Kx (fz G ow w) w vk (mgt es x) [v]->(Instr.lookup t (a.eval m') (a.eval k') ok).run P w= .ok (if ok then .tuple #[v,.bool (mhas es x)]else v) w->o.wp P a w (Post N G ow w K) Q:=by
  intro v hvx hrun
  have hvv:RepU σ (fz G ow w) w (.v vk (mgt es x)) v:=by
   have hn:(AV.v vk (mgt es x)).isS=false:=by cases vk<;>simp[Ki.isSt]at hst<;>rfl
   simp only[RepU,hn,Bool.false_eq_true,if_false,RepC]
   exact hvx
  refine step_put hr hd' (by simp only[execOp,hop,Sem.run_bind,hrun];rfl) ?_ hk
  cases ok with
  |true=>
   simp only[if_true,RepV]
   exact⟨[v,.bool (mhas es x)],rfl,_,_,rfl,hvv,_,_,rfl,by simp[RepU,AV.isS,RepC,Kx_bool],rfl⟩
  |false=>
   simp only[Bool.false_eq_true,if_false]
   exact hvv
 rcases find_key (w:=w) hkt hkx 0 hent with⟨g1,g2,g3⟩|⟨g1,j,e,g2,g3,g4,g5,g6⟩
 ·have hmg:mgt es x=vk.z:=mgt_no g1
  refine fin z (by rw[hmg,hagg];exact Kx_z hst) ?_
  simp only[Instr.lookup,Sem.run_bind,run_underlying hut,Result.andThen_ok,eu,hgo,check_key htd hkt,Instr.findKey,run_underlying htd,g2,hzv,Sem.run_pure,g1]
 ·refine fin e.val g5 ?_
  simp only[Instr.lookup,Sem.run_bind,run_underlying hut,Result.andThen_ok,eu,hgo,check_key htd hkt,Instr.findKey,run_underlying htd,g4,Sem.run_pure,g1]
end
end Go.Q
namespace Go.Q
def mkOw:Nat->List (List Nat)->Own
 |_,[],_=>none
 |j,p::ps,b=>if b∈p then some [j]else mkOw (j+1) ps b
theorem mkOw_none:∀ {j:Nat} {ps:List (List Nat)} {b:Nat},b∉ps.flatten->mkOw j ps b=none
 |_,[],_,_=>rfl
 |j,p::ps,b,h=>by
  simp only[List.flatten_cons,List.mem_append,not_or]at h
  simp only[mkOw,h.1,if_false]
  exact mkOw_none h.2
theorem mkOw_at:∀ {j:Nat} {ps:List (List Nat)} {i:Nat} {p:List Nat} {b:Nat},ps.flatten.Nodup->ps[i]? =some p->b∈p->mkOw j ps b=some [j+i]
 |_,[],_,_,_,_,h,_=>by simp at h
 |j,q::ps,0,p,b,hn,h,hb=>by
  simp only[List.getElem?_cons_zero,Option.some.injEq]at h
  subst h
  simp[mkOw,hb]
 |j,q::ps,i+1,p,b,hn,h,hb=>by
  simp only[List.getElem?_cons_succ]at h
  simp only[List.flatten_cons,List.nodup_append]at hn
  have hm:b∈ps.flatten:=List.mem_flatten.2 ⟨p,List.mem_of_getElem? h,hb⟩
  have:b∉q:=fun hq=>hn.2.2 b hq b hm rfl
  simp only[mkOw,this,if_false]
  rw[mkOw_at hn.2.1 h hb]
  simp;omega
theorem nodup_part:∀ {ps:List (List Nat)} {p:List Nat},ps.flatten.Nodup->p∈ps->p.Nodup
 | [],_,_,h=>by cases h
 |q::ps,p,hn,h=>by
  simp only[List.flatten_cons,List.nodup_append]at hn
  rcases List.mem_cons.1 h with rfl|h
  ·exact hn.1
  ·exact nodup_part hn.2.1 h
section
variable {P:Program} {N:Nat} {G:Gd} {σ:Lab->Value} {ow:Own} {w:World} {a:Act} {Γ:Env}
theorem flat_bs{c:Ki}{x:c.T}{u:List Value}{p:List Nat}(hc:c.isS=false)(hs:∀e,c≠ .slice e)(h:Dx w c x u p):p=[]:=by
 cases c with
 |int k=>exact(Dx_int.1 h).2.2
 |bool=>exact(Dx_bool.1 h).2
 |str=>exact(Dx_str.1 h).2.2
 |slice e=>exact absurd rfl (hs e)
 |struct n=>simp[Ki.isS]at hc
 |ptr c=>obtain⟨d,h⟩:=h;cases d<;>exact h.elim
theorem ownL_rep{F:Nat->Prop}:∀ {ls:List AV} {us:List Value} {ps:List (List Nat)} {j:Nat},LsD w ls us ps->(∀i u,us[i]? =some u->σ [j+i]=u)->(∀i p,ps[i]? =some p->p.Nodup∧∀b∈p,ow b=some [j+i])->
  RepCs σ F w (ownL [] j ls).1 us∧∀k q,lo (ownL [] j ls).2 k=some q->ObR G σ ow w k q
 | [],us,ps,j,⟨h1,h2⟩,_,_=>⟨h1,fun k q h=>by simp[ownL,lo]at h⟩
 |a::as,us,ps,j,⟨c,x,u,us',p,ps',e,hs,e1,e2,hd,hr⟩,hσ,how=>by
  subst e e1 e2
  obtain⟨h1,h2⟩:=ownL_rep (j:=j+1) hr (fun i v hv=>by have:=hσ (i+1) v hv;rwa[show j+(i+1)=j+1+i by omega]at this)
   (fun i p hp=>by have:=how (i+1) p hp;rwa[show j+(i+1)=j+1+i by omega]at this)
  have hu:σ [j]=u:=hσ 0 u rfl
  by_cases hsl:∃e,c= .slice e
  ·obtain⟨e,rfl⟩:=hsl
   obtain⟨u',e1,hrow⟩:=Dx_slice.1 hd
   cases e1
   have hrow':RowO w (fz G ow w) true e x u p:=by simp only[RowO,if_true];exact hrow
   obtain⟨A,cap,eu,_,_⟩:=row_form hrow'
   obtain⟨hnd,hob⟩:=how 0 p rfl
   refine⟨?_,fun k q hq=> ?_⟩
   ·simp only[ownL,List.nil_append,RepCs]
    exact⟨u,us',rfl,⟨A,_,cap,hu.trans eu,by rw[eu]⟩,h1⟩
   ·simp only[ownL,List.nil_append,lo]at hq
    split at hq
    ·rename_i ek
     subst ek
     cases hq
     exact⟨p,hu▸hrow',hnd,fun b hb=>by simpa using hob b hb⟩
    ·exact h2 k q hq
  ·have hne:∀e,c≠ .slice e:=fun e h=>hsl ⟨e,h⟩
   have hp:=flat_bs hs hne hd
   subst hp
   have hK:Kx F w c x [u]:=hd.read fun b hb=>by cases hb
   have e1:(ownL [] j (.v c x::as)).1= .v c x::(ownL [] (j+1) as).1∧(ownL [] j (.v c x::as)).2=(ownL [] (j+1) as).2:=by
    cases c<;>first|exact⟨rfl,rfl⟩|exact absurd rfl (hne _)
   rw[e1.1,e1.2]
   exact⟨⟨u,us',rfl,hK,h1⟩,h2⟩
theorem ResR_o{c:Ki}{y:c.T}{u:Value}{bs:List Nat}(hd:Dx w c y u.cells.toList bs)(hnd:bs.Nodup)(hu:u=valOf c u.cells.toList):
  ∃ow',(∀b,b∉bs->ow' b=none)∧ResR G ow' w (.o c y) u:=by
 by_cases hS:c.isS=true
 ·cases c<;>simp[Ki.isS]at hS
  rename_i n
  obtain⟨ps,hL,rfl⟩:=lv_D (fok99 n) (Dx_struct.1 hd)
  obtain⟨h1,h2⟩:=ownL_rep (G:=G) (F:=fz G (mkOw 0 ps) w) (σ:=fun l=>match l with| [i]=>u.cells.toList.getD i undef|_=>undef) (ow:=mkOw 0 ps) (j:=0) hL
   (fun i v hv=>by simp[List.getD_eq_getElem?_getD];simpa using congrArg (Option.getD · undef) hv)
   (fun i p hp=>⟨nodup_part hnd (List.mem_of_getElem? hp),fun b hb=>mkOw_at hnd hp hb⟩)
  refine⟨mkOw 0 ps,fun b hb=>mkOw_none hb,_,?_,h2⟩
  simp only[RA.intro,RepV,RepU,AV.isS,if_true]
  have hlen:=hd.len
  refine⟨u.cells.toList,by rw[hu];simp[valOf,Ki.isS,Value.cells],?_⟩
  simp only[RepC]
  exact⟨h1.length.symm.trans hlen,h1⟩
 ·have hS':c.isS=false:=by simpa using hS
  have h1:=isS_sz hS'
  obtain⟨e,he⟩:∃e,u.cells.toList=[e]:=List.length_eq_one_iff.1 (hd.len.trans h1)
  rw[he]at hd hu
  have hue:u=e:=by rw[hu];simp[valOf,hS']
  subst hue
  by_cases hsl:∃e,c= .slice e
  ·obtain⟨e,rfl⟩:=hsl
   obtain⟨u',e1,hrow⟩:=Dx_slice.1 hd
   cases e1
   let ow':Own:=fun b=>if b∈bs then some []else none
   have hrow':RowO w (fz G ow' w) true e y u bs:=by simp only[RowO,if_true];exact hrow
   obtain⟨A,cap,eu,_,_⟩:=row_form hrow'
   refine⟨ow',fun b hb=>if_neg hb,fun _=>u,?_,fun k q hq=> ?_⟩
   ·simp only[RA.intro]
    exact RepV_sl.2 ⟨A,_,cap,eu,eu⟩
   ·simp only[RA.intro,lo]at hq
    split at hq
    ·rename_i ek
     subst ek
     cases hq
     exact⟨bs,hrow',hnd,fun b hb=>if_pos hb⟩
    ·cases hq
  ·have hne:∀e,c≠ .slice e:=fun e h=>hsl ⟨e,h⟩
   have hp:=flat_bs hS' hne hd
   subst hp
   refine⟨fun _=>none,fun _ _=>rfl,fun _=>undef,?_,?_⟩
   ·have e1:(RA.o c y).intro []=(.v c y,[]):=by
     cases c<;>first|rfl|exact absurd rfl (hne _)|simp[Ki.isS]at hS'
    rw[e1]
    exact RepV_cells (hd.read fun b hb=>by cases hb) hu
   ·have e1:((RA.o c y).intro []).2=[]:=by
     cases c<;>first|rfl|exact absurd rfl (hne _)|simp[Ki.isS]at hS'
    rw[e1]
    intro l q h
    simp[lo]at h
end
end Go.Q
namespace Go.Q
section
variable {P:Program} {N:Nat} {G:Gd} {σ:Lab->Value} {ow:Own} {w:World} {a:Act} {Γ:Env} {F F':Nat->Prop}
theorem lo_app:∀(A B:List (Lab×Ob)) (l:Lab) (q:Ob),lo (A++B) l=some q->lo A l=some q∨lo B l=some q
 | [],B,l,q,h=>.inr h
 |(k,z)::A,B,l,q,h=>by
  simp only[List.cons_append,lo]at h⊢
  split at h
  ·rename_i e;left;simpa[e]using h
  ·rename_i e;rw[if_neg e];exact lo_app A B l q h
theorem RowO.mono{dp:Bool}{c:Ki}{xs:List c.T}{v:Value}{bs:List Nat}(h:RowO w F dp c xs v bs)(hF:∀b,F b->F' b):RowO w F' dp c xs v bs:=h.keep (fun b hb=>⟨hF b hb,rfl⟩) fun _ _=>rfl
theorem ObR.pre{G G':Gd}{σ σ':Lab->Value}{ow ow':Own}{d:Nat}{l:Lab}{q:Ob}(h:ObR G σ ow w l q)(hσ:∀l,σ' (d::l)=σ l)(how:∀b l,ow b=some l->ow' b=some (d::l))(hF:∀b,fz G ow w b->fz G' ow' w b):ObR G' σ' ow' w (d::l) (q.pre d):=by
 cases q with
 |box ls=>
  obtain⟨b,e,cs,h1,h2,h3,h4⟩:=h
  exact⟨b,e,cs,by rw[hσ];exact h1,h2,how b l h3,h4.pre hσ hF⟩
 |row dp pin c xs=>
  obtain⟨bs,h1,h2,h3⟩:=h
  exact⟨bs,by rw[hσ];exact h1.mono hF,h2,fun b hb=>how b l (h3 b hb)⟩
 |mp kk vk es=>
  obtain⟨g,ms,clk,h1,h2,h3,h4⟩:=h
  exact⟨g,ms,clk,by rw[hσ];exact h1,h2,how g l h3,h4.keep fun b hb=>⟨hF b hb,rfl⟩⟩
def Root(F:Nat->Prop)(w:World)(σ0:Lab->Value)(ow0:Own)(A:List (Lab×Ob)):Prop:=∀l q,lo A l=some q->ObR (gd F) σ0 ow0 w l q
theorem Root.pre{G:Gd}{σ':Lab->Value}{ow':Own}{σ0:Lab->Value}{ow0:Own}{A:List (Lab×Ob)}{d:Nat}(h:Root F w σ0 ow0 A)(hσ:∀l,σ' (d::l)=σ0 l)(how:∀b l,ow0 b=some l->ow' b=some (d::l))(hF:∀b,F b->fz G ow' w b):
  ∀l q,lo (preO d A) l=some q->ObR G σ' ow' w l q:=fun l q hq=>by
 obtain⟨l',q',rfl,rfl,hq'⟩:=lo_preO _ _ _ hq
 exact(h l' q' hq').pre hσ how fun b hb=>hF b hb.2.2
theorem intro_notu{r:RA}(hT:r.isT=false)(l:Lab):∀vs,(r.intro l).1≠ .tu vs:=by
 intro vs hh
 cases r with
 |v c x=>simp[RA.intro]at hh
 |o c x=>cases c<;>simp[RA.intro]at hh
 |s c x=>simp[RA.intro]at hh
 |cl c x=>simp[RA.intro]at hh
 |w c y n=>simp[RA.intro]at hh
 |q c y=>simp[RA.intro]at hh
 |m kk vk es=>simp[RA.intro]at hh
 |b n x=>simp[RA.intro]at hh
 |t rs=>simp[RA.isT]at hT
theorem pc_root1:∀ {r:RA} {u:Value} {p:List Nat},r.isT=false->PcR F w r u p->p.Nodup->(∀b,F b->b∉p∧b<w.heap.size)->
  ∃(σ0:Lab->Value) (ow0:Own),(∀b,b∉p->ow0 b=none)∧RepV σ0 F w (r.intro []).1 u∧Root F w σ0 ow0 (r.intro []).2
 | .v c x,u,p,_,h,hn,hF=>by
  obtain⟨h1,h2,rfl⟩:=h
  exact⟨fun _=>undef,fun _=>none,fun _ _=>rfl,RepV_cells h1 h2,fun l q h=>by simp[RA.intro,lo]at h⟩
 | .o c x,u,p,_,h,hn,hF=>by
  obtain⟨h1,h2⟩:=h
  obtain⟨ow0,k1,σ0,k2,k3⟩:=ResR_o (G:=gd F) h1 hn h2
  refine⟨σ0,ow0,k1,?_,k3⟩
  exact RepV.keep (p:=fun _=>false) (fun _ _=>rfl) (fun b hb=>⟨hb.2.2,rfl⟩) (refs_false _) k2
 | .s c xs,u,p,_,h,hn,hF=>by
  obtain⟨A,cap,eu,_,_⟩:=row_form h
  refine⟨fun _=>u,fun b=>if b∈p then some []else none,fun b hb=>if_neg hb,?_,fun l q hq=> ?_⟩
  ·simp only[RA.intro]
   exact RepV_sl.2 ⟨A,_,cap,eu,eu⟩
  ·simp only[RA.intro,lo]at hq
   split at hq
   ·rename_i ek
    subst ek
    cases hq
    exact⟨p,h.mono fun b hb=>⟨if_neg (hF b hb).1,(hF b hb).2,hb⟩,hn,fun b hb=>if_pos hb⟩
   ·cases hq
 | .cl c xs,u,p,_,h,hn,hF=>by
  obtain⟨h1,⟨A,h2⟩,rfl⟩:=h
  refine⟨fun _=>undef,fun _=>none,fun _ _=>rfl,?_,fun l q h=>by simp[RA.intro,lo]at h⟩
  simp only[RA.intro,RepV,RepU,AV.isS,Bool.false_eq_true,if_false,RepC]
  exact⟨h1,A,by rw[h2]⟩
 | .m kk vk es,u,p,_,h,hn,hF=>by
  obtain⟨g,ms,clk,eu,h2,rfl,h4⟩:=h
  refine⟨fun _=>u,fun b=>if b∈ [g]then some []else none,fun b hb=>if_neg hb,?_,fun l q hq=> ?_⟩
  ·simp only[RA.intro]
   exact RepV_mp.2 ⟨g,eu,eu⟩
  ·simp only[RA.intro,lo]at hq
   split at hq
   ·rename_i ek
    subst ek
    cases hq
    exact⟨g,ms,clk,eu,h2,if_pos (by simp),h4.keep fun b hb=>⟨⟨if_neg (hF b hb).1,(hF b hb).2,hb⟩,rfl⟩⟩
   ·cases hq
 | .b n x,u,p,_,h,hn,hF=>by
  obtain⟨g,e,cs,eu,h2,rfl,h4⟩:=h
  refine⟨fun _=>u,fun b=>if b∈ [g]then some []else none,fun b hb=>if_neg hb,?_,fun l q hq=> ?_⟩
  ·simp only[RA.intro]
   exact RepV_pt.2 ⟨g,eu,eu⟩
  ·simp only[RA.intro,lo]at hq
   split at hq
   ·rename_i ek
    subst ek
    cases hq
    exact⟨g,e,cs,eu,h2,if_pos (by simp),lv_rep 99 _ _ _ (fok99 n) (Kx_struct.1 (h4.keep fun b hb=>⟨⟨if_neg (hF b hb).1,(hF b hb).2,hb⟩,rfl⟩))⟩
   ·cases hq
 | .w _ _ _,_,_,_,h,_,_=>h.elim
 | .q _ _,_,_,_,h,_,_=>h.elim
 | .t _,_,_,h,_,_,_=>by simp[RA.isT]at h
theorem pcs_root(i:Nat):∀ {rs:List RA} {us:List Value} {p:List Nat},PcsR F w rs us p->p.Nodup->(∀b,F b->b∉p∧b<w.heap.size)->
  ∃(σ0:Lab->Value) (ow0:Own),(∀b,b∉p->ow0 b=none)∧(∀b l,ow0 b=some l->∃j l',l=j::l'∧i<=j)∧∀(G:Gd) (σ':Lab->Value) (ow':Own),(∀j l,i<=j->σ' (j::l)=σ0 (j::l))->(∀b l,ow0 b=some l->ow' b=some l)->(∀b,F b->fz G ow' w b)->
   RepUs σ' (fz G ow' w) w (introL [] i rs).1 us∧∀l q,lo (introL [] i rs).2 l=some q->ObR G σ' ow' w l q
 | [],us,p,h,hn,hF=>by
  simp only[PcsR]at h
  obtain⟨rfl,rfl⟩:=h
  exact⟨fun _=>undef,fun _=>none,fun _ _=>rfl,fun _ _ h=>(by cases h),fun _ _ _ _ _ _=>⟨rfl,fun l q h=>by simp[introL,lo]at h⟩⟩
 |r::rs,us,p,h,hn,hF=>by
  simp only[PcsR]at h
  obtain⟨u,us',p1,p2,rfl,rfl,h1,hT,h2⟩:=h
  have hn':=List.nodup_append.1 hn
  obtain⟨σ1,ow1,a1,a2,a3⟩:=pc_root1 hT h1 hn'.1 fun b hb=>⟨fun hh=>(hF b hb).1 (List.mem_append_left _ hh),(hF b hb).2⟩
  obtain⟨σ2,ow2,b1,b2,b3⟩:=pcs_root (i+1) h2 hn'.2.1 fun b hb=>⟨fun hh=>(hF b hb).1 (List.mem_append_right _ hh),(hF b hb).2⟩
  let σ0:Lab->Value:=fun l=>match l with
   |j::l'=>if j=i then σ1 l' else σ2 l
   | []=>undef
  let ow0:Own:=fun b=>if b∈p1 then(ow1 b).map (i:: ·)else ow2 b
  have how1:∀b l,ow1 b=some l->ow0 b=some (i::l):=fun b l h=>by
   have hb:b∈p1:=Classical.byContradiction fun hb=>by rw[a1 b hb]at h;cases h
   simp[ow0,hb,h]
  have how2:∀b l,ow2 b=some l->ow0 b=some l:=fun b l h=>by
   have hb:b∈p2:=Classical.byContradiction fun hb=>by rw[b1 b hb]at h;cases h
   have:b∉p1:=fun hh=>hn'.2.2 b hh b hb rfl
   simp[ow0,this,h]
  obtain⟨e1,e2⟩:=intro_pre i [] r
  refine⟨σ0,ow0,fun b hb=> ?_,fun b l h=> ?_,fun G σ' ow' hσ' how' hF'=> ?_⟩
  ·simp only[List.mem_append,not_or]at hb
   simp[ow0,hb.1,b1 b hb.2]
  ·simp only[ow0]at h
   split at h
   ·simp only[Option.map_eq_some_iff]at h
    obtain⟨l',_,rfl⟩:=h
    exact⟨i,l',rfl,Nat.le_refl _⟩
   ·obtain⟨j,l',rfl,hj⟩:=b2 b l h
    exact⟨j,l',rfl,by omega⟩
  have hσ1:∀l,σ' (i::l)=σ1 l:=fun l=>by rw[hσ' i l (Nat.le_refl _)];simp[σ0]
  obtain⟨c1,c2⟩:=b3 G σ' ow' (fun j l hj=>by
   have hji:j≠i:=by omega
   rw[hσ' j l (by omega)];simp[σ0,hji]) (fun b l h=>how' b l (how2 b l h)) hF'
  refine⟨?_,fun l q hq=> ?_⟩
  ·simp only[introL,List.nil_append]
   refine⟨u,us',rfl,?_,c1⟩
   have hv:=a2.pre (σ':=σ') (F':=fz G ow' w) hσ1 hF'
   rw[<-e1]at hv
   have:=intro_notu hT [i]
   cases hq:(r.intro [i]).1 with
   |tu vs=>exact absurd hq (this vs)
   |_=>rw[hq]at hv;exact hv
  ·simp only[introL,List.nil_append]at hq
   rcases lo_app _ _ _ _ hq with h|h
   ·rw[e2]at h
    exact Root.pre a3 hσ1 (fun b l h=>how' b _ (how1 b l h)) hF' l q h
   ·exact c2 l q h
theorem pc_root{r:RA}{u:Value}{p:List Nat}(h:PcR F w r u p)(hn:p.Nodup)(hF:∀b,F b->b∉p∧b<w.heap.size):
  ∃(σ0:Lab->Value) (ow0:Own),(∀b,b∉p->ow0 b=none)∧RepV σ0 F w (r.intro []).1 u∧Root F w σ0 ow0 (r.intro []).2:=by
 cases r with
 |t rs=>
  simp only[PcR]at h
  obtain⟨us,e,h⟩:=h
  obtain⟨σ0,ow0,k1,k2,k3⟩:=pcs_root 0 h hn hF
  have hF0:∀b,F b->fz (gd F) ow0 w b:=fun b hb=>⟨k1 b (hF b hb).1,(hF b hb).2,hb⟩
  obtain⟨k4,k5⟩:=k3 (gd F) σ0 ow0 (fun _ _ _=>rfl) (fun _ _ h=>h) hF0
  refine⟨σ0,ow0,k1,?_,?_⟩
  ·simp only[RA.intro,RepV]
   exact⟨us,e,RepUs.keep (p:=fun _=>false) (fun _ _=>rfl) (fun b hb=>⟨hb.2.2,rfl⟩) (refsL_false _) k4⟩
  ·simp only[RA.intro]
   exact k5
 |v c x=>exact pc_root1 rfl h hn hF
 |o c x=>exact pc_root1 rfl h hn hF
 |s c x=>exact pc_root1 rfl h hn hF
 |cl c x=>exact pc_root1 rfl h hn hF
 |m kk vk es=>exact pc_root1 rfl h hn hF
 |b n x=>exact pc_root1 rfl h hn hF
 |w c y n=>exact h.elim
 |q c y=>exact h.elim
theorem lvs_rep:∀ {ls:List LV} {us:List Value} {p:List Nat} {j:Nat},LvsR F w ls us p->p.Nodup->(∀b,F b->b∉p∧b<w.heap.size)->
  ∃ow0:Own,(∀b,b∉p->ow0 b=none)∧(∀b l,ow0 b=some l->∃i,l=[i])∧∀(G:Gd) (σ':Lab->Value) (ow':Own),(∀i u,us[i]? =some u->σ' [j+i]=u)->(∀b l,ow0 b=some l->ow' b=some l)->(∀b,F b->fz G ow' w b)->
   RepCs σ' (fz G ow' w) w (introL [] j (ls.map LV.ra)).1 us∧∀l q,lo (introL [] j (ls.map LV.ra)).2 l=some q->ObR G σ' ow' w l q
 | [],us,p,j,h,hn,hF=>by
  obtain⟨rfl,rfl⟩:=h
  exact⟨fun _=>none,fun _ _=>rfl,fun _ _ h=>(by cases h),fun _ _ _ _ _ _=>⟨rfl,fun l q h=>by simp[introL,lo]at h⟩⟩
 |r::rs,us,p,j,h,hn,hF=>by
  obtain⟨u,us',p1,p2,rfl,rfl,h1,h2⟩:=h
  have hn':=List.nodup_append.1 hn
  obtain⟨ow2,b1,b0,b2⟩:=lvs_rep (j:=j+1) h2 hn'.2.1 fun b hb=>⟨fun hh=>(hF b hb).1 (List.mem_append_right _ hh),(hF b hb).2⟩
  let ow0:Own:=fun b=>if b∈p1 then some [j]else ow2 b
  have how2:∀b l,ow2 b=some l->ow0 b=some l:=fun b l h=>by
   have hb:b∈p2:=Classical.byContradiction fun hb=>by rw[b1 b hb]at h;cases h
   have:b∉p1:=fun hh=>hn'.2.2 b hh b hb rfl
   simp[ow0,this,h]
  refine⟨ow0,fun b hb=> ?_,fun b l h=> ?_,fun G σ' ow' hσ' how' hF'=> ?_⟩
  ·simp only[List.mem_append,not_or]at hb
   simp[ow0,hb.1,b1 b hb.2]
  ·simp only[ow0]at h
   split at h
   ·cases h;exact⟨j,rfl⟩
   ·exact b0 b l h
  obtain⟨c1,c2⟩:=b2 G σ' ow' (fun i v hv=>by have:=hσ' (i+1) v (by simpa using hv);rwa[show j+(i+1)=j+1+i by omega]at this) (fun b l h=>how' b l (how2 b l h)) hF'
  have hu:σ' [j]=u:=hσ' 0 u rfl
  have how1:∀b∈p1,ow' b=some [j]:=fun b hb=>how' b _ (by simp[ow0,hb])
  have row:∀ {dp:Bool} {c:Ki} {xs:List c.T},RowO w F dp c xs u p1->RepC σ' (fz G ow' w) w (.sl [j]) [u]∧ObR G σ' ow' w [j] (.row dp false c xs):=fun {dp c xs} h=>by
   obtain⟨A,cap,eu,_,_⟩:=row_form h
   simp only[RepC]
   refine⟨⟨A,_,cap,hu.trans eu,by rw[eu]⟩,p1,?_,hn'.1,how1⟩
   rw[hu]
   exact h.mono hF'
  cases r with
  |v c x=>
   obtain⟨_,hk,rfl⟩:=h1
   simp only[List.map_cons,LV.ra,introL,RA.intro,List.nil_append,RepCs]
   refine⟨⟨u,us',rfl,?_,c1⟩,c2⟩
   simp only[RepC]
   exact hk.keep fun b hb=>⟨hF' b hb,rfl⟩
  |o c xs=>
   obtain⟨k1,k2⟩:=row h1
   simp only[List.map_cons,LV.ra,introL,RA.intro,List.nil_append,RepCs,List.cons_append]
   refine⟨⟨u,us',rfl,k1,c1⟩,fun l q hq=> ?_⟩
   simp only[lo]at hq
   split at hq
   ·rename_i e;subst e;cases hq;exact k2
   ·exact c2 l q hq
  |s c xs=>
   obtain⟨k1,k2⟩:=row h1
   simp only[List.map_cons,LV.ra,introL,RA.intro,List.nil_append,RepCs,List.cons_append]
   refine⟨⟨u,us',rfl,k1,c1⟩,fun l q hq=> ?_⟩
   simp only[lo]at hq
   split at hq
   ·rename_i e;subst e;cases hq;exact k2
   ·exact c2 l q hq
def obsG:List (Option (Lab×Bool))->List LO->List (Lab×Ob)
 |some (l,p)::ks,o::os=>o.obs l p++obsG ks os
 |none::ks,_::os=>obsG ks os
 |_,_=>[]
def lkG:List (Option (Lab×Bool))->List Lab
 |some (l,_)::ks=>l::lkG ks
 |none::ks=>lkG ks
 | []=>[]
def KsV(σ':Lab->Value):List (Option (Lab×Bool))->List Value->Prop
 |some (l,_)::ks,v::vs=>σ' l=v∧KsV σ' ks vs
 |none::ks,_::vs=>KsV σ' ks vs
 | [],[]=>True
 |_,_=>False
def KsB:List (Option (Lab×Bool))->List LO->Prop
 |some (l,_)::ks,o::os=>((∃ls,o= .box ls)->∃n,l=[n])∧KsB ks os
 |none::ks,o::os=>o= .gone∧KsB ks os
 | [],[]=>True
 |_,_=>False
theorem inLs_mem{ls:List Lab}{l:Lab}:inLs ls l=true↔l∈ls:=by simp[inLs]
theorem lo_head{o:LO}{v:Value}{p1:List Nat}(l:Lab)(h:LoR F w o v p1)(hn:p1.Nodup)(hF:∀b,F b->b∉p1∧b<w.heap.size)(hb:(∃ls,o= .box ls)->∃n,l=[n]):
  ∃(σh:Lab->Value) (owh:Own),(∀b,b∉p1->owh b=none)∧(∀b m,owh b=some m->m=l∨∃n j,l=[n]∧m=[n,j])∧∀(G:Gd) (σ':Lab->Value) (ow':Own) (p:Bool),σ' l=v->(∀n j,l=[n]->σ' [n,j]=σh [n,j])->
   (∀b m,owh b=some m->ow' b=some m)->(∀b,F b->fz G ow' w b)->∀m q,lo (o.obs l p) m=some q->ObR G σ' ow' w m q:=by
 have one:∀(q0:Ob),(∀(G:Gd) (σ':Lab->Value) (ow':Own),σ' l=v->(∀b∈p1,ow' b=some l)->(∀b,F b->fz G ow' w b)->ObR G σ' ow' w l q0)->
   ∃(σh:Lab->Value) (owh:Own),(∀b,b∉p1->owh b=none)∧(∀b m,owh b=some m->m=l∨∃n j,l=[n]∧m=[n,j])∧∀(G:Gd) (σ':Lab->Value) (ow':Own),σ' l=v->(∀n j,l=[n]->σ' [n,j]=σh [n,j])->
   (∀b m,owh b=some m->ow' b=some m)->(∀b,F b->fz G ow' w b)->ObR G σ' ow' w l q0:=fun q0 hq=>by
  refine⟨fun _=>undef,fun b=>if b∈p1 then some l else none,fun b hb=>if_neg hb,fun b m h=> ?_,fun G σ' ow' h1 _ h2 h3=>hq G σ' ow' h1 (fun b hb=>h2 b l (if_pos hb)) h3⟩
  dsimp only at h
  split at h
  ·cases h;exact .inl rfl
  ·cases h
 cases o with
 |gone=>
  exact⟨fun _=>undef,fun _=>none,fun _ _=>rfl,fun _ _ h=>(by cases h),fun _ _ _ _ _ _ _ _ m q h=>by simp[LO.obs,lo]at h⟩
 |row dp c xs=>
  obtain⟨σh,owh,k1,k2,k3⟩:=one (.row dp false c xs) fun G σ' ow' h1 h2 h3=>⟨p1,by rw[h1];exact RowO.mono h h3,hn,h2⟩
  refine⟨σh,owh,k1,k2,fun G σ' ow' p h1 h2 h3 h4 m q hq=> ?_⟩
  simp only[LO.obs,lo]at hq
  split at hq
  ·rename_i e;subst e;cases hq;exact k3 G σ' ow' h1 h2 h3 h4
  ·cases hq
 |mp kk vk es=>
  obtain⟨σh,owh,k1,k2,k3⟩:=one (.mp kk vk es) fun G σ' ow' h1 h2 h3=>by
   obtain⟨g,ms,clk,e1,e2,rfl,e4⟩:=h
   exact⟨g,ms,clk,h1.trans e1,e2,h2 g (by simp),e4.keep fun b hb=>⟨h3 b hb,rfl⟩⟩
  refine⟨σh,owh,k1,k2,fun G σ' ow' p h1 h2 h3 h4 m q hq=> ?_⟩
  simp only[LO.obs,lo]at hq
  split at hq
  ·rename_i e;subst e;cases hq;exact k3 G σ' ow' h1 h2 h3 h4
  ·cases hq
 |box ls=>
  obtain⟨n,rfl⟩:=hb ⟨ls,rfl⟩
  obtain⟨b0,e,cs,rest,rfl,hg,rfl,hls⟩:=h
  have hn':=List.nodup_cons.1 hn
  obtain⟨owl,c1,c2,c3⟩:=lvs_rep (j:=0) hls hn'.2 fun b hb=>⟨fun hh=>(hF b hb).1 (List.mem_cons_of_mem _ hh),(hF b hb).2⟩
  refine⟨fun m=>match m with| [_,j]=>cs.toList.getD j undef|_=>undef,fun b=>if b=b0 then some [n]else(owl b).map (n:: ·),fun b hb=> ?_,fun b m h=> ?_,fun G σ' ow' p h1 h2 h3 h4 m q hq=> ?_⟩
  ·simp only[List.mem_cons,not_or]at hb
   simp[hb.1,c1 b hb.2]
  ·dsimp only at h
   split at h
   ·cases h;exact .inl rfl
   ·simp only[Option.map_eq_some_iff]at h
    obtain⟨l',hl',rfl⟩:=h
    obtain⟨i,rfl⟩:=c2 b l' hl'
    exact .inr ⟨n,i,rfl,rfl⟩
  ·have hb0:∀b l',owl b=some l'->b≠b0:=fun b l' h e=>by
    subst e
    rw[c1 b hn'.1]at h;cases h
   obtain⟨d1,d2⟩:=c3 (gd F) (fun l=>σ' (n::l)) owl (fun i u hu=>by
    have:=h2 n i rfl
    simp only[Nat.zero_add,this]
    simp[List.getD_eq_getElem?_getD,show cs[i]? =some u by simpa using hu]) (fun _ _ h=>h) (fun b hb=>⟨c1 b fun hh=>(hF b hb).1 (List.mem_cons_of_mem _ hh),(hF b hb).2,hb⟩)
   have hfz:∀b,fz (gd F) owl w b->fz G ow' w b:=fun b hb=>h4 b hb.2.2
   obtain⟨p1,p2⟩:=introL_pre n [] 0 (ls.map LV.ra)
   simp only[LO.obs,lo]at hq
   split at hq
   ·rename_i em
    subst em
    cases hq
    refine⟨b0,e,cs,h1,hg,h3 b0 [n] (if_pos rfl),?_⟩
    rw[p1]
    exact d1.pre (fun _=>rfl) hfz
   ·rw[p2]at hq
    obtain⟨l',q',rfl,rfl,hq'⟩:=lo_preO _ _ _ hq
    exact(d2 l' q' hq').pre (fun _=>rfl) (fun b l h=>h3 b _ (by simp[hb0 b l h,h])) hfz
theorem obsG_root:∀ {ks:List (Option (Lab×Bool))} {os:List LO} {vs:List Value} {bs:List Nat},LosR F w os vs bs->bs.Nodup->(∀b,F b->b∉bs∧b<w.heap.size)->(lkG ks).Nodup->KsB ks os->
  ∃(σ1:Lab->Value) (ow1:Own),(∀b,b∉bs->ow1 b=none)∧(∀b l,ow1 b=some l->l∈lkG ks∨subL (lkG ks) l=true)∧∀(G:Gd) (σ':Lab->Value) (ow':Own),KsV σ' ks vs->(∀l,subL (lkG ks) l=true->σ' l=σ1 l)->
   (∀b l,ow1 b=some l->ow' b=some l)->(∀b,F b->fz G ow' w b)->∀l q,lo (obsG ks os) l=some q->ObR G σ' ow' w l q
 | [],os,vs,bs,h,hn,hF,hk,hb=>by
  cases os with
  |nil=>exact⟨fun _=>undef,fun _=>none,fun _ _=>rfl,fun _ _ h=>(by cases h),fun _ _ _ _ _ _ _ l q h=>by simp[obsG,lo]at h⟩
  |cons o os=>exact hb.elim
 |k::ks,[],vs,bs,h,hn,hF,hk,hb=>by
  rcases k with _|⟨l,p⟩<;>exact hb.elim
 |none::ks,o::os,vs,bs,h,hn,hF,hk,hb=>by
  obtain⟨rfl,hb⟩:=hb
  obtain⟨u,us',p1,p2,rfl,rfl,h1,h2⟩:=h
  have e1:p1=[]:=h1
  subst e1
  simp only[List.nil_append]at hn hF⊢
  obtain⟨σ1,ow1,k1,k2,k3⟩:=obsG_root (ks:=ks) h2 hn hF hk hb
  exact⟨σ1,ow1,k1,k2,fun G σ' ow' hv=>k3 G σ' ow' hv⟩
 |some (l,p)::ks,o::os,vs,bs,h,hn,hF,hk,hb=>by
  obtain⟨hb1,hb⟩:=hb
  obtain⟨u,us',p1,p2,rfl,rfl,h1,h2⟩:=h
  have hn':=List.nodup_append.1 hn
  simp only[lkG]at hk⊢
  have hk':=List.nodup_cons.1 hk
  obtain⟨σh,owh,a1,a2,a3⟩:=lo_head l h1 hn'.1 (fun b hb=>⟨fun hh=>(hF b hb).1 (List.mem_append_left _ hh),(hF b hb).2⟩) hb1
  obtain⟨σ1,ow1,k1,k2,k3⟩:=obsG_root h2 hn'.2.1 (fun b hb=>⟨fun hh=>(hF b hb).1 (List.mem_append_right _ hh),(hF b hb).2⟩) hk'.2 hb
  refine⟨fun m=>match m with|n::_::_=>if [n]=l then σh m else σ1 m|_=>undef,fun b=>if b∈p1 then owh b else ow1 b,fun b hb=> ?_,fun b m h=> ?_,fun G σ' ow' hv hs ho hf m q hq=> ?_⟩
  ·simp only[List.mem_append,not_or]at hb
   simp[hb.1,k1 b hb.2]
  ·dsimp only at h
   split at h
   ·rcases a2 b m h with rfl|⟨n,j,rfl,rfl⟩
    ·exact .inl (by simp)
    ·exact .inr (by simp[subL,inLs])
   ·rcases k2 b m h with h|h
    ·exact .inl (List.mem_cons_of_mem _ h)
    ·right
     cases m with
     |nil=>simp[subL]at h
     |cons n m=>cases m with
      |nil=>simp[subL]at h
      |cons j m=>simp only[subL,inLs_mem]at h⊢;exact List.mem_cons_of_mem _ h
  ·simp only[KsV]at hv
   have ho1:∀b m,owh b=some m->ow' b=some m:=fun b m h=>ho b m (by
    have hb:b∈p1:=Classical.byContradiction fun hb=>by rw[a1 b hb]at h;cases h
    simp[hb,h])
   have ho2:∀b m,ow1 b=some m->ow' b=some m:=fun b m h=>ho b m (by
    have hb:b∈p2:=Classical.byContradiction fun hb=>by rw[k1 b hb]at h;cases h
    have:b∉p1:=fun hh=>hn'.2.2 b hh b hb rfl
    simp[this,h])
   simp only[obsG]at hq
   rcases lo_app _ _ _ _ hq with h|h
   ·refine a3 G σ' ow' p hv.1 (fun n j e=> ?_) ho1 hf m q h
    subst e
    rw[hs [n,j] (by simp[subL,inLs])]
    simp
   ·refine k3 G σ' ow' hv.2 (fun m hm=> ?_) ho2 hf m q h
    cases m with
    |nil=>simp[subL]at hm
    |cons n m=>cases m with
     |nil=>simp[subL]at hm
     |cons j m=>
      simp only[subL,inLs_mem]at hm
      rw[hs _ (by simp only[subL,inLs_mem];exact List.mem_cons_of_mem _ hm)]
      have:[n]≠l:=fun e=>hk'.1 (e▸hm)
      simp[this]
end
end Go.Q
namespace Go.Q
section
variable {P:Program} {N:Nat} {G:Gd} {σ:Lab->Value} {ow:Own} {w:World} {a:Act} {Γ:Env} {F F':Nat->Prop}
def LEv(σ:Lab->Value):List LE->List Value->Prop
 | .lab l::es,v::vs=>v=σ l∧LEv σ es vs
 | .new _ _::es,v::vs=>(∃A,v= .slice A 0 0)∧LEv σ es vs
 | [],[]=>True
 |_,_=>False
theorem addL_spec(l:Lab):∀(i:Nat) {es:List LE} {vs:List Value},LEv σ es vs->∃t k,(addL l i es).1=i+k∧LEv σ (addL l i es).2 (vs++t)∧(vs++t)[k]? =some (σ l)
 |i,[],vs,h=>by
  cases vs with
  |cons v vs=>exact h.elim
  |nil=>exact⟨[σ l],0,rfl,⟨rfl,trivial⟩,rfl⟩
 |i,e::es,[],h=>by cases e<;>exact h.elim
 |i,e::es,v::vs,h=>by
  have hh:LEv σ es vs:=by cases e<;>exact h.2
  simp only[addL]
  split
  ·rename_i he
   cases e with
   |new dp c=>simp[LE.is]at he
   |lab m=>
    simp only[LE.is,beq_iff_eq]at he
    subst he
    exact⟨[],0,rfl,by simpa using h,by simp[h.1]⟩
  ·obtain⟨t,k,h1,h2,h3⟩:=addL_spec l (i+1) hh
   refine⟨t,k+1,by rw[h1];omega,?_,by simpa using h3⟩
   cases e with
   |lab m=>exact⟨h.1,h2⟩
   |new dp c=>exact⟨h.1,h2⟩
theorem get_app{α:Type}{vs t:List α}{i:Nat}{v:α}(h:vs[i]? =some v):(vs++t)[i]? =some v:=by
 rw[List.getElem?_append_left (List.getElem?_eq_some_iff.1 h).1];exact h
mutual
theorem ArgQ.mono{vs:List Value}(t:List Value):∀ {s:SA} {u:Value},ArgQ F w vs s u->ArgQ F w (vs++t) s u
 | .v c x,u,h=>by simp only[ArgQ]at h⊢;exact h
 | .fn f cs,u,h=>by simp only[ArgQ]at h⊢;exact h
 | .pt i off,u,h=>by
  simp only[ArgQ]at h⊢
  obtain⟨b,h1,h2⟩:=h
  exact⟨b,get_app h1,h2⟩
 | .sl i,u,h=>by simp only[ArgQ]at h⊢;exact⟨get_app h.1,h.2⟩
 | .mp i,u,h=>by simp only[ArgQ]at h⊢;exact⟨get_app h.1,h.2⟩
 | .ag n ls,u,h=>by
  simp only[ArgQ]at h⊢
  obtain⟨h0,hn,cs,h1,h2⟩:=h
  exact⟨h0,hn,cs,h1,ArgQs.mono t h2⟩
 | .fb f cs,u,h=>by
  simp only[ArgQ]at h⊢
  obtain⟨hn,us,h1,h2⟩:=h
  exact⟨hn,us,h1,ArgQs.mono t h2⟩
 | .io _ _,_,h=>by simp[ArgQ]at h
 | .lo _,_,h=>by simp[ArgQ]at h
theorem ArgQs.mono{vs:List Value}(t:List Value):∀ {ss:List SA} {us:List Value},ArgQs F w vs ss us->ArgQs F w (vs++t) ss us
 | [],us,h=>by simp only[ArgQs]at h⊢;exact h
 |s::ss,us,h=>by
  simp only[ArgQs]at h⊢
  obtain⟨u,r,e,h1,h2⟩:=h
  exact⟨u,r,e,ArgQ.mono t h1,ArgQs.mono t h2⟩
end
mutual
theorem lnd_spec:∀ {x:AV} {es es':List LE} {s:SA} {vs:List Value} {u:Value},lnd es x=some (s,es')->LEv σ es vs->RepV σ F w x u->∃t,LEv σ es' (vs++t)∧ArgQ F w (vs++t) s u
 | .v c x,es,es',s,vs,u,h,hl,hx=>by
  simp only[lnd,Option.some.injEq,Prod.mk.injEq]at h
  obtain⟨rfl,rfl⟩:=h
  refine⟨[],by simpa using hl,?_⟩
  simp only[ArgQ]
  exact RepV.keep (p:=fun _=>true) (fun _ h=>by cases h) (fun b hb=>⟨hb,rfl⟩) rfl hx
 | .nl c,es,es',s,vs,u,h,hl,hx=>by
  simp only[lnd,Option.some.injEq,Prod.mk.injEq]at h
  obtain⟨rfl,rfl⟩:=h
  refine⟨[],by simpa using hl,?_⟩
  simp only[ArgQ]
  obtain⟨A,rfl⟩:=RepV_nl.1 hx
  exact RepV_slice.2 ⟨A,0,rfl,Nat.le_refl _,Nat.zero_le _,fun i hi=>absurd hi (by simp)⟩
 | .cl c xs,es,es',s,vs,u,h,hl,hx=>by
  simp only[lnd,Option.some.injEq,Prod.mk.injEq]at h
  obtain⟨rfl,rfl⟩:=h
  refine⟨[],by simpa using hl,?_⟩
  simp only[ArgQ]
  have hx':Kx F w (.slice c) xs [u]:=by
   simp only[RepV,RepU,AV.isS,Bool.false_eq_true,if_false,RepC]at hx
   exact hx.1
  exact RepV_leaf (σ:=fun _=>undef) (x:=.v (.slice c) xs) (by simp only[RepC];exact hx') rfl
 | .pt l off,es,es',s,vs,u,h,hl,hx=>by
  simp only[lnd,Option.some.injEq,Prod.mk.injEq]at h
  obtain⟨rfl,rfl⟩:=h
  obtain⟨t,k,h1,h2,h3⟩:=addL_spec l 0 hl
  refine⟨t,h2,?_⟩
  obtain⟨b,hb,hu⟩:=RepV_pt.1 hx
  simp only[ArgQ,h1,Nat.zero_add]
  exact⟨b,by rw[h3,hb],hu⟩
 | .sl l,es,es',s,vs,u,h,hl,hx=>by
  simp only[lnd,Option.some.injEq,Prod.mk.injEq]at h
  obtain⟨rfl,rfl⟩:=h
  obtain⟨t,k,h1,h2,h3⟩:=addL_spec l 0 hl
  refine⟨t,h2,?_⟩
  obtain⟨A,n,c,hb,hu⟩:=RepV_sl.1 hx
  simp only[ArgQ,h1,Nat.zero_add]
  exact⟨by rw[h3,hb,hu],A,n,c,hu⟩
 | .mp l,es,es',s,vs,u,h,hl,hx=>by
  simp only[lnd,Option.some.injEq,Prod.mk.injEq]at h
  obtain⟨rfl,rfl⟩:=h
  obtain⟨t,k,h1,h2,h3⟩:=addL_spec l 0 hl
  refine⟨t,h2,?_⟩
  obtain⟨g,hb,hu⟩:=RepV_mp.1 hx
  simp only[ArgQ,h1,Nat.zero_add]
  exact⟨by rw[h3,hb,hu],g,hu⟩
 | .ag n as,es,es',s,vs,u,h,hl,hx=>by
  simp only[lnd,Option.map_eq_some_iff,Prod.mk.injEq]at h
  obtain⟨⟨ss,e1⟩,h1,rfl,rfl⟩:=h
  simp only[RepV,RepU,AV.isS,if_true,RepC]at hx
  obtain⟨cs,rfl,hn,hc⟩:=hx
  obtain⟨t,h2,h3,h4,h5⟩:=lndL_spec h1 hl hc
  refine⟨t,h2,?_⟩
  simp only[ArgQ]
  exact⟨h4.trans hn,h5,cs,rfl,h3⟩
 | .fn f as,es,es',s,vs,u,h,hl,hx=>by
  simp only[lnd,Option.map_eq_some_iff,Prod.mk.injEq]at h
  obtain⟨⟨ss,e1⟩,h1,rfl,rfl⟩:=h
  simp only[RepV,RepU,AV.isS,Bool.false_eq_true,if_false,RepC,List.cons.injEq,and_true]at hx
  obtain⟨cs,rfl,hc⟩:=hx
  obtain⟨t,h2,h3,_,h5⟩:=lndL_spec h1 hl hc
  refine⟨t,h2,?_⟩
  simp only[ArgQ]
  exact⟨h5,cs,rfl,h3⟩
 | .ep _ _ _ _,_,_,_,_,_,h,_,_=>by simp[lnd]at h
 | .tu _,_,_,_,_,_,h,_,_=>by simp[lnd]at h
 | .no,_,_,_,_,_,h,_,_=>by simp[lnd]at h
 | .ud,_,_,_,_,_,h,_,_=>by simp[lnd]at h
theorem lndL_spec:∀ {xs:List AV} {es es':List LE} {ss:List SA} {vs:List Value} {us:List Value},lndL es xs=some (ss,es')->LEv σ es vs->RepCs σ F w xs us->∃t,LEv σ es' (vs++t)∧ArgQs F w (vs++t) ss us∧ss.length=xs.length∧nsL ss=true
 | [],es,es',ss,vs,us,h,hl,hx=>by
  simp only[lndL,Option.some.injEq,Prod.mk.injEq]at h
  obtain⟨rfl,rfl⟩:=h
  simp only[RepCs]at hx
  subst hx
  exact⟨[],by simpa using hl,by simp[ArgQs],rfl,rfl⟩
 |x::xs,es,es',ss,vs,us,h,hl,hx=>by
  simp only[lndL]at h
  split at h
  ·cases h
  rename_i hS
  simp only[Option.bind_eq_some_iff,Option.map_eq_some_iff,Prod.mk.injEq]at h
  obtain⟨⟨s1,e1⟩,h1,⟨s2,e2⟩,h2,rfl,rfl⟩:=h
  simp only[RepCs]at hx
  obtain⟨u,us',rfl,k1,k2⟩:=hx
  have hnt:RepV σ F w x u:=by
   cases x with
   |tu vs=>simp[RepC]at k1
   |_=>exact RepV_leaf k1 (by simpa using hS)
  obtain⟨t1,a1,a2⟩:=lnd_spec h1 hl hnt
  obtain⟨t2,b1,b2,b3,b4⟩:=lndL_spec h2 a1 k2
  have hns:s1.isS=false:=by
   cases x<;>simp only[lnd,Option.some.injEq,Prod.mk.injEq,Option.map_eq_some_iff,reduceCtorEq]at h1
   ·rename_i c y;obtain⟨rfl,_⟩:=h1;cases c<;>simp_all[AV.isS,SA.isS]
   ·obtain⟨rfl,_⟩:=h1;rfl
   ·obtain⟨rfl,_⟩:=h1;rfl
   ·simp[AV.isS]at hS
   ·obtain⟨_,_,rfl,_⟩:=h1;rfl
   ·obtain⟨rfl,_⟩:=h1;rfl
   ·obtain⟨rfl,_⟩:=h1;rfl
   ·obtain⟨rfl,_⟩:=h1;rfl
  refine⟨t1++t2,by simpa using b1,?_,by simp[b3],by simp[nsL,hns,b4]⟩
  simp only[ArgQs]
  exact⟨u,us',rfl,by rw[<-List.append_assoc];exact a2.mono t2,by rw[<-List.append_assoc];exact b2⟩
end
theorem lnq_spec(hr:Rep N G σ ow w a Γ){es es':List LE}{x:AV}{m:Mq}{s:SA}{vs:List Value}{u:Value}(h:lnq Γ.ob es x m=some (s,es'))(hl:LEv σ es vs)(hx:RepV σ (fz G ow w) w x u):
  ∃t,LEv σ es' (vs++t)∧ArgQ (fz G ow w) w (vs++t) s u:=by
 cases m with
 |v c=>
  simp only[lnq]at h
  split at h
  ·cases h
  rename_i hrf
  simp only[Option.map_eq_some_iff,Prod.mk.injEq]at h
  obtain⟨y,hp,rfl,rfl⟩:=h
  refine⟨[],by simpa using hl,?_⟩
  simp only[ArgQ]
  exact pk_rep hr.ob (fun _ h=>h) hp hx (fun h=>absurd h hrf)
 |fn=>
  simp only[lnq,Option.map_eq_some_iff,Prod.mk.injEq]at h
  obtain⟨f,hf,rfl,rfl⟩:=h
  refine⟨[],by simpa using hl,?_⟩
  rw[fnS_eq hf]at hx
  simp only[ArgQ]
  exact RepV.keep (p:=fun _=>true) (fun _ h=>by cases h) (fun b hb=>⟨hb,rfl⟩) (capV_refs f.2) hx
 |q=>exact lnd_spec h hl hx
 |rw dp c=>
  simp only[lnq]at h
  split at h
  ·rename_i c'
   simp only[Option.some.injEq,Prod.mk.injEq]at h
   obtain⟨rfl,rfl⟩:=h
   obtain⟨A,rfl⟩:=RepV_nl.1 hx
   refine⟨[.slice A 0 0],?_,?_⟩
   ·clear hx
    induction es generalizing vs with
    |nil=>cases vs with
     |nil=>exact⟨⟨A,rfl⟩,trivial⟩
     |cons v vs=>exact hl.elim
    |cons e es ih=>cases vs with
     |nil=>cases e<;>exact hl.elim
     |cons v vs=>cases e with
      |lab l=>exact⟨hl.1,ih hl.2⟩
      |new d c=>exact⟨hl.1,ih hl.2⟩
   ·have hlen:es.length=vs.length:=by
     clear hx
     induction es generalizing vs with
     |nil=>cases vs with
      |nil=>rfl
      |cons v vs=>exact hl.elim
     |cons e es ih=>cases vs with
      |nil=>cases e<;>exact hl.elim
      |cons v vs=>cases e<;>simp[ih hl.2]
    simp only[ArgQ]
    exact⟨by rw[hlen];simp,A,0,0,rfl⟩
  ·rename_i l
   exact lnd_spec (x:=.sl l) (by simpa only[lnd]using h) hl hx
  ·cases h
theorem lnqs_spec(hr:Rep N G σ ow w a Γ):∀ {xs:List (O×Mq)} {ops:List Operand} {es es':List LE} {ss:List SA} {vs:List Value},lnqs Γ es xs=some (ss,es')->argsQ xs ops=true->LEv σ es vs->
  ∃t,LEv σ es' (vs++t)∧ArgQs (fz G ow w) w (vs++t) ss (ops.map a.eval)
 | [],ops,es,es',ss,vs,h,hm,hl=>by
  simp only[lnqs,Option.some.injEq,Prod.mk.injEq]at h
  obtain⟨rfl,rfl⟩:=h
  cases ops with
  |nil=>exact⟨[],by simpa using hl,by simp[ArgQs]⟩
  |cons x xs=>simp[argsQ]at hm
 |(x,m)::xs,ops,es,es',ss,vs,h,hm,hl=>by
  simp only[lnqs,Option.bind_eq_some_iff,Option.map_eq_some_iff,Prod.mk.injEq]at h
  obtain⟨y,hy,⟨s1,e1⟩,h1,⟨s2,e2⟩,h2,rfl,rfl⟩:=h
  cases ops with
  |nil=>simp[argsQ]at hm
  |cons z zs=>
   simp only[argsQ,Bool.and_eq_true]at hm
   obtain⟨t1,a1,a2⟩:=lnq_spec hr h1 hl (ev_rep hr hm.1 hy)
   obtain⟨t2,b1,b2⟩:=lnqs_spec hr h2 hm.2 a1
   refine⟨t1++t2,by simpa using b1,?_⟩
   simp only[List.map_cons,ArgQs]
   exact⟨_,_,rfl,by rw[<-List.append_assoc];exact a2.mono t2,by rw[<-List.append_assoc];exact b2⟩
theorem lfs_spec(hob:∀l q,lo Γ.ob l=some q->ObR G σ ow w l q):∀ {xs:List AV} {us:List Value} {ls:List LV} {cs:List Lab},lfs Γ.ob xs=some (ls,cs)->RepCs σ (fz G ow w) w xs us->cs.Nodup->
  ∃rest,LvsR (fz G ow w) w ls us rest∧rest.Nodup∧OB ow cs rest
 | [],us,ls,cs,h,hx,hn=>by
  simp only[lfs,Option.some.injEq,Prod.mk.injEq]at h
  obtain⟨rfl,rfl⟩:=h
  simp only[RepCs]at hx
  exact⟨[],⟨hx,rfl⟩,List.nodup_nil,fun b hb=>by cases hb⟩
 |x::xs,us,ls,cs,h,hx,hn=>by
  simp only[RepCs]at hx
  obtain⟨u,us',rfl,h1,h2⟩:=hx
  have frozen:∀ {c:Ki} {y:c.T} {q:List LV×List Lab},lfs Γ.ob xs=some q->(.v c y::q.1,q.2)=(ls,cs)->c.isS=false->Kx (fz G ow w) w c y [u]->∃rest,LvsR (fz G ow w) w ls (u::us') rest∧rest.Nodup∧OB ow cs rest:=by
   intro c y q hq e hc hk
   simp only[Prod.mk.injEq]at e
   obtain⟨rfl,rfl⟩:=e
   obtain⟨rest,k1,k2,k3⟩:=lfs_spec hob (ls:=q.1) (cs:=q.2) hq h2 hn
   exact⟨rest,⟨u,us',[],rest,rfl,rfl,⟨hc,hk,rfl⟩,k1⟩,k2,k3⟩
  have own:∀ {l:Lab} {dp:Bool} {c:Ki} {xs0:List c.T} {q:List LV×List Lab} {lvh:LV},lo Γ.ob l=some (.row dp false c xs0)->x= .sl l->lfs Γ.ob xs=some q->(lvh::q.1,l::q.2)=(ls,cs)->(∀v bs,RowO w (fz G ow w) dp c xs0 v bs->LvR (fz G ow w) w lvh v bs)->
    ∃rest,LvsR (fz G ow w) w ls (u::us') rest∧rest.Nodup∧OB ow cs rest:=by
   intro l dp c xs0 q lvh hl hx hq e hlv
   subst hx
   simp only[Prod.mk.injEq]at e
   obtain⟨rfl,rfl⟩:=e
   obtain⟨rest,k1,k2,k3⟩:=lfs_spec hob (ls:=q.1) (cs:=q.2) hq h2 (List.nodup_cons.1 hn).2
   obtain⟨bs,r1,r2,r3⟩:=hob _ _ hl
   simp only[RepC]at h1
   obtain⟨A,n,cp,e1,e2⟩:=h1
   simp only[List.cons.injEq,and_true]at e2
   rw[e1,<-e2]at r1
   have o1:OB ow [l] bs:=fun b hb=>⟨l,by simp,r3 b hb⟩
   exact⟨bs++rest,⟨u,us',bs,rest,rfl,rfl,hlv _ _ r1,k1⟩,o1.nodup k3 hn r2 k2,o1.append k3⟩
  cases x with
  |v c y=>
   have h':c.isS=false∧(lfs Γ.ob xs).map (fun q=>(LV.v c y::q.1,q.2))=some (ls,cs):=by
    cases c<;>first|exact⟨rfl,h⟩|(simp[lfs]at h)
   obtain⟨hc,h'⟩:=h'
   simp only[Option.map_eq_some_iff]at h'
   obtain⟨q,hq,e⟩:=h'
   exact frozen hq e hc (by simpa only[RepC]using h1)
  |nl c=>
   simp only[lfs,Option.map_eq_some_iff]at h
   obtain⟨q,hq,e⟩:=h
   refine frozen hq e rfl ?_
   simp only[RepC,List.cons.injEq,and_true]at h1
   obtain⟨A,rfl⟩:=h1
   exact Kx_slice.2 ⟨A,0,rfl,Nat.le_refl _,Nat.zero_le _,fun i hi=>absurd hi (by simp)⟩
  |cl c ys=>
   simp only[lfs,Option.map_eq_some_iff]at h
   obtain⟨q,hq,e⟩:=h
   refine frozen hq e rfl ?_
   simp only[RepC]at h1
   exact h1.1
  |sl l=>
   simp only[lfs]at h
   split at h
   ·rename_i c ys hl
    simp only[Option.map_eq_some_iff]at h
    obtain⟨q,hq,e⟩:=h
    exact own hl rfl hq e fun v bs h=>h
   ·rename_i c ys hl
    simp only[Option.map_eq_some_iff]at h
    obtain⟨q,hq,e⟩:=h
    exact own hl rfl hq e fun v bs h=>h
   ·cases h
  |_=>simp[lfs]at h
theorem loes_spec(hob:∀l q,lo Γ.ob l=some q->ObR G σ ow w l q):∀ {es:List LE} {vs:List Value} {os:List LO} {cs:List Lab},loes Γ.ob es=some (os,cs)->LEv σ es vs->(labs es++cs).Nodup->
  ∃bs,LosR (fz G ow w) w os vs bs∧bs.Nodup∧OB ow (labs es++cs) bs
 | [],vs,os,cs,h,hl,hn=>by
  simp only[loes,Option.some.injEq,Prod.mk.injEq]at h
  obtain⟨rfl,rfl⟩:=h
  cases vs with
  |nil=>exact⟨[],⟨rfl,rfl⟩,List.nodup_nil,fun b hb=>by cases hb⟩
  |cons v vs=>exact hl.elim
 |e::es,vs,os,cs,h,hl,hn=>by
  simp only[loes,Option.bind_eq_some_iff,Option.map_eq_some_iff,Prod.mk.injEq]at h
  obtain⟨⟨o1,c1⟩,h1,⟨o2,c2⟩,h2,rfl,rfl⟩:=h
  cases vs with
  |nil=>cases e<;>exact hl.elim
  |cons v vs=>
   cases e with
   |new dp c=>
    obtain⟨⟨A,rfl⟩,hl⟩:=hl
    simp only[loe,Option.some.injEq,Prod.mk.injEq]at h1
    obtain⟨rfl,rfl⟩:=h1
    simp only[labs,List.nil_append]at hn⊢
    obtain⟨bs,k1,k2,k3⟩:=loes_spec hob h2 hl hn
    refine⟨bs,⟨_,_,[],bs,rfl,rfl,?_,k1⟩,k2,k3⟩
    show RowO w (fz G ow w) dp c [] (.slice A 0 0) []
    unfold RowO
    split<;>exact .inl ⟨⟨A,rfl⟩,rfl,rfl⟩
   |lab l=>
    obtain⟨rfl,hl⟩:=hl
    simp only[labs,List.cons_append]at hn⊢
    have hperm:((l::c1)++(labs es++c2)).Perm (l::(labs es++(c1++c2))):=by
     simp only[List.cons_append]
     refine List.Perm.cons l ?_
     rw[<-List.append_assoc,<-List.append_assoc]
     exact List.perm_append_comm.append_right _
    have hn2:=hperm.nodup_iff.2 hn
    have hn3:=List.nodup_append.1 hn2
    obtain⟨bs,k1,k2,k3⟩:=loes_spec hob h2 hl hn3.2.1
    simp only[loe,Option.bind_eq_some_iff]at h1
    obtain⟨q,hq,h1⟩:=h1
    have hobj:=hob _ _ hq
    have fin:∀p1,LoR (fz G ow w) w o1 (σ l) p1->p1.Nodup->OB ow (l::c1) p1->∃bs,LosR (fz G ow w) w (o1::o2) (σ l::vs) bs∧bs.Nodup∧OB ow (l::(labs es++(c1++c2))) bs:=by
     intro p1 g1 g2 g3
     refine⟨p1++bs,⟨_,_,p1,bs,rfl,rfl,g1,k1⟩,g3.nodup k3 hn2 g2 k2,fun b hb=> ?_⟩
     obtain⟨m,hm,ho⟩:=g3.append k3 b hb
     exact⟨m,hperm.mem_iff.1 hm,ho⟩
    cases q with
    |box as=>
     simp only[lob,Option.map_eq_some_iff,Prod.mk.injEq]at h1
     obtain⟨⟨ls,cc⟩,hlf,rfl,rfl⟩:=h1
     obtain⟨b,e,cells,e1,e2,e3,e4⟩:=hobj
     have hnc:=List.nodup_cons.1 hn3.1
     obtain⟨rest,r1,r2,r3⟩:=lfs_spec hob hlf e4 hnc.2
     refine fin (b::rest) ⟨b,e,cells,rest,e1,e2,rfl,r1⟩ (List.nodup_cons.2 ⟨fun hb=> ?_,r2⟩) (fun b' hb'=> ?_)
     ·obtain⟨m,hm,ho⟩:=r3 b hb
      rw[e3]at ho
      cases ho
      exact hnc.1 hm
     ·rcases List.mem_cons.1 hb' with rfl|hb'
      ·exact⟨l,by simp,e3⟩
      ·obtain⟨m,hm,ho⟩:=r3 b' hb'
       exact⟨m,List.mem_cons_of_mem _ hm,ho⟩
    |row dp pn c xs=>
     simp only[lob,Option.some.injEq,Prod.mk.injEq]at h1
     obtain⟨rfl,rfl⟩:=h1
     obtain⟨p1,r1,r2,r3⟩:=hobj
     exact fin p1 r1 r2 fun b hb=>⟨l,by simp,r3 b hb⟩
    |mp kk vk es0=>
     simp only[lob,Option.some.injEq,Prod.mk.injEq]at h1
     obtain⟨rfl,rfl⟩:=h1
     obtain⟨g,ms,clk,r1,r2,r3,r4⟩:=hobj
     exact fin [g] ⟨g,ms,clk,r1,r2,rfl,r4⟩ (by simp) fun b hb=>by rw[List.mem_singleton]at hb;subst hb;exact⟨l,by simp,r3⟩
end
end Go.Q
namespace Go.Q
def kOf(ob:List (Lab×Ob)):LE->Option (Lab×Bool)
 | .lab l=>some (l,pinOf (lo ob l))
 | .new _ _=>none
theorem lkG_kOf(ob:List (Lab×Ob)):∀es:List LE,lkG (es.map (kOf ob))=labs es
 | []=>rfl
 | .lab l::es=>by simp[kOf,lkG,labs,lkG_kOf ob es]
 | .new _ _::es=>by simp[kOf,lkG,labs,lkG_kOf ob es]
theorem obsG_kOf(ob:List (Lab×Ob)):∀(es:List LE) (os:List LO),obsG (es.map (kOf ob)) os=backO ob es os
 | [],_=>by simp[obsG,backO]
 | .lab l::es,[]=>by simp[kOf,obsG,backO]
 | .new _ _::es,[]=>by simp[kOf,obsG,backO]
 | .lab l::es,o::os=>by simp[kOf,obsG,backO,obsG_kOf ob es os]
 | .new _ _::es,o::os=>by simp[kOf,obsG,backO,obsG_kOf ob es os]
theorem KsB_of(ob:List (Lab×Ob)):∀ {es:List LE} {los os:List LO} {cs:List Lab},loes ob es=some (los,cs)->likes los os=true->newGone es os=true->oneL es los=true->KsB (es.map (kOf ob)) os
 | [],los,os,cs,h,h1,h2,h3=>by
  simp only[loes,Option.some.injEq,Prod.mk.injEq]at h
  obtain⟨rfl,rfl⟩:=h
  cases os with
  |nil=>trivial
  |cons o os=>simp[likes]at h1
 |e::es,los,os,cs,h,h1,h2,h3=>by
  simp only[loes,Option.bind_eq_some_iff,Option.map_eq_some_iff,Prod.mk.injEq]at h
  obtain⟨⟨o1,c1⟩,g1,⟨o2,c2⟩,g2,rfl,rfl⟩:=h
  cases os with
  |nil=>simp[likes]at h1
  |cons o os=>
   simp only[likes,Bool.and_eq_true]at h1
   cases e with
   |new dp c=>
    simp only[newGone,Bool.and_eq_true]at h2
    simp only[oneL]at h3
    refine⟨?_,KsB_of ob g2 h1.2 h2.2 h3⟩
    cases o<;>simp_all[LO.isGone]
   |lab l=>
    simp only[newGone]at h2
    refine⟨fun hb=> ?_,?_⟩
    ·obtain⟨ls,rfl⟩:=hb
     have hbox:∃ls',o1= .box ls':=by
      cases o1<;>simp_all[LO.like]
     obtain⟨ls',rfl⟩:=hbox
     simp only[oneL,Bool.and_eq_true]at h3
     have:=h3.1
     split at this
     ·rename_i n;exact⟨n,rfl⟩
     ·cases this
    ·refine KsB_of ob g2 h1.2 h2 ?_
     cases o1<;>simp_all[oneL]
theorem KsV_of{ob:List (Lab×Ob)}{σ σ':Lab->Value}:∀ {es:List LE} {vs:List Value},LEv σ es vs->(∀l∈labs es,σ' l=σ l)->KsV σ' (es.map (kOf ob)) vs
 | [],vs,h,hs=>by
  cases vs with
  |nil=>trivial
  |cons v vs=>exact h.elim
 | .lab l::es,vs,h,hs=>by
  cases vs with
  |nil=>exact h.elim
  |cons v vs=>exact⟨(hs l (by simp[labs])).trans h.1.symm,KsV_of h.2 fun m hm=>hs m (by simp[labs,hm])⟩
 | .new _ _::es,vs,h,hs=>by
  cases vs with
  |nil=>exact h.elim
  |cons v vs=>exact KsV_of (es:=es) h.2 fun m hm=>hs m (by simpa[labs]using hm)
theorem obs_pnd{pb:Lab->Bool}{l m:Lab}{o:LO}{p:Bool}{q:Ob}(h:lo (o.obs l p) m=some q)(hp:q.pnd pb m=true):m=l∧((∃ls,o= .box ls)∧pb l=true∨(∃dp c xs,o= .row dp c xs)∧p=true∨(∃kk vk es,o= .mp kk vk es)∧pb l=true):=by
 cases o with
 |gone=>simp[LO.obs,lo]at h
 |row dp c xs=>
  simp only[LO.obs,lo]at h
  split at h
  ·rename_i e;cases h;exact⟨e.symm,.inr (.inl ⟨⟨dp,c,xs,rfl⟩,hp⟩)⟩
  ·cases h
 |mp kk vk es=>
  simp only[LO.obs,lo]at h
  split at h
  ·rename_i e;subst e;cases h;exact⟨rfl,.inr (.inr ⟨⟨kk,vk,es,rfl⟩,hp⟩)⟩
  ·cases h
 |box ls=>
  simp only[LO.obs,lo]at h
  split at h
  ·rename_i e;subst e;cases h;exact⟨rfl,.inl ⟨⟨ls,rfl⟩,hp⟩⟩
  ·have:=introLV_pn l 0 ls _ (lo_mem h) pb m
   simp only at this
   rw[this]at hp;cases hp
theorem back_pin{ob:List (Lab×Ob)}{pb:Lab->Bool}{l:Lab}{q:Ob}:∀ {es:List LE} {los os:List LO} {cs:List Lab},loes ob es=some (los,cs)->likes los os=true->lo (backO ob es os) l=some q->q.pnd pb l=true->l∈labs es∧∃q0,lo ob l=some q0∧q0.pnd pb l=true
 | [],los,os,cs,h,h1,h2,h3=>by simp[backO,lo]at h2
 |e::es,los,os,cs,h,h1,h2,h3=>by
  simp only[loes,Option.bind_eq_some_iff,Option.map_eq_some_iff,Prod.mk.injEq]at h
  obtain⟨⟨o1,c1⟩,g1,⟨o2,c2⟩,g2,rfl,rfl⟩:=h
  cases os with
  |nil=>simp[likes]at h1
  |cons o os=>
   simp only[likes,Bool.and_eq_true]at h1
   cases e with
   |new dp c=>
    obtain⟨k1,k2⟩:=back_pin g2 h1.2 (by simpa only[backO]using h2) h3
    exact⟨by simpa[labs]using k1,k2⟩
   |lab m=>
    simp only[backO]at h2
    rcases lo_app _ _ _ _ h2 with h2|h2
    ·obtain⟨rfl,hc⟩:=obs_pnd h2 h3
     refine⟨by simp[labs],?_⟩
     simp only[loe,Option.bind_eq_some_iff]at g1
     obtain⟨q0,hq0,g1⟩:=g1
     refine⟨q0,hq0,?_⟩
     have hl:=h1.1
     rcases hc with⟨⟨ls,rfl⟩,hb⟩|⟨⟨dp,c,xs,rfl⟩,hb⟩|⟨⟨kk,vk,es',rfl⟩,hb⟩
     ·cases q0 with
      |box as=>exact hb
      |row dp pn c xs=>simp only[lob,Option.some.injEq,Prod.mk.injEq]at g1;rw[<-g1.1]at hl;simp[LO.like]at hl
      |mp kk vk es'=>simp only[lob,Option.some.injEq,Prod.mk.injEq]at g1;rw[<-g1.1]at hl;simp[LO.like]at hl
     ·cases q0 with
      |box as=>
       simp only[lob,Option.map_eq_some_iff,Prod.mk.injEq]at g1
       obtain⟨_,_,g1,_⟩:=g1
       rw[<-g1]at hl;simp[LO.like]at hl
      |row dp pn c xs=>simp only[hq0,pinOf]at hb;exact hb
      |mp kk vk es'=>simp only[lob,Option.some.injEq,Prod.mk.injEq]at g1;rw[<-g1.1]at hl;simp[LO.like]at hl
     ·cases q0 with
      |box as=>
       simp only[lob,Option.map_eq_some_iff,Prod.mk.injEq]at g1
       obtain⟨_,_,g1,_⟩:=g1
       rw[<-g1]at hl;simp[LO.like]at hl
      |row dp pn c xs=>simp only[lob,Option.some.injEq,Prod.mk.injEq]at g1;rw[<-g1.1]at hl;simp[LO.like]at hl
      |mp kk vk es'=>exact hb
    ·obtain⟨k1,k2⟩:=back_pin g2 h1.2 h2 h3
     exact⟨by simp[labs,k1],k2⟩
theorem lo_dropO(p:Lab->Bool):∀ {ob:List (Lab×Ob)} {l:Lab} {q:Ob},lo (dropO p ob) l=some q->p l=false∧lo ob l=some q
 | [],_,_,h=>by cases h
 |(k,z)::r,l,q,h=>by
  simp only[dropO]at h
  split at h
  ·rename_i hk
   obtain⟨h1,h2⟩:=lo_dropO p h
   refine⟨h1,?_⟩
   simp only[lo]
   rw[if_neg]
   ·exact h2
   ·intro e;subst e;rw[hk]at h1;cases h1
  ·rename_i hk
   simp only[lo]at h⊢
   split at h
   ·rename_i e
    subst e
    exact⟨by simpa using hk,by simpa using h⟩
   ·rename_i e
    rw[if_neg e]
    exact lo_dropO p h
section
variable {P:Program} {S:FuncId->List SA->RA->Prop} {N:Nat} {G:Gd} {σ:Lab->Value} {ow:Own} {w:World} {a:Act} {Γ:Env} {K:Env->Prop} {Q:Exit->Act->World->Prop} {o:Oper}
theorem snd_vq(hS:SOk P G S)(hr:Rep N G σ ow w a Γ){d:Option Nat}{f:FuncId}{as:List SA}{es:List LE}{vs us:List Value}(hd':dstO N d o=true)(hargs:ArgQs (fz G ow w) w vs as us)(hle:LEv σ es vs)
  (hv:vq S d f as es Γ K) (hrun:callOk P f=true->(execOp a.eval o).run P w= .ok (.enter f us.toArray) w):o.wp P a w (Post N G ow w K) Q:=by
 obtain⟨⟨los,cons⟩,hlo,r,os',hS',hne,hnd,hlk,hnew,hone,hdd,hk⟩:=need_iff hv
 simp only at hS' hnd hlk hone hk
 have hnd':=nodB_nodup hnd
 obtain⟨bs,hlos,hbn,hOB⟩:=loes_spec hr.ob hlo hle hnd'
 have hsp:=hS.1 _ _ _ hS'
 have hlne:los≠ []:=by
  intro e
  subst e
  cases es with
  |nil=>exact hne rfl
  |cons e es=>
   simp only[loes,Option.bind_eq_some_iff,Option.map_eq_some_iff,Prod.mk.injEq]at hlo
   obtain⟨_,_,_,_,h,_⟩:=hlo
   cases h
 have hF:∀b,fz G ow w b->b<w.heap.size∧b∉bs:=fun b hb=>⟨hb.2.1,fun hh=>by
  obtain⟨l,_,ho⟩:=hOB b hh
  rw[hb.1]at ho;cases ho⟩
 have hcall:=hsp.2.2.2 as los r os' rfl hlne rfl (fz G ow w) w us vs bs hF (hS.2▸hr.top.laid) hargs hlos hbn
 unfold Oper.wp
 rw[hrun hsp.1,Oper.upon_enter]
 refine hcall.mono fun e w' h=> ?_
 obtain⟨u,p,q,rfl,hpc,hlos',hpq,hmem,hos,htape,hout,hsz,hheap⟩:=h
 have hpq':=List.nodup_append.1 hpq
 have hbs:∀b∈bs,∃l,ow b=some l∧l∈labs es++cons:=fun b hb=>by
  obtain⟨l,hl,ho⟩:=hOB b hb
  exact⟨l,ho,hl⟩
 have hFQ1:∀b,FQ (fz G ow w) w w' bs (p++q) b->b∉p∧b<w'.heap.size:=fun b hb=>⟨fun h=>hb.1 (List.mem_append_left _ h),hb.2.1⟩
 have hFQ2:∀b,FQ (fz G ow w) w w' bs (p++q) b->b∉q∧b<w'.heap.size:=fun b hb=>⟨fun h=>hb.1 (List.mem_append_right _ h),hb.2.1⟩
 obtain⟨σr,owr,a1,a2,a3⟩:=pc_root hpc hpq'.1 hFQ1
 have hlabs:(labs es).Nodup:=(List.nodup_append.1 hnd').1
 obtain⟨σ1,ow1,k1,k2,k3⟩:=obsG_root (ks:=es.map (kOf Γ.ob)) hlos' hpq'.2.1 hFQ2 (by rw[lkG_kOf];exact hlabs) (KsB_of Γ.ob hlo hlk hnew hone)
 rw[lkG_kOf]at k2 k3
 rw[obsG_kOf]at k3
 have hdd':∀l∈labs es,hdo d l=false∧subL (labs es) l=false:=fun l hl=>by
  have:=List.all_eq_true.1 hdd l hl
  simpa using this
 let kq:Lab->Bool:=fun m=>hdo d m||(inLs cons m||(inLs (goneL es os') m||subL (labs es) m))
 let Pq:Lab->Bool:=fun m=>kq m||inLs (labs es) m
 let σ'':Lab->Value:=fun l=>if hdo d l=true then(match l with|_::l'=>σr l'| []=>undef)else if subL (labs es) l=true then σ1 l else σ l
 let ow'':Own:=fun b=>if b∈p then(match d with|some d=>(owr b).map (d:: ·)|none=>none)else if b∈q then ow1 b else if b∈bs∨w.heap.size<=b then none else ow b
 have hPbs:∀b∈bs,∃l,ow b=some l∧Pq l=true:=fun b hb=>by
  obtain⟨l,ho,hl⟩:=hbs b hb
  refine⟨l,ho,?_⟩
  rcases List.mem_append.1 hl with h|h
  ·simp only[Pq,inLs_mem.2 h,Bool.or_true]
  ·simp only[Pq,kq,inLs_mem.2 h,Bool.or_true,Bool.true_or]
 have hu:Upd Pq ow w ow'' w':=by
  refine⟨hos,htape,hout,hsz,fun b hb hp=> ?_⟩
  have hnb:b∉bs:=fun h=>by
   obtain⟨l,ho,hl⟩:=hPbs b h
   rw[hp l ho]at hl;cases hl
  have hnpq:b∉p++q:=fun h=>by
   rcases(hmem b h).1 with h|h
   ·exact hnb h
   ·omega
  simp only[List.mem_append,not_or]at hnpq
  refine⟨?_,hheap b hb hnb⟩
  simp only[ow'',hnpq.1,hnpq.2,hnb,if_false,false_or]
  rw[if_neg (by omega)]
 have hσ:∀l,kq l=false->σ'' l=σ l:=fun l hl=>by
  simp only[kq,Bool.or_eq_false_iff]at hl
  simp only[σ'',hl.1,hl.2.2.2,Bool.false_eq_true,if_false]
 have hσl:∀l∈labs es,σ'' l=σ l:=fun l hl=>by
  obtain⟨h1,h2⟩:=hdd' l hl
  simp only[σ'',h1,h2,Bool.false_eq_true,if_false]
 have hGb:∀b,b∈p++q->G b:=fun b hb=>by
  rcases(hmem b hb).1 with h|h
  ·obtain⟨l,ho,_⟩:=hbs b h
   exact hr.own b l ho
  ·exact hr.top.new b h
 have hfzQ:∀b,FQ (fz G ow w) w w' bs (p++q) b->fz G ow'' w' b:=fun b hb=>by
  obtain⟨h1,h2,h3⟩:=hb
  simp only[List.mem_append,not_or]at h1
  refine⟨?_,h2,?_⟩
  ·simp only[ow'',h1.1,h1.2,if_false]
   split
   ·rfl
   ·rename_i hh
    simp only[not_or,Nat.not_le]at hh
    rcases h3 with h3|h3|h3
    ·exact h3.1
    ·omega
    ·exact absurd h3 hh.1
  ·rcases h3 with h3|h3|h3
   ·exact h3.2.2
   ·exact hr.top.new b h3
   ·obtain⟨l,ho,_⟩:=hbs b h3
    exact hr.own b l ho
 have hrk:=hr.kill kq
 have hfree:=Free.kill kq Γ
 have hbase:Rep N G σ'' ow'' w' a ⟨killT kq Γ.tm,dropO (inLs (labs es)) (killO kq Γ.ob)⟩:=by
  refine⟨hrk.size,hrk.defers,fun t x hx=>(hrk.tm t x hx).keep hσ hu.fz (hfree.tm t x hx),fun l o ho=> ?_,fun b l hb=> ?_,⟨fun b hb=>hr.top.new b (Nat.le_trans hsz hb),hr.top.laid.keep hu.fz⟩,fun l o ho hp=> ?_,hr.big⟩
  ·obtain⟨h1,h2⟩:=lo_dropO _ ho
   obtain⟨h3,h4⟩:=hfree.ob l o h2
   exact(hrk.ob l o h2).upd (p:=Pq) hu hσ (by simp only[Pq,h3,h1,Bool.or_self]) h3 h4
  ·simp only[ow'']at hb
   split at hb
   ·rename_i h;exact hGb b (List.mem_append_left _ h)
   ·split at hb
    ·rename_i h;exact hGb b (List.mem_append_right _ h)
    ·split at hb
     ·cases hb
     ·exact hr.own b l hb
  ·obtain⟨h1,h2⟩:=lo_dropO _ ho
   obtain⟨h3,h4⟩:=hfree.ob l o h2
   exact(hσ l h3).trans (hrk.pin l o h2 hp)
 have hmid:Rep N G σ'' ow'' w' a ⟨killT kq Γ.tm,backO Γ.ob es os'++dropO (inLs (labs es)) (killO kq Γ.ob)⟩:=by
  refine⟨hbase.size,hbase.defers,hbase.tm,fun l o ho=> ?_,hbase.own,hbase.top,fun l o ho hp=> ?_,hbase.big⟩
  ·rcases lo_app _ _ _ _ ho with h|h
   ·refine k3 G σ'' ow'' (KsV_of hle hσl) (fun l hl=> ?_) (fun b l hb=> ?_) hfzQ l o h
    ·have:hdo d l=false:=by
      cases d with
      |none=>rfl
      |some d=>
       cases l with
       |nil=>simp[subL]at hl
       |cons n l=>cases l with
        |nil=>simp[subL]at hl
        |cons j l=>
         simp only[subL,inLs_mem]at hl
         have:=(hdd' _ hl).1
         simpa[hdo,hd]using this
     simp only[σ'',this,hl,Bool.false_eq_true,if_false,if_true]
    ·have hq:b∈q:=Classical.byContradiction fun hq=>by rw[k1 b hq]at hb;cases hb
     have hp:b∉p:=fun hh=>hpq'.2.2 b hh b hq rfl
     simp only[ow'',hp,hq,if_false,if_true,hb]
   ·exact hbase.ob l o h
  ·rcases lo_app _ _ _ _ ho with h|h
   ·obtain⟨hl,q0,hq0,hp0⟩:=back_pin hlo hlk h hp
    exact(hσl l hl).trans (hr.pin l q0 hq0 hp0)
   ·exact hbase.pin l o h hp
 have hext:Ext ow w ow'' w':=hu.ext
 cases d with
 |none=>
  have hdn:o.dst=none:=by simpa[dstO]using hd'
  show Post N G ow w K (a.put o.dst u) w'
  rw[hdn,put_none]
  exact⟨_,σ'',ow'',hk,hmid,hext⟩
 |some d=>
  obtain⟨h1,h2⟩:=dst_of (show dstOk N d o=true from hd')
  show Post N G ow w K (a.put o.dst u) w'
  rw[h1]
  have hσd:∀l,σ'' (d::l)=σr l:=fun l=>by simp[σ'',hdo,hd]
  have howd:∀b l,owr b=some l->ow'' b=some (d::l):=fun b l hb=>by
   have hp:b∈p:=Classical.byContradiction fun hp=>by rw[a1 b hp]at hb;cases hb
   simp only[ow'',hp,if_true,hb,Option.map_some]
  obtain⟨e1,e2⟩:=intro_pre d [] r
  have hV:RepV σ'' (fz G ow'' w') w' (r.intro [d]).1 u:=by
   rw[e1]
   exact a2.pre hσd hfzQ
  have hput:=hmid.put h2 hV
  refine⟨_,σ'',ow'',hk,⟨hput.size,hput.defers,hput.tm,fun l o ho=> ?_,hput.own,hput.top,fun l o ho hp=> ?_,hput.big⟩,hext⟩
  ·rcases lo_app _ _ _ _ ho with h|h
   ·simp only[resO,e2]at h
    exact a3.pre hσd howd hfzQ l o h
   ·exact hput.ob l o h
  ·rcases lo_app _ _ _ _ ho with h|h
   ·have:=intro_pn d [] r _ (lo_mem h) G.pb fun m=>hput.big d m h2
    simp only at this
    rw[this]at hp;cases hp
   ·exact hput.pin l o h hp
theorem snd_cq(hS:SOk P G S)(hr:Rep N G σ ow w a Γ){d f xs}(hm:I.m P N (.cq d f xs) o=true)(hv:vi S (.cq d f xs) Γ K):o.wp P a w (Post N G ow w K) Q:=by
 simp only[vi]at hv
 obtain⟨⟨ss,es⟩,hl,hv⟩:=need_iff hv
 simp only[I.m]at hm
 split at hm
 ·rename_i f' ops ts hop
  simp only[Bool.and_eq_true,beq_iff_eq]at hm
  obtain⟨⟨⟨hd',rfl⟩,hf⟩,hargs⟩:=hm
  obtain⟨t,h1,h2⟩:=lnqs_spec hr (vs:=[]) hl hargs trivial
  exact snd_vq hS hr hd' h2 h1 hv fun _=>exec_call hop hf
 ·cases hm
theorem ArgQs.append{F:Nat->Prop}{vs:List Value}:∀ {as bs:List SA} {us vs':List Value},ArgQs F w vs as us->ArgQs F w vs bs vs'->ArgQs F w vs (as++bs) (us++vs')
 | [],bs,us,vs',h,k=>by
  simp only[ArgQs]at h
  subst h
  exact k
 |s::as,bs,us,vs',h,k=>by
  simp only[ArgQs,List.cons_append]at h⊢
  obtain⟨u,r,rfl,h1,h2⟩:=h
  exact⟨u,r++vs',rfl,h1,ArgQs.append h2 k⟩
end
end Go.Q
namespace Go.Q
section
variable {P:Program} {S:FuncId->List SA->RA->Prop} {N:Nat} {G:Gd} {σ:Lab->Value} {ow:Own} {w:World} {a:Act} {Γ:Env} {K:Env->Prop} {Q:Exit->Act->World->Prop} {o:Oper}
def owZ(ow:Own)(l:Lab):Own:=fun b=>if ow b=some l then none else ow b
theorem fz_put(hr:Rep N G σ ow w a Γ){l:Lab}{q:Ob}{c:Ki}{x:AV}{y:c.T}{u:Value}(hq:lo Γ.ob l=some q)(hy:pk [(l,q)] c x=some y)(hx:RepV σ (fz G ow w) w x u):
  RepV σ (fz G (owZ ow l) w) w (.v c y) u:=by
 have e:fz ⟨fun b=>G b∧(ow b=none∨ow b=some l),G.pin,G.pb,G.tb⟩ (fun b=>if ow b=some l then some l else none) w=fz G ow w:=by
  funext b
  simp only[fz,eq_iff_iff]
  constructor
  ·rintro⟨h1,h2,h3,h4⟩
   refine⟨?_,h2,h3⟩
   split at h1
   ·cases h1
   ·rename_i hn;exact h4.resolve_right hn
  ·rintro⟨h1,h2,h3⟩
   exact⟨by simp[h1],h2,h3,.inl h1⟩
 have hob:∀l' q',lo [(l,q)] l'=some q'->ObR ⟨fun b=>G b∧(ow b=none∨ow b=some l),G.pin,G.pb,G.tb⟩ σ (fun b=>if ow b=some l then some l else none) w l' q':=by
  intro l' q' h
  simp only[lo]at h
  split at h
  ·rename_i hl
   subst hl
   cases h
   have h:=hr.ob _ _ hq
   cases q with
   |box ls=>
    obtain⟨b,e',cs,h1,h2,h3,h4⟩:=h
    exact⟨b,e',cs,h1,h2,if_pos h3,by rw[e];exact h4⟩
   |row dp p c' xs=>
    obtain⟨bs,h1,h2,h3⟩:=h
    exact⟨bs,by rw[e];exact h1,h2,fun b hb=>if_pos (h3 b hb)⟩
   |mp kk vk es=>
    obtain⟨g,ms,clk,h1,h2,h3,h4⟩:=h
    exact⟨g,ms,clk,h1,h2,if_pos h3,by rw[e];exact h4⟩
  ·cases h
 have hF:∀b,fz G ow w b->fz G (owZ ow l) w b:=fun b hb=>⟨by simp[owZ,hb.1],hb.2.1,hb.2.2⟩
 have h:=pk_rep (Γ:=⟨[],[(l,q)]⟩) (F':=fz G (owZ ow l) w) hob (by rw[e];exact hF) hy (by rw[e];exact hx) fun _ b l' hb hlt=>by
  split at hb
  ·rename_i hb'
   exact⟨if_pos hb',hlt,hr.own b l hb'⟩
  ·cases hb
 exact RepV.keep (σ:=fun _=>undef) (p:=fun _=>true) (fun _ h=>by cases h) (fun b hb=>⟨hb,rfl⟩) rfl h
theorem upd_owZ(l:Lab):Upd (fun m=>m==l) ow w (owZ ow l) w:=
 ⟨rfl,rfl,rfl,Nat.le_refl _,fun b _ h=>⟨if_neg fun hb=>by simpa using h l hb,rfl⟩⟩
end
end Go.Q
namespace Go.Q
section
variable {P:Program} {S:FuncId->List SA->RA->Prop} {N:Nat} {G:Gd} {σ:Lab->Value} {ow:Own} {w:World} {a:Act} {Γ:Env} {K:Env->Prop} {Q:Exit->Act->World->Prop} {o:Oper} {F:Nat->Prop}
theorem vs_uniq:∀ {vs us:List Value} {i:Nat},(vs.zipIdx i).map (fun p=>(p.2,p.1))=(us.zipIdx i).map (fun p=>(p.2,p.1))->vs=us
 | [],[],_,_=>rfl
 | [],_::_,_,h=>by simp at h
 |_::_,[],_,h=>by simp at h
 |v::vs,u::us,i,h=>by
  simp only[List.zipIdx_cons,List.map_cons,List.cons.injEq,Prod.mk.injEq,true_and]at h
  rw[h.1,vs_uniq h.2]
theorem lits_rep{c:Ki}:∀ {as:List AV} {vs:List Value},(as.all fun a=>a.stor&&(cellsOf a).length==c.sz)=true->RepVs σ F w as vs->
  RepCs σ F w (as.flatMap cellsOf) (vs.flatMap fun v=>v.cells.toList)∧(∀v∈vs,v.cells.size=c.sz)∧vs.length=as.length
 | [],vs,_,h=>by cases h;exact⟨rfl,fun _ h=>(by simp at h),rfl⟩
 |x::as,vs,hs,h=>by
  obtain⟨v,vs',rfl,h1,h2⟩:=h
  simp only[List.all_cons,Bool.and_eq_true,beq_iff_eq]at hs
  obtain⟨k1,k2,k3⟩:=lits_rep hs.2 h2
  have hc:=(cells_rep hs.1.1 h1).1
  refine⟨by simpa using hc.append k1,fun u hu=> ?_,by simp[k3]⟩
  rcases List.mem_cons.1 hu with rfl|hu
  ·have:=hc.length
   simpa[hs.1.2]using this
  ·exact k2 u hu
theorem snd_bl(hr:Rep N G σ ow w a Γ){d c xs}(hm:I.m P N (.bl d c xs) o=true)(hv:vi S (.bl d c xs) Γ K):o.wp P a w (Post N G ow w K) Q:=by
 simp only[vi]at hv
 obtain⟨as,hev,hst,hk⟩:=need_iff hv
 simp only[I.m]at hm
 split at hm
 ·rename_i t n ps hop
  simp only[Bool.and_eq_true,beq_iff_eq]at hm
  obtain⟨⟨⟨⟨hd',rfl⟩,hps⟩,hrow⟩,hn⟩:=hm
  have hn':=Nat.le_of_ble_eq_true hn
  obtain⟨h1,h2⟩:=dst_of hd'
  obtain⟨e,i,z,ht,hi,hz,hzc,hzs,his,hby,hsz⟩:=row_info hrow
  obtain⟨vs,e1,e2,e3⟩:=evs_reps (hr.kill (hd d)) hev hps
  obtain⟨k1,k2,k3⟩:=lits_rep hst e2
  have hrun:=exec_bs (a:=a) (w:=w) (r:=default) hop e1 (by rw[<-e3];exact run_bs ht hi hz hzs hsz vs (fun v h=>by rw[k2 v h,his]) (by rw[e3,his];exact hn'))
  refine wp_value hrun ?_
  rw[h1]
  have hu:=upd_alloc (ow:=ow) (w:=w) (d:=d) (ob:=.cells (vs.flatMap fun v=>v.cells.toList).toArray e)
  have hr':=(hr.kill (hd d)).upd (σ':=σnew σ d (.pointer (some ⟨w.heap.size,0,none⟩))) hu σnew_keep (Free.kill (hd d) Γ)
  obtain⟨us,f1,f2,f3⟩:=evs_reps hr' hev hps
  obtain rfl:=vs_uniq (e1.symm.trans f1)
  obtain⟨g1,_,_⟩:=lits_rep hst f2
  refine⟨_,_,_,hk,(hr'.new (l:=[d]) (o:=.box (as.flatMap cellsOf)) ⟨w.heap.size,e,_,by simp[σnew],heap_new w _,by simp,by simpa using g1⟩ (fun h=>by rw[pnd_false rfl (hr.big d [] h2)]at h;cases h)).put h2 (RepV_leaf (x:=.ls [d] c as.length) ?_ rfl),hu.ext⟩
  exact⟨w.heap.size,by simp[σnew],by rw[<-k3]⟩
 ·cases hm
theorem RepC_st{x:AV}{v:Value}(h:RepC σ F w x [v])(hS:x.isS=false)(hst:x.stor=true):v.cells= #[v]:=by
 have hl:x.leaf=true:=by
  cases x with
  |v c y=>cases c<;>first|rfl|simp[AV.isS]at hS
  |ag n ls=>simp[AV.isS]at hS
  |tu vs=>simp[RepC]at h
  |_=>rfl
 exact(leaf_one hst hl h).1
theorem pkOL_stor{ob:List (Lab×Ob)}{c:Ki}{x:AV}{r:c.T×List Lab}(h:pkOL ob c x=some r):x.stor=true:=by
 unfold pkOL at h
 split at h
 ·rfl
 ·rfl
 all_goals first
  |(simp only[Option.map_eq_some_iff]at h;obtain⟨y,hy,_⟩:=h;rw[as_eq hy];rfl)
  |cases h
theorem elems_rep{ob:List (Lab×Ob)}{c:Ki}:∀ {n:Nat} {ls:List AV} {cs:List Value} {r:List c.T×List Lab},RepCs σ F w ls cs->ls.length=n*c.sz->pkOs ob c (elemsOf c n ls)=some r->
  ∃vs,RepVs σ F w (elemsOf c n ls) vs∧(vs.flatMap fun v=>v.cells.toList)=cs∧vs.length=n
 |0,ls,cs,r,hc,hl,hp=>by
  have:ls=[]:=by simpa using hl
  subst this
  refine⟨[],?_,?_,rfl⟩
  ·cases c<;>exact rfl
  ·exact(show cs=[]from hc).symm
 |n+1,ls,cs,r,hc,hl,hp=>by
  have hlc:=hc.length
  by_cases hS:∃m,c= .struct m
  ·obtain⟨m,rfl⟩:=hS
   simp only[elemsOf,pkOs,Option.bind_eq_some_iff,Option.map_eq_some_iff]at hp
   obtain⟨x,hx,s,hs,rfl⟩:=hp
   have hl1:ls.length=ssz m+n*ssz m:=by rw[hl];simp only[Ki.sz,Nat.add_mul,Nat.one_mul];omega
   obtain⟨vs,g1,g2,g3⟩:=elems_rep (hc.drop (ssz m)) (by simp only[List.length_drop,hl1,Ki.sz];omega) hs
   refine⟨.agg (cs.take (ssz m)).toArray::vs,⟨_,_,rfl,?_,g1⟩,?_,by simp[g3]⟩
   ·simp only[RepV,RepU,AV.isS,if_true,RepC]
    exact⟨_,rfl,by simp only[List.length_take,hl1];omega,hc.take (ssz m)⟩
   ·rw[List.flatMap_cons,g2]
    exact List.take_append_drop _ _
  ·have hsz:c.sz=1:=by cases c<;>first|rfl|exact absurd ⟨_,rfl⟩ hS
   rw[hsz]at hl
   cases ls with
   |nil=>simp at hl
   |cons x ls=>
    obtain⟨u,us,rfl,h1,h2⟩:=hc
    have hel:elemsOf c (n+1) (x::ls)=x::elemsOf c n ls:=by cases c<;>first|rfl|exact absurd ⟨_,rfl⟩ hS
    rw[hel]at hp⊢
    simp only[pkOs,Option.bind_eq_some_iff,Option.map_eq_some_iff]at hp
    obtain⟨y,hy,s,hs,rfl⟩:=hp
    obtain⟨vs,g1,g2,g3⟩:=elems_rep h2 (by rw[hsz];simpa using hl) hs
    have hy':pkOL ob c x=some y:=by
     cases c with
     |struct m=>exact absurd ⟨_,rfl⟩ hS
     |_=>simpa[pkO]using hy
    obtain⟨hS',htu⟩:=pkOL_leaf hy'
    refine⟨u::vs,⟨_,_,rfl,RepV_leaf h1 hS',g1⟩,?_,by simp[g3]⟩
    rw[List.flatMap_cons,g2,RepC_st h1 hS' (pkOL_stor hy')]
    rfl
theorem Rep.lit(hr:Rep N G σ ow w a Γ){t:Nat}{l:Lab}{c:Ki}{n:Nat}{ls:List AV}{r:List c.T×List Lab}(ht:lk Γ.tm t=some (.ls l c n))(hl:lo Γ.ob l=some (.box ls))(hp:pkOs Γ.ob c (elemsOf c n ls)=some r)
  (hlen:ls.length=n*c.sz) (hn:n<=33554432) (hnd:nodB r.2=true) (hnl:r.2.contains l=false):∃σ' ow',Rep N G σ' ow' w a (Γ.lit t l c r.1 r.2)∧Ext ow w ow' w:=by
 obtain⟨ys,labs⟩:=r
 obtain⟨b,e,cs,h1,h2,h3,h4⟩:=hr.ob l _ hl
 obtain⟨vs,g1,g2,g3⟩:=elems_rep h4 hlen hp
 obtain⟨bs,k1,k2,k3,k4,k5⟩:=pkOs_rep hr.ob hp g1 (nodB_nodup hnd)
 rw[g2]at k1
 have hb:b<w.heap.size:=by
  rcases Nat.lt_or_ge b w.heap.size with h|h
  ·exact h
  ·rw[Array.getElem?_eq_none h]at h2;cases h2
 have hu:Upd (fun m=>m==l||labs.contains m) ow w (owRow (fun m=>m==l||labs.contains m) l (b::bs) ow) w:=by
  refine upd_row (fun b' hb' hlt=> ?_) rfl rfl rfl (Nat.le_refl _) (fun _ _ _=>rfl)
  rcases List.mem_cons.1 hb' with rfl|hb'
  ·exact⟨l,h3,by simp⟩
  ·obtain⟨m,hm,ho⟩:=k3 b' hb'
   exact⟨m,ho,by simp[hm]⟩
 have hr':=(hr.kill (fun m=>m==l||labs.contains m)).upd (σ':=σat σ l (.slice (some ⟨b,0,none⟩) n n)) hu (σat_keep (by simp)) (Free.kill _ Γ)
 have hyl:ys.length=n:=by rw[k5,g3]
 have hrow:=hr'.new (l:=l) (o:=.row true false c ys) ⟨b::bs,by
  simp only[RowO,if_true,σat]
  refine .inr ⟨b,n,cs,e,bs,by rw[hyl],h2,by omega,by simp only[maxLen];omega,?_,rfl,?_⟩
  ·have:=h4.length
   rw[hlen]at this
   simpa using this
  ·rw[List.take_of_length_le (by rw[k1.len];exact Nat.le_refl _)]
   exact k1,by
  refine List.nodup_cons.2 ⟨fun h=> ?_,k2⟩
  obtain⟨m,hm,ho⟩:=k3 b h
  rw[h3]at ho
  cases ho
  simp[hm]at hnl,fun b hb=>owRow_at hb⟩
 refine⟨_,_,⟨hrow.size,hrow.defers,fun t' x hx=> ?_,hrow.ob,hrow.own,hrow.top,hrow.pin,hrow.big⟩,hu.ext⟩
 simp only[Env.lit,lk]at hx
 split at hx
 ·rename_i ht'
  subst ht'
  cases hx
  have hv:=hr.tm _ _ ht
  have hv':RepC σ (fz G ow w) w (.ls l c n) [a.tmps.getD t undef]:=by simpa[RepV,RepU,AV.isS]using hv
  obtain⟨b',hb',hv''⟩:=hv'
  rw[h1]at hb'
  cases hb'
  simp only[List.cons.injEq,and_true]at hv''
  exact RepV_sl.2 ⟨_,_,_,by simp[σat],hv''⟩
 ·exact hrow.tm t' x hx
theorem snd_apl(hr:Rep N G σ ow w a Γ){d L c x t}(hm:I.m P N (.apl d L c x t) o=true)(hv:vi S (.apl d L c x t) Γ K):o.wp P a w (Post N G ow w K) Q:=by
 simp only[vi]at hv
 obtain⟨v,ht,hv⟩:=need_iff hv
 split at hv
 ·rename_i l c' n
  obtain⟨q,hq,hv⟩:=need_iff hv
  split at hv
  ·rename_i ls
   obtain⟨r,hp,rfl,hnr,hlen,hn,hnd,hnl,hv⟩:=need_iff hv
   obtain⟨σ',ow',hr',he⟩:=hr.lit ht hq hp hlen hn hnd hnl
   have hv':vi S (.ap d L true c' x (.t t)) (Γ.lit t l c' r.1 r.2) K:=by
    simp only[vi,hnr,Bool.not_false,Bool.and_true,if_true]
    exact hv
   refine Oper.wp_mono (fun a' w' h=> ?_) (snd_ap hr' (o:=o) hm hv')
   obtain⟨Γ',σ2,ow2,hk,hr2,he2⟩:=h
   exact⟨Γ',σ2,ow2,hk,hr2,he.trans he2⟩
  ·exact hv.elim
 ·exact hv.elim
end
end Go.Q
namespace Go.Q
section
variable {P:Program} {S:FuncId->List SA->RA->Prop} {N:Nat} {G:Gd} {σ:Lab->Value} {ow:Own} {w:World} {a:Act} {Γ:Env} {K:Env->Prop} {Q:Exit->Act->World->Prop} {o:Oper} {F:Nat->Prop}
end
end Go.Q
namespace Go.Q
section
variable {P:Program} {S:FuncId->List SA->RA->Prop} {N:Nat} {G:Gd} {σ:Lab->Value} {ow:Own} {w:World} {a:Act} {Γ:Env} {K:Env->Prop} {Q:Exit->Act->World->Prop} {o:Oper}
end
end Go.Q
namespace Go.Q
def I.gm(P:Program)(N:Nat)(ops:List Oper):I->Oper->Bool
 | .g t b i,o=>(match o.guard with
  |some (j,want)=>want==b&&((ops[j]?).bind (·.dst))==some t&&i.dst==o.dst&&(match i.dst with|some d=>decide (d<N)|none=>true)&&i.m P N o
  |none=>false)
 |i,o=>o.guard.isNone&&i.m P N o
def gms(P:Program)(N:Nat)(ops:List Oper):List I->List Oper->Bool
 | [],[]=>true
 |i::is,o::os=>i.gm P N ops o&&gms P N ops is os
 |_,_=>false
section
variable {S:FuncId->List SA->RA->Prop} {P:Program} {N:Nat} {G:Gd} {σ:Lab->Value} {ow:Own} {w:World} {a:Act} {Γ:Env} {K:Env->Prop} {Q:Exit->Act->World->Prop} {o:Oper}
theorem snd_i(hS:SOk P G S)(hr:Rep N G σ ow w a Γ){i:I}(hm:i.m P N o=true)(hv:vi S i Γ K):o.wp P a w (Post N G ow w K) Q:=by
 cases i with
 |mv d x=>exact snd_mv hr hm hv
 |nck d x=>exact snd_nck hr hm hv
 |un d u x=>exact snd_un hr hm hv
 |bi d b x y=>exact snd_bi hr hm hv
 |be d b x y=>exact snd_be hr hm hv
 |pk d c x y=>exact snd_pk hr hm hv
 |fa d x n j off=>exact snd_fa hr hm hv
 |ia d x y c=>exact snd_ia hr hm hv
 |ld d x c=>exact snd_ld hr hm hv
 |st x y c=>exact snd_st hr hm hv
 |bx d x c=>exact snd_bx hr hm hv
 |al d c=>exact snd_al hr hm hv
 |ln d b x=>exact snd_ln hr hm hv
 |mk d p c n=>exact snd_mk hr hm hv
 |cv d f xs=>exact snd_cv hS hr hm hv
 |ca d f xs=>exact snd_ca hS hr hm hv
 |cf d x xs=>exact snd_cf hS hr hm hv
 |bs d dp c xs=>exact snd_bs hr hm hv
 |bd d n ps=>exact snd_bd hr hm hv
 |an d dp c x y=>exact snd_an hr hm hv
 |ap d L dp c x y=>exact snd_ap hr hm hv
 |ci d k x=>exact snd_ci hr hm hv
 |cs d x=>exact snd_cs hr hm hv
 |ix d x i=>exact snd_ix hr hm hv
 |sx d x lo hi=>exact snd_sx hr hm hv
 |sa d L x y=>exact snd_sa hr hm hv
 |cq d f xs=>exact snd_cq hS hr hm hv
 |cfr d x xs=>exact snd_cfr hS hr hm hv
 |xt d x i=>exact snd_xt hr hm hv
 |pn x=>exact hv.elim
 |bf d c xs=>exact snd_bf hr hm hv
 |bl d c xs=>exact snd_bl hr hm hv
 |apl d L c x t=>exact snd_apl hr hm hv
 |bo d c xs=>exact snd_bo hr hm hv
 |mm d kk vk=>exact snd_mm hr hm hv
 |mu m k v kk vk=>exact snd_mu hr hm hv
 |ml d m k kk vk ok=>exact snd_ml hr hm hv
 |g t b i=>simp[I.m]at hm
theorem Post.trans{ow':Own}{w':World}{K':Env->Prop}{a':Act}(he:Ext ow w ow' w'){b:Act}{v:World}(h:Post N G ow' w' K b v):Post N G ow w K b v:=by
 obtain⟨Γ',σ',o',hk,hr,h2⟩:=h
 exact⟨Γ',σ',o',hk,hr,he.trans h2⟩
theorem Rep.skip(hr:Rep N G σ ow w a Γ){d:Option Nat}(hd:∀x,d=some x->x<N):Rep N G σ ow w (a.put d undef) (Γ.skip d):=by
 cases d with
 |none=>exact hr
 |some d=>exact hr.put (hd d rfl) (by simp[RepV,RepU,AV.isS,RepC])
theorem yielded_of{ops:List Oper}{j t:Nat}(hj:((ops[j]?).bind (·.dst))=some t)(hr:Rep N G σ ow w a Γ){x:Bool}(hx:lk Γ.tm t=some (.v .bool x))(ht:t<N):yielded ops.toArray a.tmps j=some x:=by
 have h:=hr.tm t _ hx
 have:a.tmps.getD t undef= .bool x:=by
  simpa[RepV,RepU,AV.isS,RepC,Kx_bool]using h
 have hsz:t<a.tmps.size:=hr.size▸ht
 simp only[yielded,List.getElem?_toArray,hj,Option.bind_some]
 simp only[Array.getD_eq_getD_getElem?,Array.getElem?_eq_getElem hsz,Option.getD_some]at this
 simp only[Array.getElem?_eq_getElem hsz,this]
theorem yielded_ud{ops:List Oper}{j t:Nat}(hj:((ops[j]?).bind (·.dst))=some t)(hr:Rep N G σ ow w a Γ)(hx:lk Γ.tm t=some .ud):yielded ops.toArray a.tmps j=none:=by
 have h:=hr.tm t _ hx
 have h2:a.tmps.getD t undef=undef:=by
  simpa[RepV,RepU,AV.isS,RepC]using h
 simp only[yielded,List.getElem?_toArray,hj,Option.bind_some]
 rw[Array.getD_eq_getD_getElem?]at h2
 cases h3:a.tmps[t]? with
 |none=>rfl
 |some u=>
  rw[h3]at h2
  simp only[Option.getD_some]at h2
  subst h2
  rfl
theorem lk_lt(hr:Rep N G σ ow w a Γ){t:Nat}{x:Bool}(hx:lk Γ.tm t=some (.v .bool x)):t<N:=by
 have h:=hr.tm t _ hx
 rcases Nat.lt_or_ge t N with h'|h'
 ·exact h'
 ·have e:a.tmps.getD t undef=undef:=by
   simp[Array.getD_eq_getD_getElem?,Array.getElem?_eq_none (hr.size▸h')]
  rw[e]at h
  simp[RepV,RepU,AV.isS,RepC,Kx_bool,undef]at h
theorem Rep.same(hr:Rep N G σ ow w a Γ){t:Nat}{x:AV}(hx:lk Γ.tm t=some x):Rep N G σ ow w a ⟨(t,x)::Γ.tm,Γ.ob⟩:=
 ⟨hr.size,hr.defers,fun t' x' h=>by
  simp only[lk]at h
  split at h
  ·rename_i e
   subst e
   simp only[Option.some.injEq]at h
   subst h
   exact hr.tm _ _ hx
  ·exact hr.tm _ _ h,hr.ob,hr.own,hr.top,hr.pin,hr.big⟩
theorem snd_g(hS:SOk P G S)(hr:Rep N G σ ow w a Γ){i:I}{ops:List Oper}(hm:i.gm P N ops o=true)(hv:vi S i Γ K):
  if Region.wanted o (yielded ops.toArray a.tmps)then o.wp P a w (Post N G ow w K) Q else Post N G ow w K (a.put o.dst undef) w:=by
 by_cases hg:∃t b i',i= .g t b i'
 ·obtain⟨t,b,i',rfl⟩:=hg
  simp only[I.gm]at hm
  split at hm
  ·rename_i j want hgu
   simp only[Bool.and_eq_true,beq_iff_eq]at hm
   obtain⟨⟨⟨⟨rfl,hj⟩,hd⟩,hlt⟩,hm⟩:=hm
   obtain⟨av,hl,hv⟩:=need_iff hv
   split at hv
   ·rename_i x
    have hy:=yielded_of hj hr hl (lk_lt hr hl)
    have hs:=hr.same hl
    simp only[Region.wanted,hgu,hy]
    by_cases hx:x=want
    ·subst hx
     simp only[beq_self_eq_true,if_true]
     exact snd_i hS hs hm (hv.1 rfl)
    ·have hx':x= !want:=by cases x<;>cases want<;>simp_all
     subst hx'
     have:(some (!want)==some want)=false:=by cases want<;>rfl
     rw[this]
     simp only[Bool.false_eq_true,if_false]
     rw[<-hd]
     refine⟨_,σ,ow,hv.2 rfl,hs.skip fun x hx=> ?_,Ext.refl ow w⟩
     simpa[hx]using hlt
   ·have hy:=yielded_ud hj hr hl
    simp only[Region.wanted,hgu,hy]
    have:((none:Option Bool)==some want)=false:=rfl
    rw[this]
    simp only[Bool.false_eq_true,if_false]
    rw[<-hd]
    refine⟨_,σ,ow,hv,hr.skip fun x hx=> ?_,Ext.refl ow w⟩
    simpa[hx]using hlt
   ·exact hv.elim
  ·cases hm
 ·have hm':(o.guard.isNone&&i.m P N o)=true:=by
   cases i<;>first|exact hm|(exfalso;exact hg ⟨_,_,_,rfl⟩)
  simp only[Bool.and_eq_true]at hm'
  have hgn:o.guard=none:=by simpa using hm'.1
  simp only[Region.wanted,hgn,if_true]
  exact snd_i hS hr hm'.2 hv
theorem snd_is(hS:SOk P G S){ops:List Oper}:∀ {is:List I} {l:List Oper} {ow:Own} {w:World} {σ:Lab->Value} {a:Act} {Γ:Env},gms P N ops is l=true->Rep N G σ ow w a Γ->vs S is Γ K->
  (∀a' w',Post N G ow w K a' w'->Q .normal a' w')->wpList P ops.toArray Q l a w
 | [],[],ow,w,σ,a,Γ,_,hr,hv,hQ=>hQ _ _ ⟨Γ,σ,ow,hv,hr,Ext.refl ow w⟩
 | [],_::_,_,_,_,_,_,hm,_,_,_=>by simp[gms]at hm
 |_::_,[],_,_,_,_,_,hm,_,_,_=>by simp[gms]at hm
 |i::is,o::os,ow,w,σ,a,Γ,hm,hr,hv,hQ=>by
  simp only[gms,Bool.and_eq_true]at hm
  have h1:=snd_g (Q:=Q) hS hr hm.1 hv
  have next:∀a' w',Post N G ow w (fun Γ'=>vs S is Γ' K) a' w'->wpList P ops.toArray Q os a' w':=fun a' w' h=>by
   obtain⟨Γ',σ',ow',hk,hr',he⟩:=h
   exact snd_is hS hm.2 hr' hk fun a2 w2 h2=>hQ _ _ (Post.trans (a':=a2) (K':=K) he h2)
  refine wpList_step fun K' hK'=> ?_
  split
  ·rename_i hw
   rw[if_pos hw]at h1
   exact Oper.wp_mono (fun a' w' h=>hK' _ _ (next a' w' h)) h1
  ·rename_i hw
   rw[if_neg hw]at h1
   exact hK' _ _ (next _ _ h1)
end
end Go.Q
namespace Go.Q
def O.tm:O->List Nat
 | .t n=>[n]
 |_=>[]
def I.looks:I->List Nat
 | .mv _ o| .nck _ o| .un _ _ o| .fa _ o _ _ _| .ld _ o _| .bx _ o _| .ln _ _ o| .mk _ _ _ o=>o.tm
 | .bi _ _ x y| .be _ _ x y| .ia _ x y _| .st x y _=>x.tm++y.tm
 | .pk _ c x y=>c.tm++(x.tm++y.tm)
 | .al _ _=>[]
 | .ca _ _ xs| .cv _ _ xs=>xs.flatMap fun x=>x.1.tm
 | .cf _ o xs| .cfr _ o xs=>o.tm++xs.flatMap fun x=>x.1.tm
 | .ci _ _ o| .cs _ o=>o.tm
 | .ix _ x y| .sa _ _ x y=>x.tm++y.tm
 | .sx _ x lo hi=>x.tm++(lo.elim [] O.tm++hi.elim [] O.tm)
 | .bs _ _ _ xs=>xs.flatMap O.tm
 | .bd _ _ ps=>ps.flatMap fun x=>x.2.2.tm
 | .an _ _ _ x y| .ap _ _ _ _ x y=>x.tm++y.tm
 | .cq _ _ xs=>xs.flatMap fun x=>x.1.tm
 | .xt _ o _| .pn o=>o.tm
 | .mm _ _ _=>[]
 | .bf _ _ xs| .bo _ _ xs| .bl _ _ xs=>xs.flatMap O.tm
 | .apl _ _ _ x t=>x.tm++[t]
 | .mu m k v _ _=>m.tm++(k.tm++v.tm)
 | .ml _ m k _ _ _=>m.tm++k.tm
 | .g t _ i=>t::i.looks
def I.rd:I->Bool
 | .mv _ _| .nck _ _| .un _ _ _| .fa _ _ _ _ _| .ld _ _ _| .ln _ _ _| .bi _ _ _ _| .be _ _ _ _| .ia _ _ _ _| .pk _ _ _ _| .cv _ _ _| .bd _ _ _| .ci _ _ _| .cfr _ _ _| .cs _ _| .ix _ _ _| .xt _ _ _| .bf _ _ _| .sx _ _ _ _| .bs _ _ _ []=>true
 | .g _ _ i=>i.rd
 |_=>false
def I.rd0:I->Bool
 | .mv _ _| .nck _ _| .un _ _ _| .fa _ _ _ _ _| .ld _ _ _| .ln _ _ _| .bi _ _ _ _| .be _ _ _ _| .ia _ _ _ _| .pk _ _ _ _| .cv _ _ _| .bd _ _ _| .ci _ _ _| .cfr _ _ _| .cs _ _| .ix _ _ _| .xt _ _ _| .bf _ _ _| .sx _ _ _ _| .bs _ _ _ []=>true
 |_=>false
def I.cr:I->Bool
 | .al _ _| .bx _ _ _| .mk _ _ _ _| .ca (some _) _ _| .cf (some _) _ _| .bs _ _ _ (_::_)| .an _ _ _ _ _| .bl _ _ _=>true
 |_=>false
def Same(Γ' Γ:Env):Prop:=(∀t,lk Γ'.tm t=lk Γ.tm t)∧∀l,lo Γ'.ob l=lo Γ.ob l
theorem Same.refl(Γ:Env):Same Γ Γ:=⟨fun _=>rfl,fun _=>rfl⟩
theorem Same.trans{a b c:Env}(h:Same a b)(k:Same b c):Same a c:=⟨fun t=>(h.1 t).trans (k.1 t),fun l=>(h.2 l).trans (k.2 l)⟩
theorem Same.symm{a b:Env}(h:Same a b):Same b a:=⟨fun t=>(h.1 t).symm,fun l=>(h.2 l).symm⟩
theorem lk_put(Γ:Env)(d:Nat)(a:AV)(t:Nat):lk (Γ.put d a).tm t=if d=t then some a else lk Γ.tm t:=rfl
theorem Same_put{Γ:Env}{d:Nat}{a b:AV}:Same (Γ.put d a) (Γ.puto b (some d))↔a=b:=by
 constructor
 ·intro h
  have:=h.1 d
  simpa[Env.puto,lk_put]using this
 ·rintro rfl;exact Same.refl _
theorem Same.puto{Γ Γ':Env}(h:Same Γ' Γ)(a:AV):∀d,Same (Γ'.puto a d) (Γ.puto a d)
 |none=>h
 |some d=>⟨fun t=>by simp only[Env.puto,lk_put,h.1 t],h.2⟩
theorem Same_again{Γ:Env}{t:Nat}{x:AV}(h:lk Γ.tm t=some x):Same ⟨(t,x)::Γ.tm,Γ.ob⟩ Γ:=⟨fun t'=>by
 simp only[lk];split
 ·rename_i e;subst e;exact h.symm
 ·rfl,fun _=>rfl⟩
theorem skip_puto(Γ:Env)(d:Option Nat):Γ.skip d=Γ.puto .ud d:=by cases d<;>rfl
section
variable {S:FuncId->List SA->RA->Prop}
theorem vb_det{b:BinOp}{x y:AV}{f:AV->Prop}(h:vb b x y f):∃r,vb b x y fun r'=>r'=r∧f r':=by
 unfold vb at h⊢
 split at h<;>first|exact h.elim|exact⟨_,h.1,h.2.1,rfl,h.2.2⟩|exact⟨_,h.1,rfl,h.2⟩|exact⟨_,rfl,h⟩
theorem vb_imp{b:BinOp}{x y:AV}{f g:AV->Prop}(hfg:∀r,f r->g r)(h:vb b x y f):vb b x y g:=by
 unfold vb at h⊢
 split at h<;>first|exact h.elim|exact⟨h.1,h.2.1,hfg _ h.2.2⟩|exact⟨h.1,hfg _ h.2⟩|exact hfg _ h
theorem need_mk{α:Type}{x:Option α}{y:α}{f:α->Prop}(h:x=some y)(k:f y):need x f:=by subst h;exact k
theorem vi_imp:∀ {i:I} {Γ:Env} {K K':Env->Prop},(∀Γ,K Γ->K' Γ)->i.rd=true->vi S i Γ K->vi S i Γ K':=by
 intro i
 induction i with
 |mv d o=>
  intro Γ K K' hk _ h
  obtain⟨a,e,h⟩:=need_iff h;exact need_mk e (hk _ h)
 |nck d o=>
  intro Γ K K' hk _ h
  obtain⟨a,e,h⟩:=need_iff h
  refine need_mk e ?_
  split at h
  ·obtain⟨y,e,h⟩:=h;exact⟨y,e,hk _ h⟩
  ·exact hk _ h
  ·exact hk _ h
  ·exact h.elim
 |un d u o=>
  intro Γ K K' hk _ h
  obtain⟨a,e,h⟩:=need_iff h;obtain⟨b,e2,h⟩:=need_iff h
  exact need_mk e (need_mk e2 (hk _ h))
 |bi d b x y=>
  intro Γ K K' hk _ h
  obtain⟨a,e,h⟩:=need_iff h;obtain⟨a',e2,h⟩:=need_iff h
  exact need_mk e (need_mk e2 (vb_imp (fun r h=>hk _ h) h))
 |be d ne x y=>
  intro Γ K K' hk _ h
  obtain⟨a,e,h⟩:=need_iff h
  refine need_mk e ?_
  split at h
  ·obtain⟨a',e2,h⟩:=need_iff h
   refine need_mk e2 ?_
   split at h
   ·exact hk _ h
   ·exact h.elim
  ·exact h.elim
 |pk d c x y=>
  intro Γ K K' hk _ h
  obtain⟨a,e,h⟩:=need_iff h
  refine need_mk e ?_
  split at h
  ·refine⟨fun hb=> ?_,fun hb=> ?_⟩
   ·obtain⟨a,e,h⟩:=need_iff (h.1 hb);exact need_mk e (hk _ h)
   ·obtain⟨a,e,h⟩:=need_iff (h.2 hb);exact need_mk e (hk _ h)
  ·exact h.elim
 |fa d o n j off=>
  intro Γ K K' hk _ h
  obtain⟨a,e,h⟩:=need_iff h
  refine need_mk e ?_
  split at h
  ·obtain⟨y,e,h⟩:=h
   obtain⟨z,e2,h⟩:=need_iff h
   refine⟨y,e,need_mk e2 ?_⟩
   split at h
   ·exact⟨h.1,hk _ h.2⟩
   ·exact h.elim
  ·exact hk _ h
  ·exact hk _ h
  ·exact h.elim
 |ia d o i c=>
  intro Γ K K' hk _ h
  obtain⟨a,e,h⟩:=need_iff h;obtain⟨a',e2,h⟩:=need_iff h
  refine need_mk e (need_mk e2 ?_)
  split at h
  ·split at h
   ·exact⟨h.1,h.2.1,h.2.2.1,hk _ h.2.2.2⟩
   ·obtain⟨q,e3,h⟩:=need_iff h
    refine need_mk e3 ?_
    split at h
    ·exact⟨h.1,h.2.1,h.2.2.1,hk _ h.2.2.2⟩
    ·exact h.elim
   ·exact h.elim
  ·exact h.elim
 |ld d o c=>
  intro Γ K K' hk _ h
  obtain⟨a,e,h⟩:=need_iff h
  refine need_mk e ?_
  split at h
  ·obtain⟨y,h1,h2,h⟩:=h;exact⟨y,h1,h2,hk _ h⟩
  ·obtain⟨q,e3,h⟩:=need_iff h
   refine need_mk e3 ?_
   split at h
   ·split at h
    ·exact⟨h.1,hk _ h.2⟩
    ·obtain⟨a,h1,h2,h⟩:=h;exact⟨a,h1,h2,hk _ h⟩
   ·exact h.elim
  ·obtain⟨q,e3,h⟩:=need_iff h
   refine need_mk e3 ?_
   split at h
   ·obtain⟨h1,h2,h3,h4,h5,h⟩:=h;exact⟨h1,h2,h3,h4,h5,hk _ h⟩
   ·exact h.elim
  ·exact h.elim
 |ln d st o=>
  cases st with
  |false=>
   intro Γ K K' hk _ h
   obtain⟨a,e,h⟩:=need_iff h
   refine need_mk e ?_
   split at h
   ·exact fun hl=>hk _ (h hl)
   ·obtain⟨q,e3,h⟩:=need_iff h
    refine need_mk e3 ?_
    split at h
    ·exact fun hl=>hk _ (h hl)
    ·exact h.elim
   ·exact hk _ h
   ·exact h.elim
  |true=>
   intro Γ K K' hk _ h
   obtain⟨a,e,h⟩:=need_iff h
   refine need_mk e ?_
   split at h
   ·exact fun hl=>hk _ (h hl)
   ·exact h.elim
 |cv d f xs=>
  intro Γ K K' hk _ h
  obtain⟨a,e,r,hs,h⟩:=need_iff h
  refine need_mk e ⟨r,hs,?_⟩
  split at h
  ·exact⟨h.1,hk _ h.2⟩
  ·exact⟨h.1,hk _ h.2⟩
  ·exact h.elim
 |cfr d o xs=>
  intro Γ K K' hk _ h
  obtain⟨f,e1,h⟩:=need_iff h
  obtain⟨as,e2,c,x,h1,h2,h⟩:=need_iff h
  exact need_mk e1 (need_mk e2 ⟨c,x,h1,h2,hk _ h⟩)
 |ci d k x=>
  intro Γ K K' hk _ h
  obtain⟨a,e1,h⟩:=need_iff h
  refine need_mk e1 ?_
  split at h
  ·exact hk _ h
  ·exact h.elim
 |cs d x=>
  intro Γ K K' hk _ h
  obtain⟨a,e1,h⟩:=need_iff h
  obtain⟨xs,e2,h⟩:=need_iff h
  exact need_mk e1 (need_mk e2 (hk _ h))
 |ix d x i=>
  intro Γ K K' hk _ h
  obtain⟨a,e1,h⟩:=need_iff h
  refine need_mk e1 ?_
  split at h
  ·obtain⟨b,e2,h⟩:=need_iff h
   refine need_mk e2 ?_
   split at h
   ·exact⟨h.1,h.2.1,hk _ h.2.2⟩
   ·exact h.elim
  ·exact h.elim
 |xt d x i=>
  intro Γ K K' hk _ h
  obtain⟨a,e1,h⟩:=need_iff h
  refine need_mk e1 ?_
  split at h
  ·obtain⟨b,e2,h⟩:=need_iff h
   exact need_mk e2 (hk _ h)
  ·exact h.elim
 |bf d c xs=>
  intro Γ K K' hk _ h
  obtain⟨a,e1,h⟩:=need_iff h
  obtain⟨b,e2,h⟩:=need_iff h
  exact need_mk e1 (need_mk e2 ⟨h.1,hk _ h.2⟩)
 |sx d x lo hi=>
  intro Γ K K' hk _ h
  obtain⟨a,e1,h⟩:=need_iff h
  refine need_mk e1 ?_
  split at h
  ·obtain⟨b,e2,h⟩:=need_iff h
   obtain⟨c,e3,h⟩:=need_iff h
   exact need_mk e2 (need_mk e3 ⟨h.1,h.2.1,h.2.2.1,hk _ h.2.2.2⟩)
  ·exact h.elim
 |bd d n ps=>
  intro Γ K K' hk _ h
  obtain⟨a,e,h⟩:=need_iff h
  exact need_mk e (hk _ h)
 |bs d dp c xs=>
  cases xs with
  |cons x xs=>intros;rename_i hr _;cases hr
  |nil=>
  intro Γ K K' hk _ h
  exact hk _ h
 |g t b i ih=>
  intro Γ K K' hk hr h
  obtain⟨a,e,h⟩:=need_iff h
  refine need_mk e ?_
  split at h
  ·exact⟨fun hb=>ih hk hr (h.1 hb),fun hb=>hk _ (h.2 hb)⟩
  ·exact hk _ h
  ·exact h.elim
 |_=>intros;rename_i hr _;cases hr
theorem vi_det:∀ {i:I} {Γ:Env} {K:Env->Prop},i.rd=true->vi S i Γ K->∃a,vi S i Γ fun Γ'=>Same Γ' (Γ.puto a i.dst)∧K Γ':=by
 intro i
 induction i with
 |mv d o=>
  intro Γ K _ h
  obtain⟨a,e,h⟩:=need_iff h;exact⟨a,need_mk e ⟨Same_put.2 rfl,h⟩⟩
 |nck d o=>
  intro Γ K _ h
  obtain⟨a,e,h⟩:=need_iff h
  split at h
  ·obtain⟨y,e',h⟩:=h;exact⟨_,need_mk e ⟨y,e',Same_put.2 rfl,h⟩⟩
  ·exact⟨_,need_mk e ⟨Same_put.2 rfl,h⟩⟩
  ·exact⟨_,need_mk e ⟨Same_put.2 rfl,h⟩⟩
  ·exact h.elim
 |un d u o=>
  intro Γ K _ h
  obtain⟨a,e,h⟩:=need_iff h;obtain⟨b,e2,h⟩:=need_iff h
  exact⟨_,need_mk e (need_mk e2 ⟨Same_put.2 rfl,h⟩)⟩
 |bi d b x y=>
  intro Γ K _ h
  obtain⟨a,e,h⟩:=need_iff h;obtain⟨a',e2,h⟩:=need_iff h
  obtain⟨r,h⟩:=vb_det h
  exact⟨r,need_mk e (need_mk e2 (vb_imp (fun r' h=>⟨Same_put.2 h.1,h.2⟩) h))⟩
 |be d ne x y=>
  intro Γ K _ h
  obtain⟨a,e,h⟩:=need_iff h
  split at h
  ·obtain⟨a',e2,h⟩:=need_iff h
   split at h
   ·exact⟨_,need_mk e (need_mk e2 ⟨Same_put.2 rfl,h⟩)⟩
   ·exact h.elim
  ·exact h.elim
 |pk d c x y=>
  intro Γ K _ h
  obtain⟨a,e,h⟩:=need_iff h
  split at h
  ·rename_i b
   cases b with
   |true=>
    obtain⟨a',e2,h⟩:=need_iff (h.1 rfl)
    exact⟨a',need_mk e ⟨fun _=>need_mk e2 ⟨Same_put.2 rfl,h⟩,fun hb=>by cases hb⟩⟩
   |false=>
    obtain⟨a',e2,h⟩:=need_iff (h.2 rfl)
    exact⟨a',need_mk e ⟨fun hb=>(by cases hb),fun _=>need_mk e2 ⟨Same_put.2 rfl,h⟩⟩⟩
  ·exact h.elim
 |fa d o n j off=>
  intro Γ K _ h
  obtain⟨a,e,h⟩:=need_iff h
  split at h
  ·obtain⟨y,e',h⟩:=h
   obtain⟨z,e2,h⟩:=need_iff h
   split at h
   ·exact⟨_,need_mk e ⟨y,e',need_mk e2 ⟨h.1,Same_put.2 rfl,h.2⟩⟩⟩
   ·exact h.elim
  ·exact⟨_,need_mk e ⟨Same_put.2 rfl,h⟩⟩
  ·exact⟨_,need_mk e ⟨Same_put.2 rfl,h⟩⟩
  ·exact h.elim
 |ia d o i c=>
  intro Γ K _ h
  obtain⟨a,e,h⟩:=need_iff h;obtain⟨a',e2,h⟩:=need_iff h
  split at h
  ·split at h
   ·exact⟨_,need_mk e (need_mk e2 ⟨h.1,h.2.1,h.2.2.1,Same_put.2 rfl,h.2.2.2⟩)⟩
   ·obtain⟨q,e3,h⟩:=need_iff h
    split at h
    ·exact⟨_,need_mk e (need_mk e2 (need_mk e3 ⟨h.1,h.2.1,h.2.2.1,Same_put.2 rfl,h.2.2.2⟩))⟩
    ·exact h.elim
   ·exact h.elim
  ·exact h.elim
 |ld d o c=>
  intro Γ K _ h
  obtain⟨a,e,h⟩:=need_iff h
  split at h
  ·obtain⟨y,h1,h2,h⟩:=h;exact⟨_,need_mk e ⟨y,h1,h2,Same_put.2 rfl,h⟩⟩
  ·obtain⟨q,e3,h⟩:=need_iff h
   split at h
   ·cases c with
    |struct n=>exact⟨_,need_mk e (need_mk e3 ⟨h.1,Same_put.2 rfl,h.2⟩)⟩
    |_=>obtain⟨a,h1,h2,h⟩:=h;exact⟨a,need_mk e (need_mk e3 ⟨a,h1,h2,Same_put.2 rfl,h⟩)⟩
   ·exact h.elim
  ·obtain⟨q,e3,h⟩:=need_iff h
   split at h
   ·obtain⟨h1,h2,h3,h4,h5,h⟩:=h;exact⟨_,need_mk e (need_mk e3 ⟨h1,h2,h3,h4,h5,Same_put.2 rfl,h⟩)⟩
   ·exact h.elim
  ·exact h.elim
 |ln d st o=>
  cases st with
  |false=>
   intro Γ K _ h
   obtain⟨a,e,h⟩:=need_iff h
   split at h
   ·exact⟨_,need_mk e fun hl=>⟨Same_put.2 rfl,h hl⟩⟩
   ·obtain⟨q,e3,h⟩:=need_iff h
    split at h
    ·exact⟨_,need_mk e (need_mk e3 fun hl=>⟨Same_put.2 rfl,h hl⟩)⟩
    ·exact h.elim
   ·exact⟨_,need_mk e ⟨Same_put.2 rfl,h⟩⟩
   ·exact h.elim
  |true=>
   intro Γ K _ h
   obtain⟨a,e,h⟩:=need_iff h
   split at h
   ·exact⟨_,need_mk e fun hl=>⟨Same_put.2 rfl,h hl⟩⟩
   ·exact h.elim
 |cv d f xs=>
  intro Γ K _ h
  obtain⟨a,e,r,hs,h⟩:=need_iff h
  split at h
  ·rename_i c x
   exact⟨.v c x,need_mk e ⟨_,hs,h.1,Same.refl _,h.2⟩⟩
  ·rename_i c x
   exact⟨.v c x,need_mk e ⟨_,hs,h.1,Same.refl _,h.2⟩⟩
  ·exact h.elim
 |cfr d o xs=>
  intro Γ K _ h
  obtain⟨f,e1,h⟩:=need_iff h
  obtain⟨as,e2,c,x,h1,h2,h⟩:=need_iff h
  exact⟨_,need_mk e1 (need_mk e2 ⟨c,x,h1,h2,Same_put.2 rfl,h⟩)⟩
 |ci d k x=>
  intro Γ K _ h
  obtain⟨a,e1,h⟩:=need_iff h
  split at h
  ·exact⟨_,need_mk e1 ⟨Same_put.2 rfl,h⟩⟩
  ·exact h.elim
 |cs d x=>
  intro Γ K _ h
  obtain⟨a,e1,h⟩:=need_iff h
  obtain⟨xs,e2,h⟩:=need_iff h
  exact⟨_,need_mk e1 (need_mk e2 ⟨Same_put.2 rfl,h⟩)⟩
 |ix d x i=>
  intro Γ K _ h
  obtain⟨a,e1,h⟩:=need_iff h
  split at h
  ·obtain⟨b,e2,h⟩:=need_iff h
   split at h
   ·exact⟨_,need_mk e1 (need_mk e2 ⟨h.1,h.2.1,Same_put.2 rfl,h.2.2⟩)⟩
   ·exact h.elim
  ·exact h.elim
 |xt d x i=>
  intro Γ K _ h
  obtain⟨a,e1,h⟩:=need_iff h
  split at h
  ·obtain⟨b,e2,h⟩:=need_iff h
   exact⟨_,need_mk e1 (need_mk e2 ⟨Same_put.2 rfl,h⟩)⟩
  ·exact h.elim
 |bf d c xs=>
  intro Γ K _ h
  obtain⟨a,e1,h⟩:=need_iff h
  obtain⟨b,e2,h⟩:=need_iff h
  exact⟨_,need_mk e1 (need_mk e2 ⟨h.1,Same_put.2 rfl,h.2⟩)⟩
 |sx d x lo hi=>
  intro Γ K _ h
  obtain⟨a,e1,h⟩:=need_iff h
  split at h
  ·obtain⟨b,e2,h⟩:=need_iff h
   obtain⟨c,e3,h⟩:=need_iff h
   exact⟨_,need_mk e1 (need_mk e2 (need_mk e3 ⟨h.1,h.2.1,h.2.2.1,Same_put.2 rfl,h.2.2.2⟩))⟩
  ·exact h.elim
 |bd d n ps=>
  intro Γ K _ h
  obtain⟨a,e,h⟩:=need_iff h
  exact⟨_,need_mk e ⟨Same_put.2 rfl,h⟩⟩
 |bs d dp c xs=>
  cases xs with
  |cons x xs=>intros;rename_i hr _;cases hr
  |nil=>
  intro Γ K _ h
  exact⟨.nl c,Same_put.2 rfl,h⟩
 |g t b i ih=>
  intro Γ K hr h
  obtain⟨a,e,h⟩:=need_iff h
  split at h
  ·rename_i x
   by_cases hx:x=b
   ·subst hx
    obtain⟨a,h'⟩:=ih hr (h.1 rfl)
    refine⟨a,need_mk e ⟨fun _=>vi_imp (fun Γ' hh=>⟨hh.1.trans ((Same_again e).puto a _),hh.2⟩) hr h',fun hb=> ?_⟩⟩
    cases x<;>cases hb
   ·have hx':x= !b:=by cases x<;>cases b<;>simp_all
    subst hx'
    refine⟨.ud,need_mk e ⟨fun hb=>absurd hb hx,fun _=>⟨?_,h.2 rfl⟩⟩⟩
    rw[skip_puto]
    exact(Same_again e).puto _ _
  ·exact⟨.ud,need_mk e ⟨by rw[skip_puto];exact Same.refl _,h⟩⟩
  ·exact h.elim
 |_=>intros;rename_i hr _;cases hr
end
end Go.Q
