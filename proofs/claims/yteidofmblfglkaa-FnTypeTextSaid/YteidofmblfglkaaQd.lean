/- Regions, code, loops and functions: for every program of the model. -/
import Derived.Test.YteidofmblfglkaaQc
import Derived.Control
set_option linter.unusedVariables false
set_option linter.unusedSimpArgs false
namespace Go.Q
theorem ev_same{Γ Γ2:Env}{o:O}(h:∀t∈o.tm,lk Γ2.tm t=lk Γ.tm t):ev Γ2 o=ev Γ o:=by
 cases o with
 |t n=>exact h n (by simp[O.tm])
 |_=>rfl
structure Agr (p:Lab->Bool) (Γ Γ2:Env) (ts:List Nat):Prop where
 tm:∀t∈ts,lk Γ2.tm t=lk Γ.tm t
 ob:∀l,p l=false->lo Γ2.ob l=lo Γ.ob l
 fr:∀t∈ts,∀x,lk Γ.tm t=some x->x.refs p=false
 bx:∀l ls,p l=false->lo Γ.ob l=some (.box ls)->refsL p ls=false
section
variable {p:Lab->Bool} {Γ Γ2:Env} {ts:List Nat}
theorem Agr.sub{us:List Nat}(h:Agr p Γ Γ2 ts)(hs:∀t∈us,t∈ts):Agr p Γ Γ2 us:=⟨fun t ht=>h.tm t (hs t ht),h.ob,fun t ht=>h.fr t (hs t ht),h.bx⟩
theorem Agr.ev{o:O}(h:Agr p Γ Γ2 ts)(hs:∀t∈o.tm,t∈ts):ev Γ2 o=ev Γ o:=ev_same fun t ht=>h.tm t (hs t ht)
theorem Agr.evf{o:O}(h:Agr p Γ Γ2 ts)(hs:∀t∈o.tm,t∈ts){x:AV}(he:Q.ev Γ o=some x):x.refs p=false:=by
 cases o with
 |t n=>exact h.fr n (hs n (by simp[O.tm])) x he
 |_=>simp only[Q.ev,Option.some.injEq]at he;subst he;rfl
theorem pkL_agr(hob:∀l,p l=false->lo Γ2.ob l=lo Γ.ob l){c:Ki}{x:AV}(hx:x.refs p=false):pkL Γ2.ob c x=pkL Γ.ob c x:=by
 cases c with
 |slice c=>
  cases x with
  |sl l=>simp only[pkL];rw[hob l (by simpa[AV.refs]using hx)]
  |_=>rfl
 |_=>rfl
theorem im_rest{ob:List (Lab×Ob)}:∀ {f:Nat} {cs:List Ki} {ls:List AV} {h:HL cs} {rest:List AV},im ob f cs ls=some (h,rest)->refsL p ls=false->refsL p rest=false
 |0,_,_,_,_,e,_=>by simp[im]at e
 |_+1,[],_,_,_,e,hl=>by simp only[im,Option.some.injEq,Prod.mk.injEq]at e;rw[<-e.2];exact hl
 |f+1,.struct n::cs,ls,h,rest,e,hl=>by
  simp only[im,Option.bind_eq_some_iff,Option.map_eq_some_iff]at e
  obtain⟨r,h1,q,h2,e⟩:=e
  cases e
  exact im_rest (f:=f) (cs:=cs) (h:=q.1) h2 (im_rest (f:=f) (cs:=flds n) (h:=r.1) h1 hl)
 |f+1,.int k::cs,a::ls,h,rest,e,hl=>by
  simp only[im,Option.bind_eq_some_iff,Option.map_eq_some_iff]at e
  obtain⟨x,h1,q,h2,e⟩:=e
  cases e
  simp only[refsL,Bool.or_eq_false_iff]at hl
  exact im_rest (f:=f) (cs:=cs) (h:=q.1) h2 hl.2
 |f+1,.bool::cs,a::ls,h,rest,e,hl=>by
  simp only[im,Option.bind_eq_some_iff,Option.map_eq_some_iff]at e
  obtain⟨x,h1,q,h2,e⟩:=e
  cases e
  simp only[refsL,Bool.or_eq_false_iff]at hl
  exact im_rest (f:=f) (cs:=cs) (h:=q.1) h2 hl.2
 |f+1,.str::cs,a::ls,h,rest,e,hl=>by
  simp only[im,Option.bind_eq_some_iff,Option.map_eq_some_iff]at e
  obtain⟨x,h1,q,h2,e⟩:=e
  cases e
  simp only[refsL,Bool.or_eq_false_iff]at hl
  exact im_rest (f:=f) (cs:=cs) (h:=q.1) h2 hl.2
 |f+1,.slice c::cs,a::ls,h,rest,e,hl=>by
  simp only[im,Option.bind_eq_some_iff,Option.map_eq_some_iff]at e
  obtain⟨x,h1,q,h2,e⟩:=e
  cases e
  simp only[refsL,Bool.or_eq_false_iff]at hl
  exact im_rest (f:=f) (cs:=cs) (h:=q.1) h2 hl.2
 |f+1,.ptr c::cs,a::ls,h,rest,e,hl=>by
  simp only[im,Option.bind_eq_some_iff,Option.map_eq_some_iff]at e
  obtain⟨x,h1,q,h2,e⟩:=e
  cases e
  simp only[refsL,Bool.or_eq_false_iff]at hl
  exact im_rest (f:=f) (cs:=cs) (h:=q.1) h2 hl.2
 |f+1,.int k::cs,[],_,_,e,_|f+1,.bool::cs,[],_,_,e,_|f+1,.str::cs,[],_,_,e,_|f+1,.slice c::cs,[],_,_,e,_|f+1,.ptr c::cs,[],_,_,e,_=>by simp[im]at e
theorem im_agr(hob:∀l,p l=false->lo Γ2.ob l=lo Γ.ob l):∀ {f:Nat} {cs:List Ki} {ls:List AV},refsL p ls=false->im Γ2.ob f cs ls=im Γ.ob f cs ls
 |0,_,_,_=>rfl
 |_+1,[],_,_=>rfl
 |f+1,.struct n::cs,ls,hl=>by
  simp only[im]
  rw[im_agr hob (f:=f) (cs:=flds n) hl]
  cases hr:im Γ.ob f (flds n) ls with
  |none=>rfl
  |some r=>simp only[Option.bind_some];rw[im_agr hob (f:=f) (cs:=cs) (im_rest (h:=r.1) (rest:=r.2) hr hl)]
 |f+1,.int k::cs,a::ls,hl=>by
  simp only[refsL,Bool.or_eq_false_iff]at hl
  simp only[im];rw[pkL_agr hob hl.1,im_agr hob (f:=f) (cs:=cs) hl.2]
 |f+1,.bool::cs,a::ls,hl=>by
  simp only[refsL,Bool.or_eq_false_iff]at hl
  simp only[im];rw[pkL_agr hob hl.1,im_agr hob (f:=f) (cs:=cs) hl.2]
 |f+1,.str::cs,a::ls,hl=>by
  simp only[refsL,Bool.or_eq_false_iff]at hl
  simp only[im];rw[pkL_agr hob hl.1,im_agr hob (f:=f) (cs:=cs) hl.2]
 |f+1,.slice c::cs,a::ls,hl=>by
  simp only[refsL,Bool.or_eq_false_iff]at hl
  simp only[im];rw[pkL_agr hob hl.1,im_agr hob (f:=f) (cs:=cs) hl.2]
 |f+1,.ptr c::cs,a::ls,hl=>by
  simp only[refsL,Bool.or_eq_false_iff]at hl
  simp only[im];rw[pkL_agr hob hl.1,im_agr hob (f:=f) (cs:=cs) hl.2]
 |f+1,.int k::cs,[],_|f+1,.bool::cs,[],_|f+1,.str::cs,[],_|f+1,.slice c::cs,[],_|f+1,.ptr c::cs,[],_=>rfl
theorem refsL_drop:∀ {ls:List AV} (n:Nat),refsL p ls=false->refsL p (ls.drop n)=false
 | [],n,h=>by simp[refsL]
 |a::ls,0,h=>h
 |a::ls,n+1,h=>by
  simp only[refsL,Bool.or_eq_false_iff]at h
  exact refsL_drop n h.2
theorem pk_agr(h:Agr p Γ Γ2 ts){c:Ki}{x:AV}(hx:x.refs p=false):pk Γ2.ob c x=pk Γ.ob c x:=by
 unfold pk
 split
 ·rename_i n m ls
  simp only[imS]
  rw[im_agr h.ob (by simpa[AV.refs]using hx)]
 ·rename_i c l off
  have hl:p l=false:=by simpa[AV.refs]using hx
  rw[h.ob l hl]
  split
  ·rename_i ls hlo
   rw[im_agr h.ob (refsL_drop off (h.bx l ls hl hlo))]
  ·rfl
 ·exact pkL_agr h.ob hx
theorem Agr.co{xs:List (O×Md)}(h:Agr p Γ Γ2 ts)(hs:∀t∈xs.flatMap (fun x=>x.1.tm),t∈ts):co Γ2 xs=co Γ xs∧coLab Γ2 xs=coLab Γ xs:=by
 induction xs with
 |nil=>exact⟨rfl,rfl⟩
 |cons y r ih=>
  obtain⟨o,m⟩:=y
  simp only[List.flatMap_cons,List.mem_append]at hs
  have hs1:∀t∈o.tm,t∈ts:=fun t ht=>hs t (.inl ht)
  have h1:=h.ev hs1
  obtain⟨h2,h3⟩:=ih fun t ht=>hs t (.inr ht)
  constructor
  ·cases m with
   |v c=>
    simp only[Q.co,h1,h2]
    cases he:Q.ev Γ o with
    |none=>rfl
    |some x=>simp only[Option.bind_some];rw[pk_agr h (h.evf hs1 he)]
   |io c=>rfl
   |fn=>simp only[Q.co,h1,h2]
  ·simp only[coLab,h1,h3]
theorem Agr.evs{xs:List O}(h:Agr p Γ Γ2 ts)(hs:∀t∈xs.flatMap O.tm,t∈ts):evs Γ2 xs=evs Γ xs:=by
 induction xs with
 |nil=>rfl
 |cons o r ih=>
  simp only[List.flatMap_cons,List.mem_append]at hs
  simp only[Q.evs,h.ev fun t ht=>hs t (.inl ht),ih fun t ht=>hs t (.inr ht)]
theorem Agr.evsf{xs:List O}(h:Agr p Γ Γ2 ts)(hs:∀t∈xs.flatMap O.tm,t∈ts){as:List AV}(he:Q.evs Γ xs=some as):refsL p as=false:=by
 induction xs generalizing as with
 |nil=>cases he;rfl
 |cons o r ih=>
  simp only[List.flatMap_cons,List.mem_append]at hs
  simp only[Q.evs,Option.bind_eq_some_iff,Option.map_eq_some_iff]at he
  obtain⟨x,e1,s,e2,rfl⟩:=he
  simp only[refsL,h.evf (fun t ht=>hs t (.inl ht)) e1,ih (fun t ht=>hs t (.inr ht)) e2,Bool.or_false]
theorem Agr.evp{xs:List (Nat×Nat×O)}(h:Agr p Γ Γ2 ts)(hs:∀t∈xs.flatMap (fun x=>x.2.2.tm),t∈ts):evp Γ2 xs=evp Γ xs:=by
 induction xs with
 |nil=>rfl
 |cons y r ih=>
  obtain⟨off,sz,o⟩:=y
  simp only[List.flatMap_cons,List.mem_append]at hs
  simp only[Q.evp,h.ev fun t ht=>hs t (.inl ht),ih fun t ht=>hs t (.inr ht)]
theorem pks_agr(h:Agr p Γ Γ2 ts){c:Ki}:∀ {as:List AV},refsL p as=false->pks Γ2.ob c as=pks Γ.ob c as
 | [],_=>rfl
 |a::as,hr=>by
  simp only[refsL,Bool.or_eq_false_iff]at hr
  simp only[pks];rw[pk_agr h hr.1,pks_agr h hr.2]
theorem shr_agr(h:Agr p Γ Γ2 ts){c:Ki}{x:AV}(hx:x.refs p=false):shr Γ2.ob c x=shr Γ.ob c x:=by
 unfold shr
 cases x with
 |sl l=>simp only;rw[h.ob l (by simpa[AV.refs]using hx)]
 |_=>rfl
end
section
variable {S:FuncId->List SA->RA->Prop}
theorem vi_frame0{p:Lab->Bool}:∀ {i:I} {Γ Γ2:Env} {a:AV},i.rd0=true->Agr p Γ Γ2 i.looks->
  vi S i Γ (fun Γ'=>Same Γ' (Γ.puto a i.dst))->vi S i Γ2 (fun Γ'=>Same Γ' (Γ2.puto a i.dst)):=by
 intro i
 cases i with
 |mv d o=>
  intro Γ Γ2 a _ hA h
  have e:=hA.ev (o:=o) fun t ht=>ht
  simp only[vi,I.dst,Same_put]at h⊢;rw[e];exact h
 |nck d o=>
  intro Γ Γ2 a _ hA h
  have e:=hA.ev (o:=o) fun t ht=>ht
  simp only[vi,I.dst,Same_put]at h⊢;rw[e];exact h
 |un d u o=>
  intro Γ Γ2 a _ hA h
  have e:=hA.ev (o:=o) fun t ht=>ht
  simp only[vi,I.dst,Same_put]at h⊢;rw[e];exact h
 |bi d b x y=>
  intro Γ Γ2 a _ hA h
  have e:=hA.ev (o:=x) fun t ht=>by simp[I.looks,ht]
  have e2:=hA.ev (o:=y) fun t ht=>by simp[I.looks,ht]
  simp only[vi,I.dst,Same_put]at h⊢;rw[e,e2];exact h
 |be d ne x y=>
  intro Γ Γ2 a _ hA h
  have e:=hA.ev (o:=x) fun t ht=>by simp[I.looks,ht]
  have e2:=hA.ev (o:=y) fun t ht=>by simp[I.looks,ht]
  simp only[vi,I.dst,Same_put]at h⊢;rw[e,e2];exact h
 |pk d c x y=>
  intro Γ Γ2 a _ hA h
  have e:=hA.ev (o:=c) fun t ht=>by simp[I.looks,ht]
  have e2:=hA.ev (o:=x) fun t ht=>by simp[I.looks,ht]
  have e3:=hA.ev (o:=y) fun t ht=>by simp[I.looks,ht]
  simp only[vi,I.dst,Same_put]at h⊢;rw[e,e2,e3];exact h
 |fa d o n j off=>
  intro Γ Γ2 a _ hA h
  have e:=hA.ev (o:=o) fun t ht=>ht
  simp only[vi,I.dst,Same_put]at h⊢;rw[e];exact h
 |ia d o i c=>
  intro Γ Γ2 a _ hA h
  have e:=hA.ev (o:=o) fun t ht=>by simp[I.looks,ht]
  have e2:=hA.ev (o:=i) fun t ht=>by simp[I.looks,ht]
  simp only[vi,I.dst,Same_put]at h⊢;rw[e,e2]
  obtain⟨x,ex,h⟩:=need_iff h
  refine need_mk ex ?_
  have hf:=hA.evf (o:=o) (fun t ht=>by simp[I.looks,ht]) ex
  cases x with
  |sl l=>have hq:=hA.ob l (by simpa[AV.refs]using hf);simp only[hq];exact h
  |v c' xs=>cases c'<;>exact h
  |_=>exact h
 |ld d o c=>
  intro Γ Γ2 a _ hA h
  have e:=hA.ev (o:=o) fun t ht=>ht
  simp only[vi,I.dst,Same_put]at h⊢;rw[e]
  obtain⟨x,ex,h⟩:=need_iff h
  refine need_mk ex ?_
  have hf:=hA.evf (o:=o) (fun t ht=>ht) ex
  cases x with
  |pt l off=>simp only at h⊢;rw[hA.ob l (by simpa[AV.refs]using hf)];exact h
  |ep l c i off=>
   cases off with
   |zero=>simp only at h⊢;rw[hA.ob l (by simpa[AV.refs]using hf)];exact h
   |succ n=>exact h
  |v c' xs=>cases c'<;>exact h
  |_=>exact h
 |ln d st o=>
  cases st with
  |false=>
   intro Γ Γ2 a _ hA h
   have e:=hA.ev (o:=o) fun t ht=>ht
   simp only[vi,I.dst,Same_put]at h⊢;rw[e]
   obtain⟨x,ex,h⟩:=need_iff h
   refine need_mk ex ?_
   have hf:=hA.evf (o:=o) (fun t ht=>ht) ex
   cases x with
   |sl l=>simp only at h⊢;rw[hA.ob l (by simpa[AV.refs]using hf)];exact h
   |v c' xs=>cases c'<;>exact h
   |_=>exact h
  |true=>
   intro Γ Γ2 a _ hA h
   have e:=hA.ev (o:=o) fun t ht=>ht
   simp only[vi,I.dst,Same_put]at h⊢;rw[e];exact h
 |cv d f xs=>
  intro Γ Γ2 a _ hA h
  obtain⟨e,e2⟩:=hA.co (xs:=xs) fun t ht=>ht
  simp only[vi,I.dst]at h⊢
  rw[e,e2]
  obtain⟨as,ea,r,hs,h⟩:=need_iff h
  refine need_mk ea ⟨r,hs,?_⟩
  split at h
  ·refine⟨h.1,?_⟩
   cases d with
   |none=>exact Same.refl _
   |some d=>exact Same_put.2 (Same_put.1 h.2)
  ·refine⟨h.1,?_⟩
   cases d with
   |none=>exact Same.refl _
   |some d=>exact Same_put.2 (Same_put.1 h.2)
  ·exact h.elim
 |cfr d o xs=>
  intro Γ Γ2 a _ hA h
  have e:=hA.ev (o:=o) fun t ht=>List.mem_append_left _ ht
  obtain⟨e1,e2⟩:=hA.co (xs:=xs) fun t ht=>List.mem_append_right _ ht
  simp only[vi,I.dst,Same_put]at h⊢;rw[e,e1,e2];exact h
 |ci d k x=>
  intro Γ Γ2 a _ hA h
  have e:=hA.ev (o:=x) fun t ht=>ht
  simp only[vi,I.dst,Same_put]at h⊢;rw[e];exact h
 |cs d x=>
  intro Γ Γ2 a _ hA h
  have e1:=hA.ev (o:=x) fun t ht=>ht
  simp only[vi,I.dst,Same_put]at h⊢;rw[e1]
  obtain⟨u,eu,h⟩:=need_iff h
  refine need_mk eu ?_
  rw[pk_agr hA (hA.evf (o:=x) (fun t ht=>ht) eu)]
  exact h
 |ix d x i=>
  intro Γ Γ2 a _ hA h
  have e:=hA.ev (o:=x) fun t ht=>by simp[I.looks,ht]
  have e2:=hA.ev (o:=i) fun t ht=>by simp[I.looks,ht]
  simp only[vi,I.dst,Same_put]at h⊢;rw[e,e2];exact h
 |xt d x i=>
  intro Γ Γ2 a _ hA h
  have e:=hA.ev (o:=x) fun t ht=>by simp[I.looks,ht]
  simp only[vi,I.dst,Same_put]at h⊢;rw[e];exact h
 |bf d c xs=>
  intro Γ Γ2 a _ hA h
  have e:=hA.evs (xs:=xs) fun t ht=>by simpa[I.looks]using ht
  simp only[vi,I.dst,Same_put]at h⊢;rw[e]
  obtain⟨u,eu,h⟩:=need_iff h
  refine need_mk eu ?_
  rw[pks_agr hA (hA.evsf (xs:=xs) (fun t ht=>by simpa[I.looks]using ht) eu)]
  exact h
 |sx d x lo hi=>
  intro Γ Γ2 a _ hA h
  have e:=hA.ev (o:=x) fun t ht=>by simp[I.looks,ht]
  have e2:∀z,evo Γ2 lo z=evo Γ lo z:=by
   intro z
   cases lo with
   |none=>rfl
   |some lo=>simp only[evo];rw[hA.ev (o:=lo) fun t ht=>by simp[I.looks,ht]]
  have e3:∀z,evo Γ2 hi z=evo Γ hi z:=by
   intro z
   cases hi with
   |none=>rfl
   |some hi=>simp only[evo];rw[hA.ev (o:=hi) fun t ht=>by simp[I.looks,ht]]
  simp only[vi,I.dst,Same_put,e2,e3]at h⊢;rw[e];exact h
 |bd d n xs=>
  intro Γ Γ2 a _ hA h
  have e:=hA.evp (xs:=xs) fun t ht=>ht
  simp only[vi,I.dst,Same_put]at h⊢;rw[e];exact h
 |bs d dp c xs=>
  cases xs with
  |cons x xs=>intros;rename_i hr _ _;cases hr
  |nil=>
  intro Γ Γ2 a _ hA h
  simp only[vi,I.dst,Same_put]at h⊢;exact h
 |_=>intros;rename_i hr _ _;cases hr
theorem vi_frame{p:Lab->Bool}:∀ {i:I} {Γ Γ2:Env} {a:AV},i.rd=true->Agr p Γ Γ2 i.looks->
  vi S i Γ (fun Γ'=>Same Γ' (Γ.puto a i.dst))->vi S i Γ2 (fun Γ'=>Same Γ' (Γ2.puto a i.dst)):=by
 intro i
 induction i with
 |g t b i vi_frame=>
  intro Γ Γ2 a hr hA h
  obtain⟨x,e,h⟩:=need_iff h
  have e2:lk Γ2.tm t=some x:=(hA.tm t (by simp[I.looks])).trans e
  refine need_mk e2 ?_
  split at h
  ·rename_i x
   have key:vi S i Γ (fun Γ'=>Same Γ' (Γ.puto a i.dst))->vi S i Γ2 fun Γ'=>Same Γ' (Γ2.puto a i.dst):=vi_frame hr (hA.sub fun t ht=>by simp[I.looks,ht])
   refine⟨fun hb=> ?_,fun hb=> ?_⟩
   ·subst hb
    refine vi_frame (Γ:=⟨(t,.v .bool x)::Γ.tm,Γ.ob⟩) (Γ2:=⟨(t,.v .bool x)::Γ2.tm,Γ2.ob⟩) hr ⟨fun t' ht=> ?_,hA.ob,fun t' ht x' hx'=> ?_,hA.bx⟩ (vi_imp (fun Γ' hh=>hh.trans ((Same_again e).symm.puto a _)) hr (h.1 rfl))|>vi_imp (fun Γ' hh=>hh.trans ((Same_again e2).puto a _)) hr
    ·simp only[lk]
     split
     ·rfl
     ·exact hA.tm t' (by simp[I.looks,ht])
    ·simp only[lk]at hx'
     split at hx'
     ·cases hx';rfl
     ·exact hA.fr t' (by simp[I.looks,ht]) x' hx'
   ·subst hb
    have h2:=h.2 rfl
    rw[skip_puto]at h2⊢
    have h3:Same ((⟨(t,.v .bool (!b))::Γ.tm,Γ.ob⟩:Env).puto .ud i.dst) (Γ.puto a i.dst):=h2
    refine((Same_again e2).puto .ud i.dst).trans ?_
    have h4:=((Same_again e).puto .ud i.dst).symm.trans h3
    show Same (Γ2.puto .ud i.dst) (Γ2.puto a i.dst)
    cases hd:i.dst with
    |none=>exact Same.refl _
    |some d=>
     rw[hd]at h4
     have h5:=h4.1 d
     simp only[Env.puto,lk_put,if_true,Option.some.injEq]at h5
     subst h5
     exact Same.refl _
  ·have h2:Same (Γ.skip i.dst) (Γ.puto a i.dst):=h
   show Same (Γ2.skip i.dst) (Γ2.puto a i.dst)
   rw[skip_puto]at h2⊢
   cases hd:i.dst with
   |none=>exact Same.refl _
   |some d=>
    rw[hd]at h2
    have h5:=h2.1 d
    simp only[Env.puto,lk_put,if_true,Option.some.injEq]at h5
    subst h5
    exact Same.refl _
  ·exact h.elim
 |mv d o=>exact fun h=>vi_frame0 rfl
 |nck d o=>exact fun h=>vi_frame0 rfl
 |un d u o=>exact fun h=>vi_frame0 rfl
 |bi d b x y=>exact fun h=>vi_frame0 rfl
 |be d b x y=>exact fun h=>vi_frame0 rfl
 |pk d c x y=>exact fun h=>vi_frame0 rfl
 |fa d o n j off=>exact fun h=>vi_frame0 rfl
 |ia d o i c=>exact fun h=>vi_frame0 rfl
 |ld d o c=>exact fun h=>vi_frame0 rfl
 |ln d b o=>exact fun h=>vi_frame0 rfl
 |cv d f xs=>exact fun h=>vi_frame0 rfl
 |bd d n xs=>exact fun h=>vi_frame0 rfl
 |ci d k x=>exact fun h=>vi_frame0 rfl
 |cfr d o xs=>exact fun h=>vi_frame0 rfl
 |cs d x=>exact fun h=>vi_frame0 rfl
 |ix d x y=>exact fun h=>vi_frame0 rfl
 |sx d x lo hi=>exact fun h=>vi_frame0 rfl
 |xt d x i=>exact fun h=>vi_frame0 rfl
 |bf d c xs=>exact fun h=>vi_frame0 rfl
 |bs d dp c xs=>
  cases xs with
  |nil=>exact fun h=>vi_frame0 rfl
  |cons x xs=>intro _ _ _ h;cases h
 |_=>intro _ _ _ h;cases h
def Env.adds(Γ:Env)(x:AV)(obs:List (Lab×Ob)):Option Nat->Env
 |some d=>⟨(d,x)::Γ.tm,obs++Γ.ob⟩
 |none=>Γ
def Env.made(Γ:Env)(d:Nat)(x:AV)(obs:List (Lab×Ob)):Env:=⟨(d,x)::killT (hd d) Γ.tm,obs++killO (hd d) Γ.ob⟩
theorem lo_append(l:Lab):∀(a b:List (Lab×Ob)),lo (a++b) l=(match lo a l with|some o=>some o|none=>lo b l)
 | [],b=>rfl
 |(k,o)::a,b=>by
  simp only[List.cons_append,lo]
  split
  ·rfl
  ·exact lo_append l a b
theorem kill_id{p:Lab->Bool}{x:AV}(h:x.refs p=false):x.kill p=x:=by simp[AV.kill,h]
theorem killL_id{p:Lab->Bool}:∀ {ls:List AV},refsL p ls=false->killL p ls=ls
 | [],_=>rfl
 |a::ls,h=>by
  simp only[refsL,Bool.or_eq_false_iff]at h
  simp only[killL,kill_id h.1,killL_id h.2]
theorem Free.same{p:Lab->Bool}{Γ:Env}(h:Free p Γ):Same (Γ.kill p) Γ:=by
 refine⟨fun t=> ?_,fun l=> ?_⟩
 ·simp only[Env.kill,lk_killT]
  cases hx:lk Γ.tm t with
  |none=>rfl
  |some x=>simp only[Option.map_some];rw[kill_id (h.tm t x hx)]
 ·simp only[Env.kill]
  cases hx:lo Γ.ob l with
  |none=>
   by_cases hp:p l=true
   ·rw[lo_killO_none p _ _ hp]
   ·rw[lo_killO p _ _ (by simpa using hp),hx];rfl
  |some x=>
   obtain⟨h1,h2⟩:=h.ob l x hx
   rw[lo_killO p _ _ h1,hx]
   cases x with
   |box ls=>simp only[Option.map_some,Ob.kill];rw[killL_id (h2 ls rfl)]
   |row _ _ _ _=>rfl
   |mp _ _ _=>rfl
theorem Same.adds{Γ Γ':Env}(h:Same Γ' Γ)(x:AV)(obs:List (Lab×Ob))(d:Option Nat):Same (Γ'.adds x obs d) (Γ.adds x obs d):=by
 cases d with
 |none=>exact h
 |some d=>
  refine⟨fun t=> ?_,fun l=> ?_⟩
  ·simp only[Env.adds,lk,h.1 t]
  ·simp only[Env.adds,lo_append,h.2 l]
theorem made_same{Γ:Env}{d:Nat}(h:Free (hd d) Γ)(x:AV)(obs:List (Lab×Ob)):Same (Γ.made d x obs) (Γ.adds x obs (some d)):=h.same.adds x obs (some d)
theorem adds_nil(Γ:Env)(x:AV)(d:Option Nat):Γ.adds x [] d=Γ.puto x d:=by cases d<;>rfl
theorem Agr.kill{p:Lab->Bool}{Γ Γ2:Env}{ts:List Nat}(h:Agr p Γ Γ2 ts)(q:Lab->Bool):Agr p (Γ.kill q) (Γ2.kill q) ts:=by
 refine⟨fun t ht=> ?_,fun l hl=> ?_,fun t ht x hx=> ?_,fun l ls hl ho=> ?_⟩
 ·simp only[Env.kill,lk_killT,h.tm t ht]
 ·simp only[Env.kill]
  by_cases hq:q l=true
  ·rw[lo_killO_none q _ _ hq,lo_killO_none q _ _ hq]
  ·rw[lo_killO q _ _ (by simpa using hq),lo_killO q _ _ (by simpa using hq),h.ob l hl]
 ·simp only[Env.kill,lk_killT,Option.map_eq_some_iff]at hx
  obtain⟨y,hy,rfl⟩:=hx
  have:=h.fr t ht y hy
  unfold AV.kill
  split
  ·rfl
  ·exact this
 ·simp only[Env.kill]at ho
  by_cases hq:q l=true
  ·rw[lo_killO_none q _ _ hq]at ho;cases ho
  ·rw[lo_killO q _ _ (by simpa using hq)]at ho
   simp only[Option.map_eq_some_iff]at ho
   obtain⟨y,hy,e⟩:=ho
   cases y with
   |row _ _ _ _=>simp[Ob.kill]at e
   |mp _ _ _=>simp[Ob.kill]at e
   |box ls'=>
    simp only[Ob.kill,Ob.box.injEq]at e
    subst e
    have h1:=h.bx l ls' hl hy
    clear hy
    induction ls' with
    |nil=>rfl
    |cons a as ih=>
     simp only[refsL,Bool.or_eq_false_iff]at h1
     simp only[killL,refsL,ih h1.2,Bool.or_false]
     unfold AV.kill
     split
     ·rfl
     ·exact h1.1
def Prd(S:FuncId->List SA->RA->Prop):I->Env->AV->List (Lab×Ob)->Prop
 | .al d c,Γ,x,obs=>x= .pt [d] 0∧obs=[([d],.box (zA c))]
 | .bx d o c,Γ,x,obs=>∃a,ev (Γ.kill (hd d)) o=some a∧a.stor=true∧x= .pt [d] 0∧obs=[([d],.box (cellsOf a))]
 | .mk d dp c n,Γ,x,obs=>∃k m,ev Γ n=some (.v (.int k) (m:Int))∧0<=m∧m<=2147483647∧nop 99 [c]=true∧x= .sl [d]∧obs=[([d],.row dp false c (List.replicate m.toNat c.z))]
 | .ca (some d) f xs,Γ,x,obs=>∃as r,co Γ xs=some as∧S f as r∧(coLab Γ xs=false∨r.safe=true)∧x=(r.intro [d]).1∧obs=(r.intro [d]).2
 | .cf (some d) o xs,Γ,x,obs=>∃f as r,(ev Γ o).bind fnS=some f∧co Γ xs=some as∧S f.1 (as++capA f.2) r∧(coLab Γ xs=false∨r.safe=true)∧x=(r.intro [d]).1∧obs=(r.intro [d]).2
 | .bs d dp c (y::ys),Γ,x,obs=>∃as zs,evs (Γ.kill (hd d)) (y::ys)=some as∧pks (Γ.kill (hd d)).ob c as=some zs∧((!dp||c.nref)&& !refsL (fun _=>true) as)=true∧x= .sl [d]∧obs=[([d],.row dp false c zs)]
 | .an d dp c o y,Γ,x,obs=>∃c' a zs,ev (Γ.kill (hd d)) o=some (.nl c')∧ev (Γ.kill (hd d)) y=some a∧pk (Γ.kill (hd d)).ob (.slice c) a=some zs∧((!dp||c.nref)&&shr (Γ.kill (hd d)).ob c a)=true∧List.length zs<=33554432∧x= .sl [d]∧obs=[([d],.row dp false c zs)]
 | .bl d c xs,Γ,x,obs=>∃as,evs (Γ.kill (hd d)) xs=some as∧(as.all fun a=>a.stor&&(cellsOf a).length==c.sz)=true∧x= .ls [d] c as.length∧obs=[([d],.box (as.flatMap cellsOf))]
 |_,_,_,_=>False
theorem intro_heads{d:Nat}{r:RA}{l:Lab}{o:Ob}(h:lo (r.intro [d]).2 l=some o):hd d l=true:=by
 rw[(intro_pre d [] r).2]at h
 obtain⟨l',o',rfl,_⟩:=lo_preO _ _ _ h
 simp[hd]
theorem one_heads{d:Nat}{q:Ob}{l:Lab}{o:Ob}(h:lo [([d],q)] l=some o):hd d l=true:=by
 simp only[lo]at h
 split at h
 ·rename_i e;subst e;simp[hd]
 ·cases h
theorem vi_prd{i:I}{Γ:Env}{K:Env->Prop}(hc:i.cr=true)(h:vi S i Γ K):∃d x obs,i.dst=some d∧Prd S i Γ x obs∧(∀l o,lo obs l=some o->hd d l=true)∧K (Γ.made d x obs):=by
 cases i with
 |al d c=>exact⟨d,_,_,rfl,⟨rfl,rfl⟩,fun l o=>one_heads,h⟩
 |bx d o c=>
  obtain⟨a,e,hs,h⟩:=need_iff h
  exact⟨d,_,_,rfl,⟨a,e,hs,rfl,rfl⟩,fun l o=>one_heads,h⟩
 |mk d dp c n=>
  obtain⟨a,e,h⟩:=need_iff h
  split at h
  ·rename_i k m
   obtain⟨h0,h1,h2,h⟩:=h
   exact⟨d,_,_,rfl,⟨k,m,e,h0,h1,h2,rfl,rfl⟩,fun l o=>one_heads,h⟩
  ·exact h.elim
 |ca d f xs=>
  cases d with
  |none=>cases hc
  |some d=>
   obtain⟨as,e,r,hs,hsf,h⟩:=need_iff h
   exact⟨d,_,_,rfl,⟨as,r,e,hs,hsf,rfl,rfl⟩,fun l o=>intro_heads,h⟩
 |cf d y xs=>
  cases d with
  |none=>cases hc
  |some d=>
   obtain⟨f,e1,h⟩:=need_iff h
   obtain⟨as,e,r,hs,hsf,h⟩:=need_iff h
   exact⟨d,_,_,rfl,⟨f,as,r,e1,e,hs,hsf,rfl,rfl⟩,fun l o=>intro_heads,h⟩
 |bl d c xs=>
  obtain⟨as,e,hs,h⟩:=need_iff h
  exact⟨d,_,_,rfl,⟨as,e,hs,rfl,rfl⟩,fun l o=>one_heads,h⟩
 |bs d dp c xs=>
  cases xs with
  |nil=>cases hc
  |cons x xs=>
   simp only[vi]at h
   obtain⟨as,e1,h⟩:=need_iff h
   obtain⟨zs,e2,h1,h⟩:=need_iff h
   exact⟨d,_,_,rfl,⟨as,zs,e1,e2,h1,rfl,rfl⟩,fun l o=>one_heads,h⟩
 |an d dp c o y=>
  simp only[vi]at h
  obtain⟨a,e1,h⟩:=need_iff h
  split at h
  ·rename_i c'
   obtain⟨b,e2,h⟩:=need_iff h
   obtain⟨zs,e3,h1,h2,h⟩:=need_iff h
   exact⟨d,_,_,rfl,⟨c',b,zs,e1,e2,e3,h1,h2,rfl,rfl⟩,fun l o=>one_heads,h⟩
  ·exact h.elim
 |_=>cases hc
theorem prd_vi{i:I}{Γ:Env}{K:Env->Prop}{d:Nat}{x:AV}{obs:List (Lab×Ob)}(hd':i.dst=some d)(hp:Prd S i Γ x obs)(h:K (Γ.made d x obs)):vi S i Γ K:=by
 cases i with
 |al e c=>cases hd';obtain⟨rfl,rfl⟩:=hp;exact h
 |bx e o c=>cases hd';obtain⟨a,e,hs,rfl,rfl⟩:=hp;exact need_mk e ⟨hs,h⟩
 |mk e dp c n=>cases hd';obtain⟨k,m,e,h0,h1,h2,rfl,rfl⟩:=hp;exact need_mk e ⟨h0,h1,h2,h⟩
 |ca e f xs=>cases hd';obtain⟨as,r,e,hs,hsf,rfl,rfl⟩:=hp;exact need_mk e ⟨r,hs,hsf,h⟩
 |cf e y xs=>cases hd';obtain⟨f,as,r,e1,e,hs,hsf,rfl,rfl⟩:=hp;exact need_mk e1 (need_mk e ⟨r,hs,hsf,h⟩)
 |bl e c xs=>cases hd';obtain⟨as,e,hs,rfl,rfl⟩:=hp;exact need_mk e ⟨hs,h⟩
 |bs e dp c xs=>
  cases hd'
  cases xs with
  |nil=>exact hp.elim
  |cons y ys=>obtain⟨as,zs,e1,e2,h1,rfl,rfl⟩:=hp;exact need_mk e1 (need_mk e2 ⟨h1,h⟩)
 |an e dp c o y=>cases hd';obtain⟨c',b,zs,e1,e2,e3,h1,h2,rfl,rfl⟩:=hp;exact need_mk e1 (need_mk e2 (need_mk e3 ⟨h1,h2,h⟩))
 |_=>exact hp.elim
theorem prd_frame{p:Lab->Bool}{i:I}{Γ Γ2:Env}{x:AV}{obs:List (Lab×Ob)}(hA:Agr p Γ Γ2 i.looks)(hp:Prd S i Γ x obs):Prd S i Γ2 x obs:=by
 cases i with
 |al e c=>exact hp
 |bx e o c=>
  obtain⟨a,h,r⟩:=hp
  exact⟨a,((hA.kill (hd e)).ev fun t ht=>ht).trans h,r⟩
 |mk e dp c n=>
  obtain⟨k,m,h,r⟩:=hp
  exact⟨k,m,(hA.ev fun t ht=>ht).trans h,r⟩
 |ca e f xs=>
  cases e with
  |none=>exact hp.elim
  |some e=>
   obtain⟨as,r,h,hs,hsf,r'⟩:=hp
   obtain⟨e1,e2⟩:=hA.co (xs:=xs) fun t ht=>ht
   exact⟨as,r,e1.trans h,hs,by rw[e2];exact hsf,r'⟩
 |cf e y xs=>
  cases e with
  |none=>exact hp.elim
  |some e=>
   obtain⟨f,as,r,h0,h,hs,hsf,r'⟩:=hp
   obtain⟨e1,e2⟩:=hA.co (xs:=xs) fun t ht=>List.mem_append_right _ ht
   exact⟨f,as,r,by rw[hA.ev fun t ht=>List.mem_append_left _ ht];exact h0,e1.trans h,hs,by rw[e2];exact hsf,r'⟩
 |bl e c xs=>
  obtain⟨as,h,r⟩:=hp
  exact⟨as,((hA.kill (hd e)).evs fun t ht=>ht).trans h,r⟩
 |bs e dp c xs=>
  cases xs with
  |nil=>exact hp.elim
  |cons y ys=>
   obtain⟨as,zs,e1,e2,h1,r⟩:=hp
   have hA':=hA.kill (hd e)
   have hf:=hA'.evsf (xs:=y::ys) (fun t ht=>ht) e1
   exact⟨as,zs,(hA'.evs fun t ht=>ht).trans e1,(pks_agr hA' hf).trans e2,h1,r⟩
 |an e dp c o y=>
  obtain⟨c',b,zs,e1,e2,e3,h1,r⟩:=hp
  have hA':=hA.kill (hd e)
  have hf:=hA'.evf (o:=y) (fun t ht=>List.mem_append_right _ ht) e2
  exact⟨c',b,zs,(hA'.ev fun t ht=>List.mem_append_left _ ht).trans e1,(hA'.ev fun t ht=>List.mem_append_right _ ht).trans e2,(pk_agr hA' hf).trans e3,by rw[shr_agr hA' hf];exact h1,r⟩
 |_=>exact hp.elim
end
end Go.Q
namespace Go.Q
section
variable {S:FuncId->List SA->RA->Prop} {p:Lab->Bool} {Γ Γ2:Env}
structure Fre (p:Lab->Bool) (Γ:Env) (ts:List Nat):Prop where
 fr:∀t∈ts,∀x,lk Γ.tm t=some x->x.refs p=false
 bx:∀l ls,p l=false->lo Γ.ob l=some (.box ls)->refsL p ls=false
theorem Fre.ev{ts:List Nat}{o:O}(h:Fre p Γ ts)(hs:∀t∈o.tm,t∈ts){x:AV}(he:Q.ev Γ o=some x):x.refs p=false:=by
 cases o with
 |t n=>exact h.fr n (hs n (by simp[O.tm])) x he
 |_=>simp only[Q.ev,Option.some.injEq]at he;subst he;rfl
theorem refsL_take:∀ {ls:List AV} (n:Nat),refsL p ls=false->refsL p (ls.take n)=false
 | [],n,h=>by simp[refsL]
 |a::ls,0,h=>rfl
 |a::ls,n+1,h=>by
  simp only[refsL,Bool.or_eq_false_iff]at h
  simp only[List.take_succ_cons,refsL,h.1,refsL_take n h.2,Bool.or_false]
theorem refsL_get{ls:List AV}{i:Nat}{x:AV}(h:refsL p ls=false)(hx:ls[i]? =some x):x.refs p=false:=by
 induction ls generalizing i with
 |nil=>simp at hx
 |cons a as ih=>
  simp only[refsL,Bool.or_eq_false_iff]at h
  cases i with
  |zero=>simp only[List.getElem?_cons_zero,Option.some.injEq]at hx;subst hx;exact h.1
  |succ i=>exact ih h.2 (by simpa using hx)
theorem refsL_append{as bs:List AV}(h:refsL p as=false)(k:refsL p bs=false):refsL p (as++bs)=false:=by
 induction as with
 |nil=>exact k
 |cons a as ih=>
  simp only[refsL,Bool.or_eq_false_iff]at h
  simp only[List.cons_append,refsL,h.1,ih h.2,Bool.or_false]
theorem lv_refs:∀(f:Nat) (cs:List Ki) (x:HL cs),refsL p (lv f cs x)=false:=fun f cs x=>by
 have h:=lv_v f cs x
 generalize lv f cs x=ls at h
 induction ls with
 |nil=>rfl
 |cons a as ih=>
  obtain⟨_,c,y,rfl⟩:=h a (by simp)
  simp only[refsL,AV.refs,Bool.false_or]
  exact ih fun b hb=>h b (by simp[hb])
theorem cellsOf_refs{x:AV}(h:x.refs p=false):refsL p (cellsOf x)=false:=by
 cases x with
 |v c y=>
  cases c with
  |struct n=>simp only[cellsOf,lvs];exact lv_refs _ _ _
  |_=>simp only[cellsOf,refsL,AV.refs,Bool.or_false]
 |ag n ls=>simpa[cellsOf,AV.refs]using h
 |_=>simp only[cellsOf,refsL,Bool.or_false];exact h
theorem setAt_refs:∀ {ls:List AV} {k:Nat} {xs:List AV},refsL p ls=false->refsL p xs=false->refsL p (setAt ls k xs)=false
 |ls,_,[],h,_=>by cases ls<;>exact h
 | [],_,_::_,h,_=>rfl
 |l::ls,0,x::xs,h,k=>by
  simp only[refsL,Bool.or_eq_false_iff]at h k
  simp only[setAt,refsL,k.1,setAt_refs h.2 k.2,Bool.or_false]
 |l::ls,n+1,x::xs,h,k=>by
  simp only[refsL,Bool.or_eq_false_iff]at h
  simp only[setAt,refsL,h.1,setAt_refs h.2 k,Bool.or_false]
theorem zA_refs(c:Ki):refsL p (zA c)=false:=by
 have h1:∀c,(z1 c).refs p=false:=fun c=>by cases c<;>rfl
 have h2:∀cs:List Ki,refsL p (cs.map z1)=false:=fun cs=>by
  induction cs with
  |nil=>rfl
  |cons c cs ih=>simp only[List.map_cons,refsL,h1,ih,Bool.or_false]
 cases c with
 |struct n=>exact h2 _
 |_=>simp only[zA,refsL,h1,Bool.or_false]
theorem fillA_refs:∀ {as:List (Nat×AV)} {ls:List AV},refsL p ls=false->(∀y∈as,y.2.refs p=false)->refsL p (fillA ls as)=false
 | [],ls,h,_=>h
 |(off,a)::r,ls,h,k=>fillA_refs (as:=r) (setAt_refs h (cellsOf_refs (k (off,a) (by simp)))) fun y hy=>k y (List.mem_cons_of_mem _ hy)
theorem Fre.evs{ts:List Nat}{xs:List O}(h:Fre p Γ ts)(hs:∀t∈xs.flatMap O.tm,t∈ts){as:List AV}(he:Q.evs Γ xs=some as):refsL p as=false:=by
 induction xs generalizing as with
 |nil=>cases he;rfl
 |cons o r ih=>
  simp only[List.flatMap_cons,List.mem_append]at hs
  simp only[Q.evs,Option.bind_eq_some_iff,Option.map_eq_some_iff]at he
  obtain⟨x,e1,s,e2,rfl⟩:=he
  simp only[refsL,h.ev (fun t ht=>hs t (.inl ht)) e1,ih (fun t ht=>hs t (.inr ht)) e2,Bool.or_false]
theorem Fre.evp{ts:List Nat}{xs:List (Nat×Nat×O)}(h:Fre p Γ ts)(hs:∀t∈xs.flatMap (fun x=>x.2.2.tm),t∈ts){as:List (Nat×AV)}(he:Q.evp Γ xs=some as):∀y∈as,y.2.refs p=false:=by
 induction xs generalizing as with
 |nil=>cases he;intro y hy;cases hy
 |cons z r ih=>
  obtain⟨off,sz,o⟩:=z
  simp only[List.flatMap_cons,List.mem_append]at hs
  simp only[Q.evp,Option.bind_eq_some_iff]at he
  obtain⟨x,e1,he⟩:=he
  split at he
  ·simp only[Option.map_eq_some_iff]at he
   obtain⟨s,e2,rfl⟩:=he
   intro y hy
   rcases List.mem_cons.1 hy with rfl|hy
   ·exact h.ev (fun t ht=>hs t (.inl ht)) e1
   ·exact ih (fun t ht=>hs t (.inr ht)) e2 y hy
  ·cases he
theorem rd_fr:∀ {i:I} {Γ:Env} {x:AV} {d:Nat},i.rd=true->i.dst=some d->Fre p Γ i.looks->vi S i Γ (fun Γ'=>Same Γ' (Γ.puto x i.dst))->x.refs p=false∨vi S i Γ (fun _=>False):=by
 intro i
 induction i with
 |mv d o=>
  intro Γ x e _ _ hF h
  obtain⟨a,ea,h⟩:=need_iff h
  simp only[I.dst,Same_put]at h;subst h
  exact .inl (hF.ev (fun t ht=>ht) ea)
 |nck d o=>
  intro Γ x e _ _ hF h
  obtain⟨a,ea,h⟩:=need_iff h
  have hf:=hF.ev (o:=o) (fun t ht=>ht) ea
  simp only[I.dst,Same_put]at h
  split at h
  ·obtain⟨y,_,rfl⟩:=h;exact .inl rfl
  ·subst h;exact .inl hf
  ·subst h;exact .inl hf
  ·exact h.elim
 |un d u o=>
  intro Γ x e _ _ hF h
  obtain⟨a,ea,h⟩:=need_iff h
  obtain⟨b,eb,h⟩:=need_iff h
  simp only[I.dst,Same_put]at h;subst h
  unfold vu at eb
  split at eb<;>simp_all
  all_goals (subst eb;exact .inl rfl)
 |bi d b y z=>
  intro Γ x e _ _ hF h
  obtain⟨a,ea,h⟩:=need_iff h
  obtain⟨a',ea',h⟩:=need_iff h
  simp only[I.dst,Same_put]at h
  unfold vb at h
  split at h<;>first|exact h.elim|(obtain⟨_,_,rfl⟩:=h;exact .inl rfl)|(obtain⟨_,rfl⟩:=h;exact .inl rfl)|(subst h;exact .inl rfl)
 |be d ne y z=>
  intro Γ x e _ _ hF h
  obtain⟨a,ea,h⟩:=need_iff h
  simp only[I.dst,Same_put]at h
  split at h
  ·obtain⟨a',ea',h⟩:=need_iff h
   split at h
   ·subst h;exact .inl rfl
   ·exact h.elim
  ·exact h.elim
 |pk d c y z=>
  intro Γ x e _ _ hF h
  obtain⟨a,ea,h⟩:=need_iff h
  simp only[I.dst,Same_put]at h
  split at h
  ·rename_i b
   cases b with
   |true=>
    obtain⟨a',ea',h⟩:=need_iff (h.1 rfl)
    subst h
    exact .inl (hF.ev (o:=y) (fun t ht=>by simp[I.looks,ht]) ea')
   |false=>
    obtain⟨a',ea',h⟩:=need_iff (h.2 rfl)
    subst h
    exact .inl (hF.ev (o:=z) (fun t ht=>by simp[I.looks,ht]) ea')
  ·exact h.elim
 |fa d o n j off=>
  intro Γ x e _ _ hF h
  obtain⟨a,ea,h⟩:=need_iff h
  have hf:=hF.ev (o:=o) (fun t ht=>ht) ea
  simp only[I.dst,Same_put]at h
  split at h
  ·obtain⟨y,_,h⟩:=h
   obtain⟨z,_,h⟩:=need_iff h
   split at h
   ·obtain⟨_,rfl⟩:=h;exact .inl rfl
   ·exact h.elim
  ·subst h;exact .inl hf
  ·subst h;exact .inl hf
  ·exact h.elim
 |ia d o y c=>
  intro Γ x e _ _ hF h
  obtain⟨a,ea,h⟩:=need_iff h
  have hf:=hF.ev (o:=o) (fun t ht=>by simp[I.looks,ht]) ea
  obtain⟨a',ea',h⟩:=need_iff h
  simp only[I.dst,Same_put]at h
  split at h
  ·split at h
   ·obtain⟨_,_,_,rfl⟩:=h;exact .inl rfl
   ·obtain⟨q,_,h⟩:=need_iff h
    split at h
    ·obtain⟨_,_,_,rfl⟩:=h;exact .inl hf
    ·exact h.elim
   ·exact h.elim
  ·exact h.elim
 |ld d o c=>
  intro Γ x e _ _ hF h
  obtain⟨a,ea,h⟩:=need_iff h
  have hf:=hF.ev (o:=o) (fun t ht=>ht) ea
  simp only[I.dst,Same_put]at h
  split at h
  ·obtain⟨y,_,_,rfl⟩:=h;exact .inl rfl
  ·obtain⟨q,eq,h⟩:=need_iff h
   split at h
   ·rename_i ls
    have hb:=hF.bx _ ls (by simpa[AV.refs]using hf) eq
    split at h
    ·obtain⟨_,rfl⟩:=h
     simp only[AV.refs];exact .inl (refsL_take _ (refsL_drop _ hb))
    ·obtain⟨y,hy,_,rfl⟩:=h;exact .inl (refsL_get hb hy)
   ·exact h.elim
  ·obtain⟨q,eq,h⟩:=need_iff h
   split at h
   ·obtain⟨_,_,_,_,_,rfl⟩:=h;exact .inl rfl
   ·exact h.elim
  ·exact h.elim
 |ln d st o=>
  intro Γ x e _ _ hF h
  cases st with
  |false=>
   obtain⟨a,ea,h⟩:=need_iff h
   simp only[I.dst,Same_put]at h
   split at h
   ·rename_i xs
    by_cases hl:((List.length xs:Nat):Int)<=9223372036854775807
    ·have:=h hl;subst this;exact .inl rfl
    ·exact .inr (need_mk ea fun hh=>absurd hh hl)
   ·rename_i l
    obtain⟨q,eq,h⟩:=need_iff h
    split at h
    ·rename_i xs
     by_cases hl:((List.length xs:Nat):Int)<=9223372036854775807
     ·have:=h hl;subst this;exact .inl rfl
     ·exact .inr (need_mk ea (need_mk eq fun hh=>absurd hh hl))
    ·exact h.elim
   ·subst h;exact .inl rfl
   ·exact h.elim
  |true=>
   obtain⟨a,ea,h⟩:=need_iff h
   simp only[I.dst,Same_put]at h
   split at h
   ·rename_i s
    by_cases hl:((List.length s:Nat):Int)<=9223372036854775807
    ·have:=h hl;subst this;exact .inl rfl
    ·exact .inr (need_mk ea fun hh=>absurd hh hl)
   ·exact h.elim
 |cv d f xs=>
  intro Γ x e _ hd' hF h
  cases hd'
  obtain⟨as,ea,r,hs,h⟩:=need_iff h
  split at h
  ·obtain⟨_,h⟩:=h
   simp only[I.dst]at h
   have:=Same_put.1 h
   subst this;exact .inl rfl
  ·obtain⟨_,h⟩:=h
   simp only[I.dst]at h
   have:=Same_put.1 h
   subst this;exact .inl rfl
  ·exact h.elim
 |cfr d o xs=>
  intro Γ x e _ _ hF h
  obtain⟨f,e1,h⟩:=need_iff h
  obtain⟨as,e2,c,y,h1,h2,h⟩:=need_iff h
  simp only[I.dst,Same_put]at h;subst h;exact .inl rfl
 |ci d k y=>
  intro Γ x e _ _ hF h
  obtain⟨a,e1,h⟩:=need_iff h
  split at h
  ·simp only[I.dst,Same_put]at h;subst h;exact .inl rfl
  ·exact h.elim
 |cs d y=>
  intro Γ x e _ _ hF h
  obtain⟨a,e1,h⟩:=need_iff h
  obtain⟨xs,e2,h⟩:=need_iff h
  simp only[I.dst,Same_put]at h;subst h;exact .inl rfl
 |ix d y i=>
  intro Γ x e _ _ hF h
  obtain⟨a,e1,h⟩:=need_iff h
  split at h
  ·obtain⟨b,e2,h⟩:=need_iff h
   split at h
   ·obtain⟨_,_,h⟩:=h
    simp only[I.dst,Same_put]at h;subst h;exact .inl rfl
   ·exact h.elim
  ·exact h.elim
 |xt d y i=>
  intro Γ x e _ _ hF h
  obtain⟨a,e1,h⟩:=need_iff h
  split at h
  ·rename_i as
   obtain⟨b,e2,h⟩:=need_iff h
   simp only[I.dst,Same_put]at h;subst h
   have:=hF.ev (o:=y) (fun t ht=>by simp[I.looks,ht]) e1
   simp only[AV.refs]at this
   exact .inl (refsL_get this e2)
  ·exact h.elim
 |bf d c xs=>
  intro Γ x e _ _ hF h
  obtain⟨a,e1,h⟩:=need_iff h
  obtain⟨b,e2,_,h⟩:=need_iff h
  simp only[I.dst,Same_put]at h;subst h;exact .inl rfl
 |sx d y lo hi=>
  intro Γ x e _ _ hF h
  obtain⟨a,e1,h⟩:=need_iff h
  split at h
  ·obtain⟨b,e2,h⟩:=need_iff h
   obtain⟨c,e3,h⟩:=need_iff h
   obtain⟨_,_,_,h⟩:=h
   simp only[I.dst,Same_put]at h;subst h;exact .inl rfl
  ·exact h.elim
 |bd d n xs=>
  intro Γ x e _ _ hF h
  obtain⟨as,ea,h⟩:=need_iff h
  simp only[I.dst,Same_put]at h;subst h
  simp only[AV.refs];exact .inl (fillA_refs (zA_refs _) (hF.evp (fun t ht=>ht) ea))
 |bs d dp c xs=>
  cases xs with
  |cons x xs=>intro _ _ _ h;cases h
  |nil=>
   intro Γ x e _ _ hF h
   simp only[vi,I.dst,Same_put]at h;subst h;exact .inl rfl
 |g t b i ih=>
  intro Γ x e hr hd' hF h
  obtain⟨a,ea,h⟩:=need_iff h
  split at h
  ·rename_i y
   by_cases hb:y=b
   ·subst hb
    have h1:vi S i ⟨(t,.v .bool y)::Γ.tm,Γ.ob⟩ (fun Γ'=>Same Γ' ((⟨(t,.v .bool y)::Γ.tm,Γ.ob⟩:Env).puto x i.dst)):=vi_imp (fun Γ' (hh:Same Γ' (Γ.puto x i.dst))=>hh.trans ((Same_again ea).symm.puto x i.dst)) hr (h.1 rfl)
    have hF':Fre p ⟨(t,.v .bool y)::Γ.tm,Γ.ob⟩ i.looks:=by
     refine⟨fun t' ht x' hx'=> ?_,hF.bx⟩
     simp only[lk]at hx'
     split at hx'
     ·cases hx';rfl
     ·exact hF.fr t' (by simp[I.looks,ht]) x' hx'
    rcases ih hr hd' hF' h1 with h2|h2
    ·exact .inl h2
    ·exact .inr (need_mk ea ⟨fun _=>h2,fun hb=>by cases y<;>cases hb⟩)
   ·have hy:y= !b:=by cases y<;>cases b<;>simp_all
    subst hy
    have h2:=h.2 rfl
    rw[skip_puto]at h2
    have hd2:i.dst=some e:=hd'
    have h3:=h2.1 e
    simp only[I.dst,hd2,Env.puto,lk_put,if_true,Option.some.injEq]at h3
    subst h3;exact .inl rfl
  ·have h2:Same (Γ.skip i.dst) (Γ.puto x i.dst):=h
   rw[skip_puto]at h2
   have hd2:i.dst=some e:=hd'
   have h3:=h2.1 e
   simp only[hd2,Env.puto,lk_put,if_true,Option.some.injEq]at h3
   subst h3;exact .inl rfl
  ·exact h.elim
 |_=>intro _ _ _ h;cases h
theorem intro_refs{d:Nat}(hp:∀l,hd d l=true->p l=false)(r:RA):(r.intro [d]).1.refs p=false∧∀l ls,lo (r.intro [d]).2 l=some (.box ls)->refsL p ls=false:=by
 have pre:∀(x:AV),(x.pre d).refs p=false∧True:=fun x=>⟨preR x,trivial⟩
 refine⟨by rw[(intro_pre d [] r).1];exact preR _,fun l ls h=> ?_⟩
 rw[(intro_pre d [] r).2]at h
 obtain⟨l',o',rfl,e,_⟩:=lo_preO _ _ _ h
 cases o' with
 |row _ _ _ _=>simp[Ob.pre]at e
 |mp _ _ _=>simp[Ob.pre]at e
 |box ls'=>simp only[Ob.pre,Ob.box.injEq]at e;subst e;exact preRL ls'
where
 preR:∀(x:AV),(x.pre d).refs p=false
  | .sl l=>hp (d::l) (by simp[hd])
  | .pt l o=>hp (d::l) (by simp[hd])
  | .ep l c i o=>hp (d::l) (by simp[hd])
  | .ag n ls=>preRL ls
  | .fn f cs=>preRL cs
  | .tu vs=>preRL vs
  | .v c x=>rfl
  | .nl c=>rfl
  | .cl c xs=>rfl
  | .mp l=>hp (d::l) (by simp[hd])
  | .ls l c n=>hp (d::l) (by simp[hd])
  | .no=>rfl
  | .ud=>rfl
 preRL:∀(xs:List AV),refsL p (preL d xs)=false
  | []=>rfl
  |x::xs=>by simp only[preL,refsL,preR x,preRL xs,Bool.or_false]
theorem prd_fr{i:I}{x:AV}{obs:List (Lab×Ob)}{d:Nat}(hd':i.dst=some d)(hp:∀l,hd d l=true->p l=false)(hF:Fre p Γ i.looks)(h:Prd S i Γ x obs):
  x.refs p=false∧∀l ls,lo obs l=some (.box ls)->refsL p ls=false:=by
 have h1:p [d]=false:=hp [d] (by simp[hd])
 cases i with
 |al e c=>
  cases hd';obtain⟨rfl,rfl⟩:=h
  refine⟨h1,fun l ls hl=> ?_⟩
  simp only[lo]at hl
  split at hl
  ·cases hl;exact zA_refs c
  ·cases hl
 |bx e o c=>
  cases hd';obtain⟨a,e,_,rfl,rfl⟩:=h
  refine⟨h1,fun l ls hl=> ?_⟩
  simp only[lo]at hl
  split at hl
  ·cases hl
   refine cellsOf_refs ?_
   cases o with
   |t n=>
    simp only[ev,Env.kill,lk_killT,Option.map_eq_some_iff]at e
    obtain⟨y,hy,rfl⟩:=e
    have:=hF.fr n (by simp[I.looks,O.tm]) y hy
    unfold AV.kill
    split
    ·rfl
    ·exact this
   |_=>simp only[ev,Option.some.injEq]at e;subst e;rfl
  ·cases hl
 |mk e dp c n=>
  cases hd';obtain⟨k,m,_,_,_,_,rfl,rfl⟩:=h
  exact⟨h1,fun l ls hl=>by simp only[lo]at hl;split at hl<;>cases hl⟩
 |ca e f xs=>
  cases hd';obtain⟨as,r,_,_,_,rfl,rfl⟩:=h
  exact intro_refs hp r
 |cf e y xs=>
  cases hd';obtain⟨f,as,r,_,_,_,_,rfl,rfl⟩:=h
  exact intro_refs hp r
 |bl e c xs=>
  cases hd';obtain⟨as,e1,he0,rfl,rfl⟩:=h
  clear he0
  refine⟨h1,fun l ls hl=> ?_⟩
  simp only[lo]at hl
  split at hl
  ·cases hl
   have hA:=(Agr.kill (p:=p) (Γ:=Γ) (Γ2:=Γ) (ts:=(I.bl d c xs).looks) ⟨fun _ _=>rfl,fun _ _=>rfl,hF.fr,hF.bx⟩ (hd d))
   have hf:=Fre.evs (Γ:=Γ.kill (hd d)) ⟨hA.fr,hA.bx⟩ (fun t ht=>ht) e1
   clear e1
   induction as with
   |nil=>rfl
   |cons a as ih=>
    simp only[refsL,Bool.or_eq_false_iff]at hf
    rw[List.flatMap_cons]
    exact refsL_append (cellsOf_refs hf.1) (ih hf.2)
  ·cases hl
 |bs e dp c xs=>
  cases hd'
  cases xs with
  |nil=>exact h.elim
  |cons y ys=>
   obtain⟨as,zs,_,_,_,rfl,rfl⟩:=h
   exact⟨h1,fun l ls hl=>by simp only[lo]at hl;split at hl<;>cases hl⟩
 |an e dp c o y=>
  cases hd';obtain⟨c',b,zs,_,_,_,_,_,rfl,rfl⟩:=h
  exact⟨h1,fun l ls hl=>by simp only[lo]at hl;split at hl<;>cases hl⟩
 |_=>exact h.elim
end
end Go.Q
namespace Go.Q
def I.cdst(i:I):Option Nat:=if i.cr then i.dst else none
def dsts(is:List I):List Nat:=is.filterMap I.dst
def cdsts(is:List I):List Nat:=is.filterMap I.cdst
def stat:List I->Bool
 | []=>true
 |i::is=>(i.rd||i.cr)&&(match i.dst with|some d=> !(dsts is).contains d|none=>true)&&i.looks.all (fun t=> !(dsts (i::is)).contains t)&&stat is
def edg(o:Oper):List Nat:=(o.after.toList.filter (Region.binds .any)).map Edge.on
def chkE(ops:List Oper):Bool:=(List.range ops.length).all fun i=>match ops[i]? with|some o=>(edg o).all fun j=>Nat.blt j i|none=>true
def chkP(ps:List I)(ops:List Oper):Bool:=(List.range ps.length).all fun i=>match ps[i]?,ops[i]? with
 |some p,some o=>p.looks.all fun t=>(List.range ps.length).all fun j=>(ps[j]?.bind I.dst) !=some t||(edg o).contains j
 |_,_=>true
def cloA:List Oper->List (List Nat)->List (List Nat)
 | [],acc=>acc
 |o::os,acc=>cloA os (acc++[(List.range acc.length).filter fun k=>(edg o).any fun j=>Nat.blt j acc.length&&(j==k||(acc.getD j []).contains k)])
def chkT(n:Nat)(ops:List Oper):Bool:=
 let cl:=cloA ops []
 (List.range ops.length).all fun i=>Nat.blt i n||(List.range i).all fun j=>(cl.getD i []).contains j
def drM(P:Program)(N:Nat)(ds:List Nat)(ps ts:List I)(ops:List Oper):Bool:=
 P.follows .mixedOrders&&gms P N ops (ps++ts) ops&&stat ps&&chkE ops&&chkP ps ops&&chkT ps.length ops&&ds==cdsts ps
section
variable {S:FuncId->List SA->RA->Prop} {P:Program} {N:Nat} {G:Gd} {σ:Lab->Value} {ow:Own} {w:World} {a:Act} {Γ:Env} {K:Env->Prop} {Q:Exit->Act->World->Prop} {o:Oper}
theorem wp_some{next:Act->World->Prop}(h:o.wp P a w next fun _ _ _=>False):∃a' w',next a' w':=by
 unfold Oper.wp at h
 generalize (execOp a.eval o).run P w=r at h
 cases r with
 |ok n w'=>
  cases n with
  |value v=>exact⟨_,_,h⟩
  |skip=>exact⟨_,_,h⟩
  |defer d=>exact⟨_,_,h⟩
  |enter f args=>
   obtain⟨e,w'',fr,hR,_⟩:=h []
   cases e with
   |returned v=>exact⟨_,_,hR⟩
   |panicked c=>exact hR.elim
   |outgrown=>obtain⟨_,_,h⟩:=hR;exact h.elim
  |row row args=>
   obtain⟨v,w',h,_⟩:=h default []
   exact⟨_,_,h⟩
  |_=>exact h.elim
 |halt x w'=>
  cases x<;>exact h.elim
theorem hds_iff{ds:List Nat}{l:Lab}:hds ds l=true↔ ∃d∈ds,hd d l=true:=by
 cases l with
 |nil=>simp[hds,hd]
 |cons n l=>
  simp only[hds,List.contains_iff_mem,hd,beq_iff_eq]
  constructor
  ·intro h;exact⟨n,h,rfl⟩
  ·rintro⟨d,h,rfl⟩;exact h
theorem hds_dst{is:List I}{l:Lab}{d:Nat}(h:hds (cdsts is) l=true)(hl:hd d l=true):d∈dsts is:=by
 obtain⟨d',h1,h2⟩:=hds_iff.1 h
 have e:d'=d:=by
  cases l with
  |nil=>simp[hd]at h2
  |cons n l=>simp only[hd,beq_iff_eq]at h2 hl;omega
 rw[e]at h1
 simp only[cdsts,List.mem_filterMap]at h1
 obtain⟨j,hj,hjd⟩:=h1
 unfold I.cdst at hjd
 split at hjd
 ·exact List.mem_filterMap.2 ⟨j,hj,hjd⟩
 ·cases hjd
mutual
theorem refs_or{p q:Lab->Bool}:∀(x:AV),x.refs (fun l=>p l||q l)=(x.refs p||x.refs q)
 | .v _ _=>rfl
 | .sl _=>rfl
 | .pt _ _=>rfl
 | .ep _ _ _ _=>rfl
 | .ag _ ls=>refsL_or ls
 | .fn _ ls=>refsL_or ls
 | .tu ls=>refsL_or ls
 | .nl _=>rfl
 | .cl _ _=>rfl
 | .mp _=>rfl
 | .ls _ _ _=>rfl
 | .no=>rfl
 | .ud=>rfl
theorem refsL_or{p q:Lab->Bool}:∀(xs:List AV),refsL (fun l=>p l||q l) xs=(refsL p xs||refsL q xs)
 | []=>rfl
 |x::xs=>by simp only[refsL,refs_or x,refsL_or xs];cases x.refs p<;>cases x.refs q<;>cases refsL p xs<;>cases refsL q xs<;>rfl
end
theorem refs_mono{p q:Lab->Bool}(h:∀l,q l=true->p l=true){x:AV}(hx:x.refs p=false):x.refs q=false:=by
 have e:p=fun l=>p l||q l:=by
  funext l
  cases hq:q l with
  |false=>simp
  |true=>simp[h l hq]
 rw[e,refs_or,Bool.or_eq_false_iff]at hx
 exact hx.2
theorem refsL_mono{p q:Lab->Bool}(h:∀l,q l=true->p l=true){x:List AV}(hx:refsL p x=false):refsL q x=false:=by
 have e:p=fun l=>p l||q l:=by
  funext l
  cases hq:q l with
  |false=>simp
  |true=>simp[h l hq]
 rw[e,refsL_or,Bool.or_eq_false_iff]at hx
 exact hx.2
theorem Free.mono{p q:Lab->Bool}(h:∀l,q l=true->p l=true)(hF:Free p Γ):Free q Γ:=
 ⟨fun t x hx=>refs_mono h (hF.tm t x hx),fun l o ho=>by
  obtain⟨h1,h2⟩:=hF.ob l o ho
  refine⟨?_,fun ls e=>refsL_mono h (h2 ls e)⟩
  cases hq:q l with
  |false=>rfl
  |true=>rw[h l hq]at h1;cases h1⟩
theorem Free.same'{p:Lab->Bool}{Γ':Env}(hF:Free p Γ)(h:Same Γ' Γ):Free p Γ':=
 ⟨fun t x hx=>hF.tm t x ((h.1 t).symm.trans hx),fun l o ho=>hF.ob l o ((h.2 l).symm.trans ho)⟩
theorem Free.fre{p:Lab->Bool}(hF:Free p Γ)(ts:List Nat):Fre p Γ ts:=⟨fun t _ x hx=>hF.tm t x hx,fun l ls _ ho=>(hF.ob l _ ho).2 ls rfl⟩
theorem Free.adds{p:Lab->Bool}(hF:Free p Γ){x:AV}{obs:List (Lab×Ob)}(hx:x.refs p=false)(ho:∀l o,lo obs l=some o->p l=false∧∀ls,o= .box ls->refsL p ls=false):∀d,Free p (Γ.adds x obs d)
 |none=>hF
 |some d=>by
  refine⟨fun t y hy=> ?_,fun l o h=> ?_⟩
  ·simp only[Env.adds,lk]at hy
   split at hy
   ·cases hy;exact hx
   ·exact hF.tm t y hy
  ·simp only[Env.adds,lo_append]at h
   split at h
   ·rename_i q hq
    cases h
    exact ho l _ hq
   ·exact hF.ob l o h
structure Fact (S:FuncId->List SA->RA->Prop) (E:Env) (q:Lab->Bool) (i:I) (x:AV) (obs:List (Lab×Ob)) (Γi:Env):Prop where
 lks:∀t∈i.looks,lk E.tm t=lk Γi.tm t
 lobs:∀l,q l=false->lo E.ob l=lo Γi.ob l
 free:Free q Γi
 at':∀d,i.dst=some d->lk E.tm d=some x
 rd:i.rd=true->obs=[]∧vi S i Γi (fun Γ'=>Same Γ' (Γi.puto x i.dst))
 cr:i.rd=false->∃d,i.cr=true∧i.dst=some d∧Prd S i Γi x obs∧(∀l o,lo obs l=some o->hd d l=true)∧∀l,hd d l=true->lo E.ob l=lo obs l
theorem rd_cr{i:I}(h:i.rd=true):i.cr=false:=by
 cases i<;>first|rfl|cases h|skip
 case bs d dp c xs=>cases xs<;>first|rfl|cases h
theorem chain(hS:SOk P G S){ops:List Oper}:∀ {is:List I} {l:List Oper} {σ:Lab->Value} {ow:Own} {w:World} {a:Act} {Γ:Env},stat is=true->gms P N ops is l=true->Rep N G σ ow w a Γ->Free (hds (cdsts is)) Γ->vs S is Γ K->
  ∃E,K E∧(∀t,t∉dsts is->lk E.tm t=lk Γ.tm t)∧(∀l,hds (cdsts is) l=false->lo E.ob l=lo Γ.ob l)∧∀k i,is[k]? =some i->∃x obs Γi,Fact S E (hds (cdsts (is.drop k))) i x obs Γi
 | [],l,σ,ow,w,a,Γ,_,_,_,_,h=>⟨Γ,h,fun _ _=>rfl,fun _ _=>rfl,fun k i h=>by simp at h⟩
 |i::is,[],_,_,_,_,_,_,hm,_,_,_=>by simp[gms]at hm
 |i::is,o::l,σ,ow,w,a,Γ,hs,hm,hr,hF,h=>by
  simp only[gms,Bool.and_eq_true]at hm
  simp only[stat,Bool.and_eq_true,Bool.or_eq_true]at hs
  obtain⟨⟨⟨hrd,hd'⟩,hl⟩,hst⟩:=hs
  have hsub:∀l,hds (cdsts is) l=true->hds (cdsts (i::is)) l=true:=fun l hl=>by
   obtain⟨d,h1,h2⟩:=hds_iff.1 hl
   refine hds_iff.2 ⟨d,?_,h2⟩
   simp only[cdsts,List.filterMap_cons]at h1⊢
   split
   ·exact h1
   ·exact List.mem_cons_of_mem _ h1
  have step:∃x obs a' w' Γ' σ' ow',Same Γ' (Γ.adds x obs i.dst)∧vs S is Γ' K∧Rep N G σ' ow' w' a' Γ'∧x.refs (hds (cdsts is))=false∧(∀l ls,lo obs l=some (.box ls)->refsL (hds (cdsts is)) ls=false)∧
    (i.rd=true->obs=[]∧vi S i Γ (fun Γ'=>Same Γ' (Γ.puto x i.dst)))∧(i.rd=false->∃d,i.cr=true∧i.dst=some d∧Prd S i Γ x obs∧∀l o,lo obs l=some o->hd d l=true):=by
   by_cases hrd':i.rd=true
   ·obtain⟨x,hx⟩:=vi_det hrd' h
    have hx2:vi S i Γ (fun Γ'=>Same Γ' (Γ.puto x i.dst)):=vi_imp (fun Γ' h=>h.1) hrd' hx
    have h1:=snd_g (Q:=fun _ _ _=>False) hS hr hm.1 hx
    obtain⟨a',w',Γ',σ',ow',⟨hsame,hk⟩,hr',_⟩:∃a' w',Post N G ow w (fun Γ'=>Same Γ' (Γ.puto x i.dst)∧vs S is Γ' K) a' w':=by
     split at h1
     ·exact wp_some h1
     ·exact⟨_,_,h1⟩
    have hxr:x.refs (hds (cdsts is))=false∨i.dst=none:=by
     cases hdd:i.dst with
     |none=>exact .inr rfl
     |some d=>
      rcases rd_fr (p:=hds (cdsts is)) hrd' hdd ((hF.mono hsub).fre _) hx2 with h2|h2
      ·exact .inl h2
      ·exfalso
       have h3:=snd_g (Q:=fun _ _ _=>False) hS hr hm.1 h2
       have h4:∃a' w',Post N G ow w (fun _=>False) a' w':=by
        split at h3
        ·exact wp_some h3
        ·exact⟨_,_,h3⟩
       obtain⟨_,_,_,_,_,hf,_⟩:=h4
       exact hf
    rcases hxr with hxr|hxr
    ·exact⟨x,[],a',w',Γ',σ',ow',by rw[adds_nil];exact hsame,hk,hr',hxr,fun l ls h=>(by simp[lo]at h),fun _=>⟨rfl,hx2⟩,fun h=>(by rw[hrd']at h;cases h)⟩
    ·refine⟨.no,[],a',w',Γ',σ',ow',?_,hk,hr',rfl,fun l ls h=>(by simp[lo]at h),fun _=>⟨rfl,?_⟩,fun h=>(by rw[hrd']at h;cases h)⟩
     ·rw[hxr]at hsame⊢;exact hsame
     ·rw[hxr]at hx2⊢;exact hx2
   ·have hcr:i.cr=true:=hrd.resolve_left hrd'
    have hrdf:i.rd=false:=by simpa using hrd'
    obtain⟨d,x,obs,hdd,hp,hh,hk⟩:=vi_prd hcr h
    have hsub2:∀l,hd d l=true->hds (cdsts (i::is)) l=true:=fun l hl=>hds_iff.2 ⟨d,by simp[cdsts,List.filterMap_cons,I.cdst,hcr,hdd],hl⟩
    have hx2:vi S i Γ (fun Γ'=>Γ'=Γ.made d x obs):=prd_vi hdd hp rfl
    have h1:=snd_g (Q:=fun _ _ _=>False) hS hr hm.1 hx2
    obtain⟨a',w',Γ',σ',ow',hsame,hr',_⟩:∃a' w',Post N G ow w (fun Γ'=>Γ'=Γ.made d x obs) a' w':=by
     split at h1
     ·exact wp_some h1
     ·exact⟨_,_,h1⟩
    subst hsame
    have hfd:Free (hd d) Γ:=hF.mono hsub2
    have hnd:∀l,hd d l=true->hds (cdsts is) l=false:=fun l hl=>by
     cases hq:hds (cdsts is) l with
     |false=>rfl
     |true=>
      exfalso
      rw[hdd]at hd'
      have h3:d∉dsts is:=by simpa using hd'
      exact h3 (hds_dst hq hl)
    obtain⟨k1,k2⟩:=prd_fr hdd hnd ((hF.mono hsub).fre _) hp
    refine⟨x,obs,a',w',_,σ',ow',by rw[hdd];exact made_same hfd x obs,hk,hr',k1,k2,fun h=>(by rw[hrdf]at h;cases h),fun _=>⟨d,hcr,hdd,hp,hh⟩⟩
  obtain⟨x,obs,a',w',Γ',σ',ow',hsame,hk,hr',hxr,hor,hrdc,hcrc⟩:=step
  have hoh:∀l o,lo obs l=some o->hds (cdsts is) l=false:=fun l o hlo=>by
   by_cases hrd':i.rd=true
   ·rw[(hrdc hrd').1]at hlo;simp[lo]at hlo
   ·obtain⟨d,hcr,hdd,hp,hh⟩:=hcrc (by simpa using hrd')
    have hl':=hh l o hlo
    cases hq:hds (cdsts is) l with
    |false=>rfl
    |true=>
     exfalso
     rw[hdd]at hd'
     have h3:d∉dsts is:=by simpa using hd'
     exact h3 (hds_dst hq hl')
  have hF':Free (hds (cdsts is)) Γ':=((hF.mono hsub).adds hxr (fun l o hlo=>⟨hoh l o hlo,fun ls e=>hor l ls (e▸hlo)⟩) i.dst).same' hsame
  obtain⟨E,hE,hlk,hlo,hf⟩:=chain hS hst hm.2 hr' hF' hk
  have hlk':∀t,t∉dsts (i::is)->lk E.tm t=lk Γ.tm t:=fun t ht=>by
   have h2:t∉dsts is:=fun h=>ht (by simp only[dsts,List.filterMap_cons];split<;>simp_all[dsts])
   rw[hlk t h2,hsame.1 t]
   cases hi:i.dst with
   |none=>rfl
   |some d=>
    simp only[Env.adds,lk]
    rw[if_neg]
    rintro rfl
    exact ht (by simp[dsts,hi])
  have hlo':∀l,hds (cdsts (i::is)) l=false->lo E.ob l=lo Γ.ob l:=fun l hl'=>by
   have h2:hds (cdsts is) l=false:=by
    cases hq:hds (cdsts is) l with
    |false=>rfl
    |true=>rw[hsub l hq]at hl';cases hl'
   rw[hlo l h2,hsame.2 l]
   by_cases hrd':i.rd=true
   ·rw[(hrdc hrd').1,adds_nil]
    cases i.dst<;>rfl
   ·obtain⟨d,hcr,hdd,hp,hh⟩:=hcrc (by simpa using hrd')
    rw[hdd]
    simp only[Env.adds,lo_append]
    split
    ·rename_i q hq
     have h3:hds (cdsts (i::is)) l=true:=hds_iff.2 ⟨d,by simp[cdsts,List.filterMap_cons,I.cdst,hcr,hdd],hh l q hq⟩
     rw[h3]at hl';cases hl'
    ·rfl
  refine⟨E,hE,hlk',hlo',fun k j hj=> ?_⟩
  cases k with
  |succ k=>simpa using hf k j (by simpa using hj)
  |zero=>
   simp only[List.getElem?_cons_zero,Option.some.injEq]at hj
   subst hj
   refine⟨x,obs,Γ,fun t ht=>hlk' t ?_,hlo',hF,fun d hdd=> ?_,hrdc,fun hrdf=> ?_⟩
   ·have:=List.all_eq_true.1 hl t ht
    simpa using this
   ·rw[hdd]at hd'
    have:d∉dsts is:=by simpa using hd'
    rw[hlk d this,hsame.1 d,hdd]
    simp[Env.adds,lk]
   ·obtain⟨d,hcr,hdd,hp,hh⟩:=hcrc hrdf
    refine⟨d,hcr,hdd,hp,hh,fun l hl'=> ?_⟩
    have hdn:d∉dsts is:=by rw[hdd]at hd';simpa using hd'
    have h2:hds (cdsts is) l=false:=by
     cases hq:hds (cdsts is) l with
     |false=>rfl
     |true=>
      exfalso
      exact hdn (hds_dst hq hl')
    rw[hlo l h2,hsame.2 l,hdd]
    simp only[Env.adds,lo_append]
    split
    ·rename_i q hq;exact hq.symm
    ·rename_i hq
     rw[hq]
     cases hlg:lo Γ.ob l with
     |none=>rfl
     |some q=>
      have h4:=(hF.ob l q hlg).1
      have h3:hds (cdsts (i::is)) l=true:=hds_iff.2 ⟨d,by simp[cdsts,List.filterMap_cons,I.cdst,hcr,hdd],hl'⟩
      rw[h3]at h4
      cases h4
theorem Rep.of_same{Γ':Env}(hr:Rep N G σ ow w a Γ)(h:Same Γ' Γ):Rep N G σ ow w a Γ':=
 ⟨hr.size,hr.defers,fun t x hx=>hr.tm t x ((h.1 t).symm.trans hx),fun l q hq=>hr.ob l q ((h.2 l).symm.trans hq),hr.own,hr.top,fun l q hq=>hr.pin l q ((h.2 l).symm.trans hq),hr.big⟩
theorem gms_at{ops:List Oper}:∀ {is:List I} {l:List Oper},gms P N ops is l=true->is.length=l.length∧∀(k:Nat) (i:I) (o:Oper),is[k]? =some i->l[k]? =some o->i.gm P N ops o=true
 | [],[],_=>⟨rfl,fun k i o h=>by simp at h⟩
 | [],_::_,hm=>by simp[gms]at hm
 |_::_,[],hm=>by simp[gms]at hm
 |i::is,o::l,hm=>by
  simp only[gms,Bool.and_eq_true]at hm
  obtain⟨h1,h2⟩:=gms_at hm.2
  refine⟨by simp[h1],fun k i' o' hi ho=> ?_⟩
  cases k with
  |zero=>simp at hi ho;subst hi ho;exact hm.1
  |succ k=>exact h2 k i' o' (by simpa using hi) (by simpa using ho)
theorem mem_edg{o:Oper}{j:Nat}:j∈edg o↔ ∃e∈o.after,Region.binds .any e=true∧e.on=j:=by
 simp[edg,and_assoc]
structure Lst (n:Nat) (U:List Nat) (listed:Array Bool):Prop where
 iff:∀i,listed.getD i true=false↔i∈U
 lt:∀i∈U,i<n
 no:∀i,i<n->i∉U->listed.getD i false=true
 nodup:U.Nodup
theorem Lst.start(n:Nat):Lst n (List.range n) (Array.replicate n false):=
 ⟨fun i=>by by_cases h:i<n<;>simp[Array.getD,h],fun i h=>by simpa using h,fun i h h'=>by simp at h';omega,List.nodup_range⟩
theorem Lst.step{n:Nat}{U:List Nat}{listed:Array Bool}(h:Lst n U listed){i:Nat}(hi:i∈U):Lst n (U.erase i) (listed.setIfInBounds i true):=by
 have hself:∀d,(listed.setIfInBounds i true).getD i d=true:=fun d=>by
  have h1:=(h.iff i).2 hi
  have hlt:i<listed.size:=by
   rcases Nat.lt_or_ge i listed.size with h'|h'
   ·exact h'
   ·simp[Array.getD,Nat.not_lt.2 h']at h1
  simp[Array.getD,hlt]
 refine⟨fun j=> ?_,fun j hj=>h.lt j (List.mem_of_mem_erase hj),fun j hlt hj=> ?_,h.nodup.erase i⟩
 ·by_cases e:i=j
  ·subst e
   rw[hself]
   have:=h.nodup.not_mem_erase (a:=i)
   simp[this]
  ·rw[getD_set_ne _ e,h.iff j,List.mem_erase_of_ne (Ne.symm e)]
 ·by_cases e:i=j
  ·subst e;exact hself false
  ·rw[getD_set_ne _ e]
   exact h.no j hlt fun hj'=>hj ((List.mem_erase_of_ne (Ne.symm e)).2 hj')
theorem Lst.ready{n:Nat}{U:List Nat}{listed:Array Bool}{ops:List Oper}(h:Lst n U listed){i:Nat}(hi:i∈Region.ready .any ops.toArray listed):
  i∈U∧∃o,ops[i]? =some o∧∀j∈edg o,j∉U:=by
 rw[mem_ready]at hi
 obtain⟨h1,o,ho,h2⟩:=hi
 refine⟨(h.iff i).1 h1,o,by simpa using ho,fun j hj hU=> ?_⟩
 obtain⟨e,he,hb,rfl⟩:=mem_edg.1 hj
 have h3:=h2 e he hb
 have h4:=(h.iff e.on).2 hU
 rcases Nat.lt_or_ge e.on listed.size with h'|h'
 ·simp[Array.getD,h']at h3 h4;rw[h3]at h4;cases h4
 ·simp[Array.getD,Nat.not_lt.2 h']at h4
theorem Lst.some'{n:Nat}{U:List Nat}{listed:Array Bool}{ops:List Oper}(h:Lst n U listed)(hn:ops.length=n)(hE:chkE ops=true)(hne:U≠ []):Region.ready .any ops.toArray listed≠ []:=by
 intro he
 have key:∀k i,i<k->i∉U:=by
  intro k
  induction k with
  |zero=>intro i hi;omega
  |succ k ih=>
   intro i hi hU
   have hlt:=h.lt i hU
   have hr:i∈Region.ready .any ops.toArray listed:=by
    rw[mem_ready]
    refine⟨(h.iff i).2 hU,ops[i]'(by omega),by simp[hn,hlt],fun e hee hb=> ?_⟩
    have h1:=List.all_eq_true.1 hE i (by simp[hn,hlt])
    have ho:ops[i]? =some (ops[i]'(by omega)):=List.getElem?_eq_getElem (by omega)
    rw[ho]at h1
    have h2:=List.all_eq_true.1 h1 e.on (mem_edg.2 ⟨e,hee,hb,rfl⟩)
    have h3:e.on<i:=by simpa[Nat.blt_eq]using h2
    exact h.no _ (by omega) (ih _ (by omega))
   rw[he]at hr
   cases hr
 obtain⟨i,hi⟩:=List.exists_mem_of_ne_nil U hne
 exact key (i+1) i (by omega) hi
end
end Go.Q
namespace Go.Q
section
variable {S:FuncId->List SA->RA->Prop} {P:Program} {N:Nat} {G:Gd} {K:Env->Prop} {Q:Exit->Act->World->Prop}
def CloOk(ops:List Oper)(acc:List (List Nat)):Prop:=
 ∀i o,i<acc.length->ops[i]? =some o->∀k∈acc.getD i [],∃j∈edg o,j<i∧(j=k∨k∈acc.getD j [])
theorem cloA_ok{ops:List Oper}:∀ {os:List Oper} {acc:List (List Nat)},ops.drop acc.length=os->CloOk ops acc->CloOk ops (cloA os acc)
 | [],acc,_,h=>h
 |o::os,acc,hd,h=>by
  simp only[cloA]
  refine cloA_ok ?_ ?_
  ·rw[List.length_append,List.length_singleton,<-List.drop_drop,hd];rfl
  ·intro i o' hi ho k hk
   have hget:∀j,j<acc.length->∀x:List Nat,(acc++[x]).getD j []=acc.getD j []:=fun j hj x=>by
    simp[List.getD_eq_getElem?_getD,List.getElem?_append_left hj]
   rw[List.length_append,List.length_singleton]at hi
   by_cases hlt:i<acc.length
   ·rw[hget i hlt]at hk
    obtain⟨j,h1,h2,h3⟩:=h i o' hlt ho k hk
    refine⟨j,h1,h2,?_⟩
    rw[hget j (by omega)];exact h3
   ·have e:i=acc.length:=by omega
    subst e
    have ho2:ops[acc.length]? =some o:=by
     have:=congrArg (fun l=>l[0]?) hd
     simpa[List.getElem?_drop]using this
    rw[ho2]at ho
    cases ho
    simp only[List.getD_eq_getElem?_getD,List.getElem?_append_right (Nat.le_refl _),Nat.sub_self,List.getElem?_cons_zero,Option.getD_some,List.mem_filter,List.any_eq_true,Bool.and_eq_true,Bool.or_eq_true,beq_iff_eq]at hk
    obtain⟨_,j,h1,h2,h3⟩:=hk
    have h2':j<acc.length:=by simpa[Nat.blt_eq]using h2
    refine⟨j,h1,h2',?_⟩
    rw[hget j h2']
    rcases h3 with h3|h3
    ·exact .inl h3
    ·exact .inr (by simpa[List.getD_eq_getElem?_getD]using h3)
def Down(ops:List Oper)(U:List Nat):Prop:=∀i o,ops[i]? =some o->i∉U->∀j∈edg o,j∉U
theorem clo_run{ops:List Oper}{acc:List (List Nat)}(h:CloOk ops acc){U:List Nat}(hD:Down ops U):∀ {i:Nat} {o:Oper},i<acc.length->ops[i]? =some o->(∀j∈edg o,j∉U)->∀k∈acc.getD i [],k∉U:=by
 intro i
 induction i using Nat.strongRecOn with
 |ind i ih=>
  intro o hi ho he k hk
  obtain⟨j,h1,h2,h3⟩:=h i o hi ho k hk
  rcases h3 with rfl|h3
  ·exact he _ h1
  ·have hlt:j<ops.length:=by
    have:i<ops.length:=(List.getElem?_eq_some_iff.1 ho).1
    omega
   exact ih j h2 (by omega) (List.getElem?_eq_getElem hlt) (hD j _ (List.getElem?_eq_getElem hlt) (he j h1)) k h3
theorem cloA_len:∀ {os:List Oper} {acc:List (List Nat)},(cloA os acc).length=acc.length+os.length
 | [],acc=>rfl
 |o::os,acc=>by simp only[cloA,cloA_len,List.length_append,List.length_cons,List.length_nil];omega
theorem tail_waits{ops:List Oper}{n:Nat}(hT:chkT n ops=true){U:List Nat}(hD:Down ops U){i:Nat}{o:Oper}(hi:n<=i)(ho:ops[i]? =some o)(he:∀j∈edg o,j∉U):∀j,j<i->j∉U:=by
 intro j hj
 have hlt:i<ops.length:=(List.getElem?_eq_some_iff.1 ho).1
 have h1:=List.all_eq_true.1 hT i (by simp[hlt])
 simp only[Bool.or_eq_true]at h1
 rcases h1 with h1|h1
 ·have:i<n:=by simpa[Nat.blt_eq]using h1
  omega
 ·have h2:=List.all_eq_true.1 h1 j (by simp[hj])
  have hok:CloOk ops (cloA ops []):=cloA_ok (acc:=[]) rfl (fun i o h=>by simp at h)
  exact clo_run hok hD (by rw[cloA_len];simpa using hlt) ho he j (by simpa using h2)
theorem wpOp_of{ops:List Oper}{i:Nat}{o:Oper}{a:Act}{w:World}{K1 K2:Act->World->Prop}(ho:ops[i]? =some o)(h:if Region.wanted o (yielded ops.toArray a.tmps)then o.wp P a w K1 Q else K1 (a.put o.dst undef) w)
  (hk:∀a w,K1 a w->K2 a w):wpOp P ops.toArray Q i K2 a w:=by
 unfold wpOp
 simp only[List.getElem?_toArray,ho]
 split
 ·rename_i hw;rw[if_pos hw]at h;exact .inl (Oper.wp_mono hk h)
 ·rename_i hw;rw[if_neg hw]at h;exact hk _ _ h
theorem down_step{ops:List Oper}{U:List Nat}{i:Nat}{o:Oper}(hD:Down ops U)(ho:ops[i]? =some o)(he:∀j∈edg o,j∉U):Down ops (U.erase i):=by
 intro k o' ho' hk j hj hjU
 have hjU':j∈U:=List.mem_of_mem_erase hjU
 by_cases e:k=i
 ·subst e
  rw[ho]at ho'
  cases ho'
  exact he j hj hjU'
 ·exact hD k o' ho' (fun h=>hk ((List.mem_erase_of_ne e).2 h)) j hj hjU'
theorem any_tail(hS:SOk P G S){ops:List Oper}{ps ts:List I}(hm:gms P N ops (ps++ts) ops=true)(hE:chkE ops=true)(hT:chkT ps.length ops=true):
  ∀ {fuel:Nat} {U:List Nat} {listed:Array Bool} {k:Nat} {σ:Lab->Value} {ow:Own} {w:World} {a:Act} {Γ:Env},U.length=fuel->Lst ops.length U listed->Down ops U->(∀i,i∈U↔k<=i∧i<ops.length)->ps.length<=k->
  Rep N G σ ow w a Γ->vs S (ts.drop (k-ps.length)) Γ K->(∀a' w',Post N G ow w K a' w'->Q .normal a' w')->wpAny P .any ops.toArray Q fuel listed a w:=by
 obtain⟨hlen,hat⟩:=gms_at hm
 rw[List.length_append]at hlen
 intro fuel
 induction fuel with
 |zero=>
  intro U listed k σ ow w a Γ hU hL hD hk hpk hr hv hQ
  have hU0:U=[]:=List.length_eq_zero_iff.1 hU
  subst hU0
  have hkn:ops.length<=k:=Nat.le_of_not_lt fun h=>by
   have:=(hk k).2 ⟨Nat.le_refl k,h⟩
   cases this
  have hd:ts.drop (k-ps.length)=[]:=List.drop_eq_nil_iff.2 (by omega)
  rw[hd]at hv
  refine⟨?_,hQ _ _ ⟨Γ,σ,ow,hv,hr,Ext.refl ow w⟩⟩
  cases he:Region.ready .any ops.toArray listed with
  |nil=>rfl
  |cons x xs=>
   have:=(hL.ready (i:=x) (by rw[he];simp)).1
   cases this
 |succ fuel ih=>
  intro U listed k σ ow w a Γ hU hL hD hk hpk hr hv hQ
  have hne:U≠ []:=fun h=>by simp[h]at hU
  refine⟨fun h=>absurd h (hL.some' rfl hE hne),fun i hi=> ?_⟩
  obtain⟨hiU,o,ho,hedge⟩:=hL.ready hi
  obtain⟨hki,hin⟩:=(hk i).1 hiU
  have hik:i=k:=by
   rcases Nat.lt_or_ge k i with h|h
   ·exfalso
    exact tail_waits hT hD (by omega) ho hedge k h ((hk k).2 ⟨Nat.le_refl k,by omega⟩)
   ·omega
  subst hik
  obtain⟨j,hj⟩:∃j,ts[i-ps.length]? =some j:=⟨ts[i-ps.length]'(by omega),List.getElem?_eq_getElem (by omega)⟩
  have hd:ts.drop (i-ps.length)=j::ts.drop (i+1-ps.length):=by
   have h1:i-ps.length<ts.length:=by omega
   rw[List.drop_eq_getElem_cons h1]
   have h2:ts[i-ps.length]=j:=by
    rw[List.getElem?_eq_getElem h1]at hj
    simpa using hj
   rw[h2,show i+1-ps.length=i-ps.length+1 by omega]
  rw[hd]at hv
  have hgm:=hat i j o (by rw[List.getElem?_append_right hpk];exact hj) ho
  refine wpOp_of ho (snd_g hS hr hgm hv) fun a' w' hp=> ?_
  obtain⟨Γ',σ',ow',hv',hr',he⟩:=hp
  refine ih (k:=i+1) (by rw[List.length_erase_of_mem hiU];omega) (hL.step hiU) (down_step hD ho hedge) (fun x=> ?_) (by omega) hr' hv' fun a2 w2 h2=>hQ _ _ (Post.trans (a':=a2) (K':=K) he h2)
  by_cases e:x=i
  ·subst e
   have:=hL.nodup.not_mem_erase (a:=x)
   simp only[this,false_iff]
   omega
  ·rw[List.mem_erase_of_ne e,hk]
   omega
def pend(ps:List I)(U:List Nat):Lab->Bool:=hds (U.filterMap fun j=>(ps[j]?).bind I.cdst)
theorem pend_iff{ps:List I}{U:List Nat}{l:Lab}:pend ps U l=true↔ ∃j∈U,∃i d,ps[j]? =some i∧i.cr=true∧i.dst=some d∧hd d l=true:=by
 unfold pend
 rw[hds_iff]
 constructor
 ·rintro⟨d,h1,h2⟩
  obtain⟨j,hj,hjd⟩:=List.mem_filterMap.1 h1
  simp only[Option.bind_eq_some_iff]at hjd
  obtain⟨i,hi,hid⟩:=hjd
  unfold I.cdst at hid
  split at hid
  ·exact⟨j,hj,i,d,hi,by assumption,hid,h2⟩
  ·cases hid
 ·rintro⟨j,hj,i,d,hi,hc,hdd,h2⟩
  exact⟨d,List.mem_filterMap.2 ⟨j,hj,by simp[hi,I.cdst,hc,hdd]⟩,h2⟩
theorem stat_at:∀ {ps:List I} {k:Nat} {i:I},stat ps=true->ps[k]? =some i->(i.rd||i.cr)=true∧(∀d,i.dst=some d->d∉dsts (ps.drop (k+1)))
 | [],k,i,_,h=>by simp at h
 |p::ps,k,i,hs,h=>by
  simp only[stat,Bool.and_eq_true]at hs
  obtain⟨⟨⟨h1,h2⟩,_⟩,h4⟩:=hs
  cases k with
  |zero=>
   simp only[List.getElem?_cons_zero,Option.some.injEq]at h
   subst h
   refine⟨h1,fun d hd'=> ?_⟩
   rw[hd']at h2
   simpa using h2
  |succ k=>simpa using stat_at h4 (by simpa using h)
theorem stat_inj{ps:List I}(hs:stat ps=true){j k:Nat}{i i':I}{d:Nat}(hj:ps[j]? =some i)(hk:ps[k]? =some i')(hd:i.dst=some d)(hd':i'.dst=some d):j=k:=by
 rcases Nat.lt_trichotomy j k with h|h|h
 ·exfalso
  apply(stat_at hs hj).2 d hd
  refine List.mem_filterMap.2 ⟨i',List.mem_of_getElem? (i:=k-(j+1)) ?_,hd'⟩
  rw[List.getElem?_drop,show j+1+(k-(j+1))=k by omega];exact hk
 ·exact h
 ·exfalso
  apply(stat_at hs hk).2 d hd'
  refine List.mem_filterMap.2 ⟨i,List.mem_of_getElem? (i:=j-(k+1)) ?_,hd⟩
  rw[List.getElem?_drop,show k+1+(j-(k+1))=j by omega];exact hj
theorem any_pre(hS:SOk P G S){ops:List Oper}{ps ts:List I}(hm:gms P N ops (ps++ts) ops=true)(hst:stat ps=true)(hE:chkE ops=true)(hPc:chkP ps ops=true)(hT:chkT ps.length ops=true)
  {E:Env} (hF:∀k i,ps[k]? =some i->∃x obs Γi,Fact S E (hds (cdsts (ps.drop k))) i x obs Γi) (hv:vs S ts E K):
  ∀ {fuel:Nat} {U:List Nat} {listed:Array Bool} {σ:Lab->Value} {ow:Own} {w:World} {a:Act} {Γ:Env},U.length=fuel->Lst ops.length U listed->Down ops U->(∀i,ps.length<=i->i<ops.length->i∈U)->
  (∀l,pend ps U l=false->lo Γ.ob l=lo E.ob l)->(∀t,(∀j∈U,∀p,ps[j]? =some p->p.dst≠some t)->lk Γ.tm t=lk E.tm t)->Free (pend ps U) Γ->
  Rep N G σ ow w a Γ->(∀a' w',Post N G ow w K a' w'->Q .normal a' w')->wpAny P .any ops.toArray Q fuel listed a w:=by
 obtain⟨hlen,hat⟩:=gms_at hm
 rw[List.length_append]at hlen
 intro fuel
 induction fuel with
 |zero=>
  intro U listed σ ow w a Γ hU hL hD hrest hob hlk hfr hr hQ
  have hU0:U=[]:=List.length_eq_zero_iff.1 hU
  subst hU0
  have hr':Rep N G σ ow w a E:=hr.of_same ⟨fun t=>(hlk t fun j hj=>by cases hj).symm,fun l=>(hob l (by
   cases h:pend ps [] l with
   |false=>rfl
   |true=>obtain⟨j,hj,_⟩:=pend_iff.1 h;cases hj)).symm⟩
  refine any_tail (k:=ops.length) hS hm hE hT hU hL hD (fun i=> ?_) (by omega) hr' ?_ hQ
  ·constructor
   ·intro h;cases h
   ·intro h;omega
  ·have:ps.length=ops.length:=by
    rcases Nat.lt_or_ge ps.length ops.length with h|h
    ·have:=hrest ps.length (Nat.le_refl _) h
     cases this
    ·omega
   rw[this,Nat.sub_self]
   exact hv
 |succ fuel ih=>
  intro U listed σ ow w a Γ hU hL hD hrest hob hlk hfr hr hQ
  by_cases hall:∀i∈U,ps.length<=i
  ·have hpn:∀l,pend ps U l=false:=fun l=>by
    cases h:pend ps U l with
    |false=>rfl
    |true=>
     obtain⟨j,hj,i,d,hi,_⟩:=pend_iff.1 h
     have:=hall j hj
     rw[List.getElem?_eq_none this]at hi
     cases hi
   have hr':Rep N G σ ow w a E:=hr.of_same ⟨fun t=>(hlk t fun j hj p hp=>by
    have:=hall j hj
    rw[List.getElem?_eq_none this]at hp
    cases hp).symm,fun l=>(hob l (hpn l)).symm⟩
   refine any_tail (k:=ps.length) hS hm hE hT hU hL hD (fun i=>⟨fun h=>⟨hall i h,hL.lt i h⟩,fun h=>hrest i h.1 h.2⟩) (Nat.le_refl _) hr' ?_ hQ
   rw[Nat.sub_self]
   exact hv
  ·have hne:U≠ []:=fun h=>by simp[h]at hU
   refine⟨fun h=>absurd h (hL.some' rfl hE hne),fun i hi=> ?_⟩
   obtain⟨hiU,o,ho,hedge⟩:=hL.ready hi
   have hin:=hL.lt i hiU
   have him:i<ps.length:=by
    rcases Nat.lt_or_ge i ps.length with h|h
    ·exact h
    ·exfalso
     apply hall
     intro j hj
     rcases Nat.lt_or_ge j ps.length with h'|h'
     ·exact absurd hj (tail_waits hT hD h ho hedge j (by omega))
     ·exact h'
   obtain⟨p,hp⟩:∃p,ps[i]? =some p:=⟨ps[i],List.getElem?_eq_getElem him⟩
   obtain⟨x,obs,Γi,hf⟩:=hF i p hp
   have hgm:=hat i p o (by rw[List.getElem?_append_left him];exact hp) ho
   have hlook:∀t∈p.looks,lk Γ.tm t=lk E.tm t:=fun t ht=>hlk t fun j hj q hq hd=>by
    have h1:=List.all_eq_true.1 hPc i (by simp[him])
    rw[hp,ho]at h1
    have h2:=List.all_eq_true.1 h1 t ht
    have hjm:j<ps.length:=(List.getElem?_eq_some_iff.1 hq).1
    have h3:=List.all_eq_true.1 h2 j (by simp[hjm])
    simp only[hq,Option.bind_some,hd,bne_self_eq_false,Bool.false_or]at h3
    exact hedge j (by simpa using h3) hj
   have hA:Agr (fun l=>pend ps U l||hds (cdsts (ps.drop i)) l) Γi Γ p.looks:=by
    refine⟨fun t ht=>(hlook t ht).trans (hf.lks t ht),fun l hl=> ?_,fun t ht y hy=> ?_,fun l ls hl hy=> ?_⟩
    ·simp only[Bool.or_eq_false_iff]at hl
     exact(hob l hl.1).trans (hf.lobs l hl.2)
    ·rw[refs_or,hf.free.tm t y hy,hfr.tm t y (((hlook t ht).trans (hf.lks t ht)).trans hy)];rfl
    ·simp only[Bool.or_eq_false_iff]at hl
     have h1:=((hob l hl.1).trans (hf.lobs l hl.2)).trans hy
     rw[refsL_or,(hf.free.ob l _ hy).2 ls rfl,(hfr.ob l _ h1).2 ls rfl];rfl
   have hpsub:∀l,pend ps (U.erase i) l=true->pend ps U l=true:=fun l hl=>by
    obtain⟨j,hj,r⟩:=pend_iff.1 hl
    exact pend_iff.2 ⟨j,List.mem_of_mem_erase hj,r⟩
   have hlk':∀ {Γ':Env},Same Γ' (Γ.adds x obs p.dst)->∀t,(∀j∈U.erase i,∀q,ps[j]? =some q->q.dst≠some t)->lk Γ'.tm t=lk E.tm t:=by
    intro Γ' hsame t ht
    rw[hsame.1 t]
    cases hd:p.dst with
    |none=>
     refine hlk t fun j hj q hq hqd=> ?_
     by_cases e:j=i
     ·subst e
      rw[hp]at hq
      cases hq
      rw[hd]at hqd;cases hqd
     ·exact ht j ((List.mem_erase_of_ne e).2 hj) q hq hqd
    |some d=>
     simp only[Env.adds,lk]
     split
     ·rename_i e
      subst e
      exact(hf.at' d hd).symm
     ·rename_i hne'
      refine hlk t fun j hj q hq hqd=> ?_
      by_cases e:j=i
      ·subst e
       rw[hp]at hq
       cases hq
       rw[hd]at hqd
       cases hqd
       exact hne' rfl
      ·exact ht j ((List.mem_erase_of_ne e).2 hj) q hq hqd
   have hfre:Fre (pend ps (U.erase i)) Γ p.looks:=(hfr.mono hpsub).fre _
   by_cases hrd:p.rd=true
   ·obtain⟨rfl,hx⟩:=hf.rd hrd
    have hncr:=rd_cr hrd
    have hpeq:∀l,pend ps U l=false->True:=fun _ _=>trivial
    have hpe:∀l,pend ps (U.erase i) l=false->pend ps U l=false:=fun l hl=>by
     cases h:pend ps U l with
     |false=>rfl
     |true=>
      obtain⟨j,hj,i',d,hi',hc,r⟩:=pend_iff.1 h
      have e:j≠i:=by
       rintro rfl
       rw[hp]at hi';cases hi'
       rw[hncr]at hc;cases hc
      rw[pend_iff.2 ⟨j,(List.mem_erase_of_ne e).2 hj,i',d,hi',hc,r⟩]at hl
      cases hl
    have hvi:=vi_frame (Γ2:=Γ) hrd hA hx
    have hxr:vi S p Γ (fun _=>False)∨p.dst=none∨x.refs (pend ps (U.erase i))=false:=by
     cases hdd:p.dst with
     |none=>exact .inr (.inl rfl)
     |some d=>
      rcases rd_fr hrd hdd hfre hvi with h|h
      ·exact .inr (.inr h)
      ·exact .inl h
    rcases hxr with hff|hxr
    ·exact wpOp_of ho (snd_g hS hr hgm hff) fun a' w' hpost=>by
      obtain⟨_,_,_,hf,_⟩:=hpost
      exact hf.elim
    ·refine wpOp_of ho (snd_g hS hr hgm hvi) fun a' w' hpost=> ?_
     obtain⟨Γ',σ',ow',hsame,hr',he⟩:=hpost
     have hsame':Same Γ' (Γ.adds x [] p.dst):=by rw[adds_nil];exact hsame
     refine ih (by rw[List.length_erase_of_mem hiU];omega) (hL.step hiU) (down_step hD ho hedge) (fun j h1 h2=>(List.mem_erase_of_ne (by omega)).2 (hrest j h1 h2)) (fun l hl=> ?_) (hlk' hsame') ?_ hr' fun a2 w2 h2=>hQ _ _ (Post.trans (a':=a2) (K':=K) he h2)
     ·rw[hsame'.2 l]
      have:lo (Γ.adds x [] p.dst).ob l=lo Γ.ob l:=by cases p.dst<;>rfl
      rw[this]
      exact hob l (hpe l hl)
     ·rcases hxr with hxr|hxr
      ·rw[hxr]at hsame'
       exact(hfr.mono hpsub).same' hsame'
      ·exact((hfr.mono hpsub).adds hxr (fun l o h=>by simp[lo]at h) p.dst).same' hsame'
   ·obtain⟨d,hcr,hdd,hpr,hh,hEo⟩:=hf.cr (by simpa using hrd)
    have hprd:=prd_frame hA hpr
    have hdU:∀l,hd d l=true->pend ps U l=true:=fun l hl=>pend_iff.2 ⟨i,hiU,p,d,hp,hcr,hdd,hl⟩
    have hvi:vi S p Γ (fun Γ'=>Γ'=Γ.made d x obs):=prd_vi hdd hprd rfl
    have hdn:∀l,hd d l=true->pend ps (U.erase i) l=false:=fun l hl=>by
     cases h:pend ps (U.erase i) l with
     |false=>rfl
     |true=>
      exfalso
      obtain⟨j,hj,i',d',hi',hc,hd2,hl2⟩:=pend_iff.1 h
      have e:d'=d:=by
       cases l with
       |nil=>simp[hd]at hl
       |cons n l=>simp only[hd,beq_iff_eq]at hl2 hl;omega
      subst e
      have:=stat_inj hst hi' hp hd2 hdd
      subst this
      exact hL.nodup.not_mem_erase hj
    have hsplit:∀l,pend ps (U.erase i) l=false->hd d l=false->pend ps U l=false:=fun l h1 h2=>by
     cases h:pend ps U l with
     |false=>rfl
     |true=>
      obtain⟨j,hj,i',d',hi',hc,hd2,hl2⟩:=pend_iff.1 h
      by_cases e:j=i
      ·subst e
       rw[hp]at hi';cases hi'
       rw[hdd]at hd2;cases hd2
       rw[h2]at hl2;cases hl2
      ·rw[pend_iff.2 ⟨j,(List.mem_erase_of_ne e).2 hj,i',d',hi',hc,hd2,hl2⟩]at h1
       cases h1
    obtain⟨k1,k2⟩:=prd_fr hdd hdn hfre hprd
    refine wpOp_of ho (snd_g hS hr hgm hvi) fun a' w' hpost=> ?_
    obtain⟨Γ',σ',ow',hsame,hr',he⟩:=hpost
    have hfd:Free (hd d) Γ:=hfr.mono hdU
    have hsame':Same Γ' (Γ.adds x obs p.dst):=by rw[hsame,hdd];exact made_same hfd x obs
    refine ih (by rw[List.length_erase_of_mem hiU];omega) (hL.step hiU) (down_step hD ho hedge) (fun j h1 h2=>(List.mem_erase_of_ne (by omega)).2 (hrest j h1 h2)) (fun l hl=> ?_) (hlk' hsame') ?_ hr' fun a2 w2 h2=>hQ _ _ (Post.trans (a':=a2) (K':=K) he h2)
    ·rw[hsame'.2 l,hdd]
     simp only[Env.adds,lo_append]
     by_cases hl2:hd d l=true
     ·rw[hEo l hl2]
      split
      ·rename_i q hq;exact hq.symm
      ·rename_i hq
       rw[hq]
       cases hlg:lo Γ.ob l with
       |none=>rfl
       |some q=>
        have h3:=(hfr.ob l q hlg).1
        rw[hdU l hl2]at h3;cases h3
     ·have hl3:hd d l=false:=by simpa using hl2
      split
      ·rename_i q hq
       rw[hh l q hq]at hl3;cases hl3
      ·exact hob l (hsplit l hl hl3)
    ·exact((hfr.mono hpsub).adds k1 (fun l o h=>⟨hdn l (hh l o h),fun ls e=>k2 l ls (e▸h)⟩) p.dst).same' hsame'
theorem gms_take{ops:List Oper}:∀ {is js:List I} {l:List Oper},gms P N ops (is++js) l=true->gms P N ops is (l.take is.length)=true
 | [],_,_,_=>rfl
 |i::is,js,[],h=>by simp[gms]at h
 |i::is,js,o::l,h=>by
  simp only[List.cons_append,gms,Bool.and_eq_true]at h
  simp only[List.length_cons,List.take_succ_cons,gms,Bool.and_eq_true]
  exact⟨h.1,gms_take h.2⟩
theorem Rep.drawn{σ:Lab->Value}{ow:Own}{w:World}{a:Act}{Γ:Env}(hr:Rep N G σ ow w a Γ):Rep N G σ ow {w with drawn:=w.drawn+1} a Γ:=by
 have hu:Upd (fun _=>false) ow w ow {w with drawn:=w.drawn+1}:=⟨rfl,rfl,rfl,Nat.le_refl _,fun b _ _=>⟨rfl,rfl⟩⟩
 exact hr.upd hu (fun _ _=>rfl) ⟨fun t x _=>refs_false x,fun l q _=>⟨rfl,fun ls _=>refsL_false ls⟩⟩
theorem Rep.pre{σ:Lab->Value}{ow:Own}{w:World}{a:Act}{Γ:Env}(hr:Rep N G σ ow w a Γ):∀ds,Rep N G σ ow w a (Γ.pre ds)
 | []=>hr
 |_::_=>hr.kill _
theorem Free.pre(Γ:Env):∀ds,Free (hds ds) (Γ.pre ds)
 | []=>⟨fun t x _=>(by
   have:hds []=fun _=>false:=by funext l;cases l<;>rfl
   rw[this];exact refs_false x),fun l o _=>⟨by cases l<;>rfl,fun ls _=>(by
   have:hds []=fun _=>false:=by funext l;cases l<;>rfl
   rw[this];exact refsL_false ls)⟩⟩
 |_::_=>Free.kill _ _
theorem snd_dr(hS:SOk P G S){id:Nat}{ops:Array Oper}{ds:List Nat}{ps ts:List I}(hm:drM P N ds ps ts ops.toList=true){σ:Lab->Value}{ow:Own}{w:World}{a:Act}{Γ:Env}
  (hr:Rep N G σ ow w a Γ) (hv:vs S ps (Γ.pre ds) fun Γ'=>vs S ts Γ' K) (hQ:∀a' w',Post N G ow w K a' w'->Q .normal a' w'):(Code.region id ops true).wp P Q a w:=by
 simp only[drM,Bool.and_eq_true,beq_iff_eq]at hm
 obtain⟨⟨⟨⟨⟨⟨hmix,hgm⟩,hst⟩,hE⟩,hP⟩,hT⟩,rfl⟩:=hm
 have hr':=(hr.pre (cdsts ps)).drawn
 have hfree:=Free.pre Γ (cdsts ps)
 obtain⟨E,hE2,hlk,hlo,hF⟩:=chain hS hst (gms_take hgm) hr' hfree hv
 refine wp_region_any hmix ?_
 have he:ops=ops.toList.toArray:=by simp
 rw[he]
 have hsz:ops.toList.toArray.size=ops.toList.length:=by simp
 rw[hsz]
 have hL:=Lst.start ops.toList.length
 have hlen:=(gms_at hgm).1
 rw[List.length_append]at hlen
 have hpend:∀l,pend ps (List.range ops.toList.length) l=hds (cdsts ps) l:=fun l=>by
  rw[Bool.eq_iff_iff,pend_iff,hds_iff]
  constructor
  ·rintro⟨j,_,i,d,hi,hc,hdd,hl⟩
   exact⟨d,List.mem_filterMap.2 ⟨i,List.mem_of_getElem? hi,by simp[I.cdst,hc,hdd]⟩,hl⟩
  ·rintro⟨d,h1,hl⟩
   obtain⟨i,hi,hid⟩:=List.mem_filterMap.1 h1
   obtain⟨j,hj⟩:=List.getElem?_of_mem hi
   unfold I.cdst at hid
   split at hid
   ·have h2:j<ps.length:=(List.getElem?_eq_some_iff.1 hj).1
    exact⟨j,by simp only[List.mem_range];omega,i,d,hj,by assumption,hid,hl⟩
   ·cases hid
 have hpf:pend ps (List.range ops.toList.length)=hds (cdsts ps):=funext hpend
 refine any_pre hS hgm hst hE hP hT hF hE2 (by simp) hL (fun i o ho hn=> ?_) (fun i _ h=>by simp at h⊢;exact h) (fun l hl=>(hlo l (by rw[<-hpf];exact hl)).symm) (fun t ht=>(hlk t fun hd=> ?_).symm) (by rw[hpf];exact hfree) hr' fun a' w' h=>hQ _ _ ?_
 ·exact absurd (by simpa using(List.getElem?_eq_some_iff.1 ho).1) hn
 ·simp only[dsts,List.mem_filterMap]at hd
  obtain⟨p,hp,hpd⟩:=hd
  obtain⟨j,hj⟩:=List.getElem?_of_mem hp
  refine ht j ?_ p hj hpd
  have h2:j<ps.length:=(List.getElem?_eq_some_iff.1 hj).1
  simp only[List.mem_range]
  omega
 ·exact Post.trans (a':=a') (K':=K) (ow:=ow) (w:=w) (ow':=ow) (w':= {w with drawn:=w.drawn+1}) ⟨rfl,rfl,rfl,Nat.le_refl _,fun _ _ h=>⟨h,rfl⟩⟩ h
end
end Go.Q
namespace Go.Q
section
variable {S:FuncId->List SA->RA->Prop} {P:Program} {N:Nat} {G:Gd} {K:Env->Prop} {Q:Exit->Act->World->Prop}
theorem any_inv(hS:SOk P G S){ops:List Oper}{ps ts:List I}(hm:gms P N ops (ps++ts) ops=true)(hE:chkE ops=true)(hT:chkT ps.length ops=true)
  (Inv:List Nat->Env->Prop)
  (hstep:∀U i p o Γ,i∈U->U.Nodup->(∀j∈U,j<ops.length)->Down ops U->ps[i]? =some p->ops[i]? =some o->(∀j∈edg o,j∉U)->Inv U Γ->vi S p Γ fun Γ'=>Inv (U.erase i) Γ')
  (hend:∀U Γ,(∀i∈U,ps.length<=i)->Inv U Γ->∀σ ow w a,Rep N G σ ow w a Γ->∃Γ',Rep N G σ ow w a Γ'∧vs S ts Γ' K):
  ∀ {fuel:Nat} {U:List Nat} {listed:Array Bool} {σ:Lab->Value} {ow:Own} {w:World} {a:Act} {Γ:Env},U.length=fuel->Lst ops.length U listed->Down ops U->(∀i,ps.length<=i->i<ops.length->i∈U)->
  Inv U Γ->Rep N G σ ow w a Γ->(∀a' w',Post N G ow w K a' w'->Q .normal a' w')->wpAny P .any ops.toArray Q fuel listed a w:=by
 obtain⟨hlen,hat⟩:=gms_at hm
 rw[List.length_append]at hlen
 intro fuel
 induction fuel with
 |zero=>
  intro U listed σ ow w a Γ hU hL hD hrest hI hr hQ
  have hU0:U=[]:=List.length_eq_zero_iff.1 hU
  subst hU0
  obtain⟨Γ',hr',hv⟩:=hend [] Γ (fun i hi=>by cases hi) hI _ _ _ _ hr
  refine any_tail (k:=ops.length) hS hm hE hT hU hL hD (fun i=> ?_) (by omega) hr' ?_ hQ
  ·constructor
   ·intro h;cases h
   ·intro h;omega
  ·have:ps.length=ops.length:=by
    rcases Nat.lt_or_ge ps.length ops.length with h|h
    ·have:=hrest ps.length (Nat.le_refl _) h
     cases this
    ·omega
   rw[this,Nat.sub_self]
   exact hv
 |succ fuel ih=>
  intro U listed σ ow w a Γ hU hL hD hrest hI hr hQ
  by_cases hall:∀i∈U,ps.length<=i
  ·obtain⟨Γ',hr',hv⟩:=hend U Γ hall hI _ _ _ _ hr
   refine any_tail (k:=ps.length) hS hm hE hT hU hL hD (fun i=>⟨fun h=>⟨hall i h,hL.lt i h⟩,fun h=>hrest i h.1 h.2⟩) (Nat.le_refl _) hr' ?_ hQ
   rw[Nat.sub_self]
   exact hv
  ·have hne:U≠ []:=fun h=>by simp[h]at hU
   refine⟨fun h=>absurd h (hL.some' rfl hE hne),fun i hi=> ?_⟩
   obtain⟨hiU,o,ho,hedge⟩:=hL.ready hi
   have hin:=hL.lt i hiU
   have him:i<ps.length:=by
    rcases Nat.lt_or_ge i ps.length with h|h
    ·exact h
    ·exfalso
     apply hall
     intro j hj
     rcases Nat.lt_or_ge j ps.length with h'|h'
     ·exact absurd hj (tail_waits hT hD h ho hedge j (by omega))
     ·exact h'
   obtain⟨p,hp⟩:∃p,ps[i]? =some p:=⟨ps[i],List.getElem?_eq_getElem him⟩
   have hgm:=hat i p o (by rw[List.getElem?_append_left him];exact hp) ho
   have hvi:=hstep U i p o Γ hiU hL.nodup hL.lt hD hp ho hedge hI
   refine wpOp_of ho (snd_g hS hr hgm hvi) fun a' w' hpost=> ?_
   obtain⟨Γ',σ',ow',hI',hr',he⟩:=hpost
   exact ih (by rw[List.length_erase_of_mem hiU];omega) (hL.step hiU) (down_step hD ho hedge) (fun j h1 h2=>(List.mem_erase_of_ne (by omega)).2 (hrest j h1 h2)) hI' hr' fun a2 w2 h2=>hQ _ _ (Post.trans (a':=a2) (K':=K) he h2)
end
end Go.Q
namespace Go.Q
def O.dif:O->O->Bool
 | .i x,.i y=> !(x==y)
 | .s x,.s y=> !(x==y)
 |_,_=>false
def I.gen2:I->Bool
 | .mv _ (.t _)=>false
 |i=>i.rd
theorem gen2_rd{i:I}(h:i.gen2=true):i.rd=true:=by
 unfold I.gen2 at h
 split at h
 ·cases h
 ·exact h
def st2(d0:Nat)(kk vk:Ki)(T:List Nat):I->Option (List Nat)
 | .mm d k1 v1=>if d=d0∧k1=kk∧v1=vk then some (d0::T)else none
 | .mu (.t m) k v k1 v1=>if m=d0∧k1=kk∧v1=vk∧T.contains d0=true∧k.tm=[]∧(v.tm.all fun t=> !T.contains t)=true then some T else none
 | .mv d (.t s)=>some (if T.contains s then d::T else T)
 |i=>if i.gen2&&i.looks.all (fun t=> !T.contains t)then some T else none
def difI:I->I->Bool
 | .mu _ k _ _ _,.mu _ k' _ _ _=>k.dif k'
 |_,_=>true
def chk2(d0:Nat)(kk vk:Ki):List Nat->List I->Bool
 |_,[]=>true
 |T,i::is=>match st2 d0 kk vk T i with
  |some T'=>is.all (difI i)&&chk2 d0 kk vk T' is
  |none=>false
def statd:List I->Bool
 | []=>true
 |i::is=>(match i.dst with|some d=> !(dsts is).contains d|none=>true)&&i.looks.all (fun t=> !(dsts (i::is)).contains t)&&statd is
theorem st2_cases{d0:Nat}{kk vk:Ki}{T T':List Nat}{i:I}(h:st2 d0 kk vk T i=some T'):
  (i= .mm d0 kk vk∧T'=d0::T)∨(∃k v,i= .mu (.t d0) k v kk vk∧T'=T∧d0∈T∧k.tm=[]∧∀t∈v.tm,t∉T)∨(∃d s,i= .mv d (.t s)∧T'=if T.contains s then d::T else T)∨(i.gen2=true∧T'=T∧∀t∈i.looks,t∉T):=by
 unfold st2 at h
 split at h
 ·split at h
  ·rename_i e;obtain⟨rfl,rfl,rfl⟩:=e;cases h;exact .inl ⟨rfl,rfl⟩
  ·cases h
 ·split at h
  ·rename_i e
   obtain⟨rfl,rfl,rfl,h1,h2,h3⟩:=e
   cases h
   exact .inr (.inl ⟨_,_,rfl,rfl,by simpa using h1,h2,fun t ht=>by simpa using List.all_eq_true.1 h3 t ht⟩)
  ·cases h
 ·cases h;exact .inr (.inr (.inl ⟨_,_,rfl,rfl⟩))
 ·split at h
  ·rename_i e
   simp only[Bool.and_eq_true]at e
   cases h
   exact .inr (.inr (.inr ⟨e.1,rfl,fun t ht=>by simpa using List.all_eq_true.1 e.2 t ht⟩))
  ·cases h
theorem O.dif_ev{k k':O}{Γ:Env}{kk:Ki}{x x':kk.T}(h:k.dif k'=true)(h1:ev Γ k=some (.v kk x))(h2:ev Γ k'=some (.v kk x'))(hk:kk.key=true):keq kk x x'=false:=by
 unfold O.dif at h
 split at h
 ·rename_i a b
  simp only[ev,Option.some.injEq]at h1 h2
  cases h1;cases h2
  simp only[keq]
  simpa using h
 ·simp only[ev,Option.some.injEq]at h1 h2
  cases h1;cases h2
  simp only[keq]
  simpa using h
 ·cases h
theorem kdist_inj{kk vk:Ki}{es:List (kk.T×vk.T)}(h:kdist es){a b:kk.T×vk.T}(ha:a∈es)(hb:b∈es)(hk:keq kk a.1 b.1=true):a=b:=by
 induction es with
 |nil=>cases ha
 |cons e r ih=>
  have h':=List.pairwise_cons.1 h
  rcases List.mem_cons.1 ha with ha2|ha2<;>rcases List.mem_cons.1 hb with hb2|hb2
  ·rw[ha2,hb2]
  ·rw[ha2,h'.1 _ hb2]at hk;cases hk
  ·rw[hb2,keq_comm,h'.1 _ ha2]at hk;cases hk
  ·exact ih h'.2 ha2 hb2
theorem ev_kx{Γ:Env}{k:O}{kk:Ki}{x y:kk.T}(h1:ev Γ k=some (.v kk x))(h2:ev Γ k=some (.v kk y)):x=y:=by
 rw[h1]at h2
 cases h2
 rfl
section
variable {S:FuncId->List SA->RA->Prop} {P:Program} {N:Nat} {G:Gd} {K:Env->Prop} {Q:Exit->Act->World->Prop} {d0:Nat} {kk vk:Ki} {Γ0:Env} {p:Lab->Bool}
structure Fc (S:FuncId->List SA->RA->Prop) (d0:Nat) (kk vk:Ki) (Γ0:Env) (p:Lab->Bool) (Γ:Env) (i:I):Prop where
 mm:i= .mm d0 kk vk->lk Γ.tm d0=some (.mp [d0])
 mu:∀k v,i= .mu (.t d0) k v kk vk->kk.key=true∧vk.isSt=false∧∃x y,ev Γ k=some (.v kk x)∧ev Γ v=some (.v vk y)
 mv:∀d s,i= .mv d (.t s)->∃x,lk Γ.tm s=some x∧lk Γ.tm d=some x
 gen:i.gen2=true->∃x Γi,(∀t∈i.looks,lk Γ.tm t=lk Γi.tm t)∧(∀t∈i.looks,∀y,lk Γi.tm t=some y->y.refs p=false)∧(∀l,p l=false->lo Γi.ob l=lo Γ0.ob l)∧vi S i Γi (fun Γ'=>Same Γ' (Γi.puto x i.dst))∧∀d,i.dst=some d->lk Γ.tm d=some x
theorem Fc.ext{Γ Γ':Env}{i:I}(h:Fc S d0 kk vk Γ0 p Γ i)(h1:∀t∈i.looks,lk Γ'.tm t=lk Γ.tm t)(h2:∀d,i.dst=some d->lk Γ'.tm d=lk Γ.tm d):Fc S d0 kk vk Γ0 p Γ' i:=by
 refine⟨fun e=> ?_,fun k v e=> ?_,fun d s e=> ?_,fun hg=> ?_⟩
 ·have:=h2 d0 (by rw[e];rfl)
  rw[this];exact h.mm e
 ·obtain⟨a,b,x,y,c,c'⟩:=h.mu k v e
  refine⟨a,b,x,y,?_,?_⟩
  ·rw[ev_same (Γ:=Γ) fun t ht=>h1 t (by rw[e];simp[I.looks,ht])];exact c
  ·rw[ev_same (Γ:=Γ) fun t ht=>h1 t (by rw[e];simp[I.looks,ht])];exact c'
 ·obtain⟨x,a,b⟩:=h.mv d s e
  exact⟨x,(h1 s (by rw[e];simp[I.looks,O.tm])).trans a,(h2 d (by rw[e];rfl)).trans b⟩
 ·obtain⟨x,Γi,a,b,c,c',c2⟩:=h.gen hg
  exact⟨x,Γi,fun t ht=>(h1 t ht).trans (a t ht),b,c,c',fun d hd=>(h2 d hd).trans (c2 d hd)⟩
structure J (S:FuncId->List SA->RA->Prop) (d0:Nat) (kk vk:Ki) (Γ0:Env) (done:List I) (T:List Nat) (Γ:Env):Prop where
 fc:∀i∈done,Fc S d0 kk vk Γ0 (hd d0) Γ i
 un:∀t,t∉T->∀y,lk Γ.tm t=some y->y.refs (hd d0)=false
 ob:∀l,hd d0 l=false->lo Γ.ob l=lo Γ0.ob l
 no:∀l,hd d0 l=true->(l≠ [d0]∨d0∉T)->lo Γ.ob l=none
 mp:d0∈T->∃es,lo Γ.ob [d0]=some (.mp kk vk es)∧kdist es∧(∀e∈es,kk.key=true∧∃k v,I.mu (.t d0) k v kk vk∈done∧ev Γ k=some (.v kk e.1)∧ev Γ v=some (.v vk e.2))∧
  ∀k v x y,I.mu (.t d0) k v kk vk∈done->ev Γ k=some (.v kk x)->ev Γ v=some (.v vk y)->(x,y)∈es
 nT:d0∉T->T=[]
 mm:d0∈T->I.mm d0 kk vk∈done
 mu:∀k v,I.mu (.t d0) k v kk vk∈done->d0∈T
 keep:∀t,(∀i∈done,i.dst≠some t)->lk Γ.tm t=lk Γ0.tm t
theorem J.same{done:List I}{T:List Nat}{Γ Γ':Env}(h:J S d0 kk vk Γ0 done T Γ)(hs:Same Γ' Γ):J S d0 kk vk Γ0 done T Γ':=by
 have he:∀o,ev Γ' o=ev Γ o:=fun o=>ev_same fun t _=>hs.1 t
 refine⟨fun i hi=>(h.fc i hi).ext (fun t _=>hs.1 t) (fun d _=>hs.1 d),fun t ht y hy=>h.un t ht y ((hs.1 t).symm.trans hy),fun l hl=>(hs.2 l).trans (h.ob l hl),fun l hl hn=>(hs.2 l).trans (h.no l hl hn),fun hT=> ?_,h.nT,h.mm,h.mu,fun t ht=>(hs.1 t).trans (h.keep t ht)⟩
 obtain⟨es,a,b,c,d⟩:=h.mp hT
 refine⟨es,(hs.2 _).trans a,b,fun e he'=> ?_,fun k v x y hk=> ?_⟩
 ·obtain⟨g,k,v,h1,h2,h3⟩:=c e he'
  exact⟨g,k,v,h1,(he k).trans h2,(he v).trans h3⟩
 ·rw[he,he];exact d k v x y hk
theorem J.puts{done:List I}{i:I}{Γ Γ':Env}(ht:∀t,i.dst≠some t->lk Γ'.tm t=lk Γ.tm t)(hsep:∀j∈done,∀d,i.dst=some d->j.dst≠some d∧d∉j.looks)(h:∀i∈done,Fc S d0 kk vk Γ0 p Γ i):∀i∈done,Fc S d0 kk vk Γ0 p Γ' i:=
 fun j hj=>(h j hj).ext (fun t hl=>ht t fun e=>(hsep j hj t e).2 hl) (fun d hd=>ht d fun e=>(hsep j hj d e).1 hd)
theorem hds_hd(d:Nat):hds [d]=hd d:=by
 funext l
 cases l with
 |nil=>rfl
 |cons n l=>by_cases h:n=d<;>simp[hds,hd,h]
theorem J.step(hS:SOk P G S){ops:List Oper}{σ:Lab->Value}{ow:Own}{w:World}{a:Act}{Γ:Env}{i:I}{o:Oper}{done:List I}{T T':List Nat}(hF0:Free (hd d0) Γ0)(h:J S d0 kk vk Γ0 done T Γ)(hst:st2 d0 kk vk T i=some T')
  (hsep:∀j∈done,∀d,i.dst=some d->j.dst≠some d∧d∉j.looks) (hself:∀d,i.dst=some d->d∉i.looks) (hdif:∀j∈done,difI j i=true)
  (hm:i.gm P N ops o=true) (hr:Rep N G σ ow w a Γ) (hv:vi S i Γ K):
  ∃Γ' σ' ow' w' a',K Γ'∧Rep N G σ' ow' w' a' Γ'∧J S d0 kk vk Γ0 (done++[i]) T' Γ':=by
 have hbox:∀l ls,hd d0 l=false->lo Γ.ob l=some (.box ls)->refsL (hd d0) ls=false:=fun l ls hl ho=>(hF0.ob l _ ((h.ob l hl).symm.trans ho)).2 ls rfl
 have reads:i.rd=true->(∀x σ' ow' w' a' Γ',Same Γ' (Γ.puto x i.dst)->vi S i Γ (fun Γ'=>Same Γ' (Γ.puto x i.dst))->Rep N G σ' ow' w' a' Γ'->J S d0 kk vk Γ0 (done++[i]) T' Γ')->∃Γ' σ' ow' w' a',K Γ'∧Rep N G σ' ow' w' a' Γ'∧J S d0 kk vk Γ0 (done++[i]) T' Γ':=by
  intro hrd hJ
  obtain⟨x,hx⟩:=vi_det hrd hv
  have hx2:vi S i Γ (fun Γ'=>Same Γ' (Γ.puto x i.dst)):=vi_imp (fun Γ' h=>h.1) hrd hx
  have h1:=snd_g (Q:=fun _ _ _=>False) hS hr hm hx
  obtain⟨a',w',Γ',σ',ow',⟨hsame,hk⟩,hr',_⟩:∃a' w',Post N G ow w (fun Γ'=>Same Γ' (Γ.puto x i.dst)∧K Γ') a' w':=by
   split at h1
   ·exact wp_some h1
   ·exact⟨_,_,h1⟩
  exact⟨Γ',σ',ow',w',a',hk,hr',hJ x σ' ow' w' a' Γ' hsame hx2 hr'⟩
 have nofalse:¬vi S i Γ (fun _=>False):=fun h2=>by
  have h3:=snd_g (Q:=fun _ _ _=>False) hS hr hm h2
  have h4:∃a' w',Post N G ow w (fun _=>False) a' w':=by
   split at h3
   ·exact wp_some h3
   ·exact⟨_,_,h3⟩
  obtain⟨_,_,_,_,_,hf,_⟩:=h4
  exact hf
 have evs:∀ {Γ':Env},(∀t,i.dst≠some t->lk Γ'.tm t=lk Γ.tm t)->∀k v,I.mu (.t d0) k v kk vk∈done->ev Γ' k=ev Γ k∧ev Γ' v=ev Γ v:=fun {Γ'} ht k v hj=>
  ⟨ev_same fun t hl=>ht t fun e=>(hsep _ hj t e).2 (by simp[I.looks,hl]),ev_same fun t hl=>ht t fun e=>(hsep _ hj t e).2 (by simp[I.looks,hl])⟩
 have stay:∀ {Γ':Env},(∀t,i.dst≠some t->lk Γ'.tm t=lk Γ.tm t)->(∀l,lo Γ'.ob l=lo Γ.ob l)->(∀k v,i≠ .mu (.t d0) k v kk vk)->d0∈T->∃es,lo Γ'.ob [d0]=some (.mp kk vk es)∧kdist es∧(∀e∈es,kk.key=true∧∃k v,I.mu (.t d0) k v kk vk∈done++[i]∧ev Γ' k=some (.v kk e.1)∧ev Γ' v=some (.v vk e.2))∧
  ∀k v x y,I.mu (.t d0) k v kk vk∈done++[i]->ev Γ' k=some (.v kk x)->ev Γ' v=some (.v vk y)->(x,y)∈es:=by
  intro Γ' ht ho hne hT
  obtain⟨es,b1,b2,b3,b4⟩:=h.mp hT
  refine⟨es,(ho _).trans b1,b2,fun e he=> ?_,fun k v x y hk h1 h2=> ?_⟩
  ·obtain⟨g,k,v,c1,c2,c3⟩:=b3 e he
   obtain⟨e1,e2⟩:=evs ht k v c1
   exact⟨g,k,v,List.mem_append_left _ c1,e1.trans c2,e2.trans c3⟩
  ·rcases List.mem_append.1 hk with hk|hk
   ·obtain⟨e1,e2⟩:=evs ht k v hk
    exact b4 k v x y hk (e1.symm.trans h1) (e2.symm.trans h2)
   ·rw[List.mem_singleton]at hk
    exact absurd hk.symm (hne k v)
 have kp:∀ {Γ':Env},(∀t,i.dst≠some t->lk Γ'.tm t=lk Γ.tm t)->∀t,(∀j∈done++[i],j.dst≠some t)->lk Γ'.tm t=lk Γ0.tm t:=fun {Γ'} ht t hn=>
  (ht t (hn i (by simp))).trans (h.keep t fun j hj=>hn j (List.mem_append_left _ hj))
 have put_t:∀ {Γ':Env} {x:AV},Same Γ' (Γ.puto x i.dst)->∀t,i.dst≠some t->lk Γ'.tm t=lk Γ.tm t:=fun {Γ' x} hsame t hn=>by
  rw[hsame.1 t]
  cases hd:i.dst with
  |none=>rfl
  |some d=>
   simp only[Env.puto,lk_put]
   rw[if_neg]
   rintro rfl
   exact hn hd
 have put_d:∀ {Γ':Env} {x:AV},Same Γ' (Γ.puto x i.dst)->∀d,i.dst=some d->lk Γ'.tm d=some x:=fun {Γ' x} hsame d hd=>by
  rw[hsame.1 d,hd]
  simp[Env.puto,lk_put]
 have put_o:∀ {Γ':Env} {x:AV},Same Γ' (Γ.puto x i.dst)->∀l,lo Γ'.ob l=lo Γ.ob l:=fun {Γ' x} hsame l=>by
  rw[hsame.2 l];cases i.dst<;>rfl
 rcases st2_cases hst with⟨rfl,rfl⟩|⟨k,v,rfl,rfl,hT,hkt,hvt⟩|⟨d,s,rfl,rfl⟩|⟨hg,rfl,hl⟩
 ·
  have hnT:d0∉T:=fun hT=>(hsep _ (h.mm hT) d0 rfl).1 rfl
  have hT0:=h.nT hnT
  have hfree:Free (hd d0) Γ:=⟨fun t y hy=>h.un t (by rw[hT0];simp) y hy,fun l q hq=>by
   cases hp:hd d0 l with
   |false=>exact⟨rfl,fun ls e=>hbox l ls hp (e▸hq)⟩
   |true=>rw[h.no l hp (.inr hnT)]at hq;cases hq⟩
  have hv':K (Γ.made d0 (.mp [d0]) [([d0],.mp kk vk [])]):=hv
  have hx2:vi S (.mm d0 kk vk) Γ (fun Γ'=>Γ'=Γ.made d0 (.mp [d0]) [([d0],.mp kk vk [])]):=rfl
  have h1:=snd_g (Q:=fun _ _ _=>False) hS hr hm hx2
  obtain⟨a',w',Γ',σ',ow',hsame,hr',_⟩:∃a' w',Post N G ow w (fun Γ'=>Γ'=Γ.made d0 (.mp [d0]) [([d0],.mp kk vk [])]) a' w':=by
   split at h1
   ·exact wp_some h1
   ·exact⟨_,_,h1⟩
  subst hsame
  have hs:=made_same hfree (.mp [d0]) [([d0],.mp kk vk [])]
  refine⟨_,σ',ow',w',a',hv',hr',J.same (Γ:=Γ.adds (.mp [d0]) [([d0],.mp kk vk [])] (some d0)) ?_ hs⟩
  have ht:∀t,(I.mm d0 kk vk).dst≠some t->lk (Γ.adds (.mp [d0]) [([d0],.mp kk vk [])] (some d0)).tm t=lk Γ.tm t:=fun t hn=>by
   simp only[Env.adds,lk]
   rw[if_neg]
   rintro rfl
   exact hn rfl
  refine⟨fun j hj=> ?_,fun t htT y hy=> ?_,fun l hl=> ?_,fun l hl hn=> ?_,fun _=>⟨[],by simp[Env.adds,lo],List.Pairwise.nil,fun e he=>(by cases he),fun k v x y hk=> ?_⟩,fun hn=>absurd (List.mem_cons_self ..) hn,fun _=>by simp,fun _ _ _=>List.mem_cons_self ..,kp ht⟩
  ·rcases List.mem_append.1 hj with hj|hj
   ·exact J.puts ht hsep h.fc j hj
   ·rw[List.mem_singleton]at hj
    subst hj
    exact⟨fun _=>by simp[Env.adds,lk],fun k v e=>(by cases e),fun d s e=>(by cases e),fun hg=>(by cases hg)⟩
  ·have hne:d0≠t:=fun e=>htT (by simp[e])
   rw[ht t (fun e=>hne (by cases e;rfl))]at hy
   exact h.un t (by rw[hT0];simp) y hy
  ·rw[show lo (Γ.adds (.mp [d0]) [([d0],.mp kk vk [])] (some d0)).ob l=lo Γ.ob l from ?_]
   ·exact h.ob l hl
   ·simp only[Env.adds,List.cons_append,List.nil_append,lo]
    rw[if_neg]
    rintro rfl
    simp[hd]at hl
  ·rcases hn with hn|hn
   ·rw[show lo (Γ.adds (.mp [d0]) [([d0],.mp kk vk [])] (some d0)).ob l=lo Γ.ob l from ?_]
    ·exact h.no l hl (.inr hnT)
    ·simp only[Env.adds,List.cons_append,List.nil_append,lo]
     rw[if_neg (Ne.symm hn)]
   ·exact absurd (List.mem_cons_self ..) hn
  ·exfalso
   rcases List.mem_append.1 hk with hk|hk
   ·exact(hsep _ hk d0 rfl).2 (by simp[I.looks,O.tm])
   ·rw[List.mem_singleton]at hk;cases hk
 ·
  obtain⟨es,b1,b2,b3,b4⟩:=h.mp hT
  simp only[vi]at hv
  obtain⟨av,ha,hv1⟩:=need_iff hv
  clear hv
  have ham:av= .mp [d0]:=by
   have:=(h.fc _ (h.mm hT)).mm rfl
   simp only[ev]at ha
   rw[this]at ha
   cases ha;rfl
  subst ham
  simp only at hv1
  obtain⟨q,hq,hv2⟩:=need_iff hv1
  rw[b1]at hq
  cases hq
  simp only at hv2
  obtain⟨es',hes,hv3⟩:=need_iff hv2
  have e1:=mpAs_eq hes
  cases e1
  obtain⟨xa,hxa,hv4⟩:=need_iff hv3
  obtain⟨x,hx,hv5⟩:=need_iff hv4
  obtain⟨ya,hya,hv6⟩:=need_iff hv5
  obtain⟨y,hy,hkey,hst',hk⟩:=need_iff hv6
  have hx2:vi S (.mu (.t d0) k v kk vk) Γ (fun Γ'=>Γ'=⟨Γ.tm,([d0],.mp kk vk (mset es x y))::Γ.ob⟩):=by
   simp only[vi]
   exact need_mk ha (need_mk b1 (need_mk hes (need_mk hxa (need_mk hx (need_mk hya (need_mk hy ⟨hkey,hst',rfl⟩))))))
  have ex:=as_eq hx
  subst ex
  have ey:=as_eq hy
  subst ey
  have h1:=snd_g (Q:=fun _ _ _=>False) hS hr hm hx2
  obtain⟨a',w',Γ',σ',ow',hsame,hr',_⟩:∃a' w',Post N G ow w (fun Γ'=>Γ'=⟨Γ.tm,([d0],.mp kk vk (mset es x y))::Γ.ob⟩) a' w':=by
   split at h1
   ·exact wp_some h1
   ·exact⟨_,_,h1⟩
  subst hsame
  have hxx:=key_refl hkey x
  refine⟨_,σ',ow',w',a',hk,hr',⟨fun j hj=> ?_,h.un,fun l hl=> ?_,fun l hl hn=> ?_,fun _=>⟨mset es x y,by simp[lo],kdist_mset b2 hxx,fun e he=> ?_,fun k' v' x' y' hk' h1 h2=> ?_⟩,h.nT,fun hT=>List.mem_append_left _ (h.mm hT),fun _ _ _=>hT,kp fun t _=>rfl⟩⟩
  ·rcases List.mem_append.1 hj with hj|hj
   ·exact(h.fc j hj).ext (fun _ _=>rfl) (fun _ _=>rfl)
   ·rw[List.mem_singleton]at hj
    subst hj
    exact⟨fun e=>(by cases e),fun k v e=>(by cases e;exact⟨hkey,hst',x,y,hxa,hya⟩),fun d s e=>(by cases e),fun hg=>(by cases hg)⟩
  ·simp only[lo]
   rw[if_neg]
   ·exact h.ob l hl
   ·rintro rfl;simp[hd]at hl
  ·rcases hn with hn|hn
   ·simp only[lo]
    rw[if_neg (Ne.symm hn)]
    exact h.no l hl (.inl hn)
   ·exact absurd hT hn
  ·rcases(mset_mem b2 hxx).1 he with rfl|⟨he,_⟩
   ·exact⟨hkey,k,v,by simp,hxa,hya⟩
   ·obtain⟨g,k',v',c1,c2,c3⟩:=b3 e he
    exact⟨g,k',v',List.mem_append_left _ c1,c2,c3⟩
  ·rw[mset_mem b2 hxx]
   rcases List.mem_append.1 hk' with hk'|hk'
   ·refine .inr ⟨b4 k' v' x' y' hk' h1 h2,?_⟩
    have:=hdif _ hk'
    simp only[difI]at this
    rw[keq_comm]
    exact O.dif_ev (Γ:=Γ) this h1 hxa hkey
   ·rw[List.mem_singleton]at hk'
    cases hk'
    left
    rw[ev_kx h1 hxa,ev_kx h2 hya]
 ·
  have hT':d0∈(if T.contains s then d::T else T)↔d0∈T:=by
   by_cases hs:s∈T
   ·have:d0∈T:=Classical.byContradiction fun hn=>by rw[h.nT hn]at hs;cases hs
    simp[hs,this]
   ·simp[hs]
  refine reads rfl fun x σ' ow' w' a' Γ' hsame hx2 hr'=> ?_
  have hx:lk Γ.tm s=some x:=by
   obtain⟨b,e,hb⟩:=need_iff hx2
   simp only[I.dst,Same_put]at hb
   subst hb
   exact e
  have ht:=put_t hsame
  have hd':=put_d hsame d rfl
  refine⟨fun j hj=> ?_,fun t htT y hy=> ?_,fun l hl=>(put_o hsame l).trans (h.ob l hl),fun l hl hn=>(put_o hsame l).trans (h.no l hl (hn.imp_right fun h2 h3=>h2 (hT'.2 h3))),fun hT=>stay ht (put_o hsame) (fun _ _ e=>by cases e) (hT'.1 hT),fun hn=> ?_,fun hT=>List.mem_append_left _ (h.mm (hT'.1 hT)),fun k v hk=>hT'.2 (h.mu k v ((List.mem_append.1 hk).resolve_right fun e=>by rw[List.mem_singleton]at e;cases e)),kp ht⟩
  ·rcases List.mem_append.1 hj with hj|hj
   ·exact J.puts ht hsep h.fc j hj
   ·rw[List.mem_singleton]at hj
    subst hj
    refine⟨fun e=>(by cases e),fun k v e=>(by cases e),fun d1 s1 e=> ?_,fun hg=>(by cases hg)⟩
    cases e
    refine⟨x,(ht s fun e=> ?_).trans hx,hd'⟩
    have e2:d=s:=by injection e
    exact hself d rfl (by rw[e2];simp[I.looks,O.tm])
  ·by_cases e:t=d
   ·subst e
    rw[hd']at hy
    cases hy
    by_cases hs:s∈T
    ·exfalso
     rw[if_pos (by simpa using hs)]at htT
     exact htT (List.mem_cons_self ..)
    ·exact h.un s hs x hx
   ·rw[ht t (fun e'=>e (by cases e';rfl))]at hy
    refine h.un t (fun h2=>htT ?_) y hy
    split
    ·exact List.mem_cons_of_mem _ h2
    ·exact h2
  ·have h2:=h.nT fun h3=>hn (hT'.2 h3)
   rw[h2];simp
 ·
  have hrd:=gen2_rd hg
  refine reads hrd fun x σ' ow' w' a' Γ' hsame hx2 hr'=> ?_
  have ht:=put_t hsame
  refine⟨fun j hj=> ?_,fun t htT y hy=> ?_,fun l hl=>(put_o hsame l).trans (h.ob l hl),fun l hl hn=>(put_o hsame l).trans (h.no l hl hn),fun hT=>stay ht (put_o hsame) (fun _ _ e=>by subst e;cases hg) hT,h.nT,fun hT=>List.mem_append_left _ (h.mm hT),fun k v hk=>h.mu k v ((List.mem_append.1 hk).resolve_right fun e=>by rw[List.mem_singleton]at e;subst e;cases hg),kp ht⟩
  ·rcases List.mem_append.1 hj with hj|hj
   ·exact J.puts ht hsep h.fc j hj
   ·rw[List.mem_singleton]at hj
    subst hj
    refine⟨fun e=>(by subst e;cases hg),fun k v e=>(by subst e;cases hg),fun d1 s1 e=>(by subst e;cases hg),fun _=>⟨x,Γ,fun t htl=>ht t fun e=>hself t e htl,fun t htl y hy=>h.un t (hl t htl) y hy,h.ob,hx2,put_d hsame⟩⟩
  ·by_cases e:i.dst=some t
   ·rw[put_d hsame t e]at hy
    cases hy
    rcases rd_fr (p:=hd d0) hrd e ⟨fun t htl y hy=>h.un t (hl t htl) y hy,hbox⟩ hx2 with h2|h2
    ·exact h2
    ·exact absurd h2 nofalse
   ·rw[ht t e]at hy
    exact h.un t htT y hy
theorem J.chain(hS:SOk P G S){ops:List Oper}(hF0:Free (hd d0) Γ0):∀ {is done:List I} {l:List Oper} {T:List Nat} {σ:Lab->Value} {ow:Own} {w:World} {a:Act} {Γ:Env},J S d0 kk vk Γ0 done T Γ->chk2 d0 kk vk T is=true->
  statd is=true->(∀j∈done,∀i∈is,(∀d,i.dst=some d->j.dst≠some d∧d∉j.looks)∧difI j i=true)->gms P N ops is l=true->Rep N G σ ow w a Γ->vs S is Γ K->∃E T',K E∧J S d0 kk vk Γ0 (done++is) T' E
 | [],done,l,T,σ,ow,w,a,Γ,h,_,_,_,_,_,hv=>⟨Γ,T,hv,by simpa using h⟩
 |i::is,done,[],_,_,_,_,_,_,_,_,_,_,hm,_,_=>by simp[gms]at hm
 |i::is,done,o::l,T,σ,ow,w,a,Γ,h,hc,hs,hj,hm,hr,hv=>by
  simp only[gms,Bool.and_eq_true]at hm
  simp only[statd,Bool.and_eq_true]at hs
  simp only[chk2]at hc
  split at hc
  rotate_left
  ·cases hc
  rename_i T' hst
  simp only[Bool.and_eq_true]at hc
  have hself:∀d,i.dst=some d->d∉i.looks:=fun d hd hl=>by
   have:=List.all_eq_true.1 hs.1.2 d hl
   simp[dsts,hd]at this
  obtain⟨Γ',σ',ow',w',a',hk,hr',hJ⟩:=J.step (K:=fun Γ'=>vs S is Γ' K) hS hF0 h hst (fun j hjd d hd=>(hj j hjd i (by simp)).1 d hd) hself (fun j hjd=>(hj j hjd i (by simp)).2) hm.1 hr hv
  have hsep2:∀j∈done++[i],∀i'∈is,(∀d,i'.dst=some d->j.dst≠some d∧d∉j.looks)∧difI j i'=true:=fun j hjd i' hi'=>by
   rcases List.mem_append.1 hjd with hjd|hjd
   ·exact hj j hjd i' (List.mem_cons_of_mem _ hi')
   ·rw[List.mem_singleton]at hjd
    subst hjd
    have hmem:∀d,i'.dst=some d->d∈dsts is:=fun d hd=>List.mem_filterMap.2 ⟨i',hi',hd⟩
    refine⟨fun d hd=>⟨fun e=> ?_,fun hl=> ?_⟩,List.all_eq_true.1 hc.1 i' hi'⟩
    ·have:=hs.1.1
     rw[e]at this
     simp[hmem d hd]at this
    ·have:=List.all_eq_true.1 hs.1.2 d hl
     have h2:d∈dsts (j::is):=by
      simp only[dsts,List.filterMap_cons]
      split
      ·exact hmem d hd
      ·exact List.mem_cons_of_mem _ (hmem d hd)
     simp[h2]at this
  obtain⟨E,T2,hE,hJ2⟩:=J.chain hS hF0 hJ hc.2 hs.2 hsep2 hm.2 hr' hk
  exact⟨E,T2,hE,by simpa using hJ2⟩
theorem J.start(hF0:Free (hd d0) Γ0):J S d0 kk vk Γ0 [] [] Γ0:=
 ⟨fun _ h=>(by cases h),fun t _ y hy=>hF0.tm t y hy,fun _ _=>rfl,fun l hl _=>(by
  cases ho:lo Γ0.ob l with
  |none=>rfl
  |some q=>have:=(hF0.ob l q ho).1;rw[hl]at this;cases this),fun h=>(by cases h),fun _=>rfl,fun h=>(by cases h),fun _ _ h=>(by cases h),fun _ _=>rfl⟩
theorem dsts_mem{is:List I}{d:Nat}:d∈dsts is↔ ∃i∈is,i.dst=some d:=by simp[dsts,List.mem_filterMap]
theorem statd_inj:∀ {ps:List I} {i j:Nat} {p q:I} {d:Nat},statd ps=true->ps[i]? =some p->ps[j]? =some q->p.dst=some d->q.dst=some d->i=j
 | [],i,j,p,q,d,_,hp,_,_,_=>by simp at hp
 |x::xs,i,j,p,q,d,hs,hp,hq,hpd,hqd=>by
  simp only[statd,Bool.and_eq_true]at hs
  cases i with
  |zero=>
   cases j with
   |zero=>rfl
   |succ j=>
    exfalso
    simp only[List.getElem?_cons_zero,Option.some.injEq]at hp
    simp only[List.getElem?_cons_succ]at hq
    subst hp
    have:=hs.1.1
    rw[hpd]at this
    simp[dsts_mem.2 ⟨q,List.mem_of_getElem? hq,hqd⟩]at this
  |succ i=>
   cases j with
   |zero=>
    exfalso
    simp only[List.getElem?_cons_zero,Option.some.injEq]at hq
    simp only[List.getElem?_cons_succ]at hp
    subst hq
    have:=hs.1.1
    rw[hqd]at this
    simp[dsts_mem.2 ⟨p,List.mem_of_getElem? hp,hpd⟩]at this
   |succ j=>
    simp only[List.getElem?_cons_succ]at hp hq
    rw[statd_inj hs.2 hp hq hpd hqd]
def Pm(d0:Nat)(kk vk:Ki)(ps:List I)(U:List Nat):Prop:=∃j∈U,ps[j]? =some (.mm d0 kk vk)
structure Iv (d0:Nat) (kk vk:Ki) (Γ0:Env) (ps:List I) (E:Env) (U:List Nat) (Γ:Env):Prop where
 tm:∀t,(∀j∈U,∀q,ps[j]? =some q->q.dst≠some t)->lk Γ.tm t=lk E.tm t
 ob:∀l,hd d0 l=false->lo Γ.ob l=lo Γ0.ob l
 no:∀l,hd d0 l=true->(l≠ [d0]∨Pm d0 kk vk ps U)->lo Γ.ob l=none
 mp:¬Pm d0 kk vk ps U->∃es,lo Γ.ob [d0]=some (.mp kk vk es)∧kdist es∧(∀e∈es,∃k v,I.mu (.t d0) k v kk vk∈ps∧ev E k=some (.v kk e.1)∧ev E v=some (.v vk e.2))∧
  ∀j k v x y,ps[j]? =some (.mu (.t d0) k v kk vk)->j∉U->ev E k=some (.v kk x)->ev E v=some (.v vk y)->(x,y)∈es
 fr:Pm d0 kk vk ps U->∀t y,lk Γ.tm t=some y->y.refs (hd d0)=false
theorem Iv.same{ps:List I}{E:Env}{U:List Nat}{Γ Γ':Env}(h:Iv d0 kk vk Γ0 ps E U Γ)(hs:Same Γ' Γ):Iv d0 kk vk Γ0 ps E U Γ':=
 ⟨fun t ht=>(hs.1 t).trans (h.tm t ht),fun l hl=>(hs.2 l).trans (h.ob l hl),fun l hl hn=>(hs.2 l).trans (h.no l hl hn),fun hn=>(by
  obtain⟨es,a,b⟩:=h.mp hn
  exact⟨es,(hs.2 _).trans a,b⟩),fun hp t y hy=>h.fr hp t y ((hs.1 t).symm.trans hy)⟩
theorem Rep.of_perm{σ:Lab->Value}{ow:Own}{w:World}{a:Act}{Γ Γ':Env}(hr:Rep N G σ ow w a Γ)(ht:∀t,lk Γ'.tm t=lk Γ.tm t)
  (ho:∀l,lo Γ'.ob l=lo Γ.ob l∨∃kk vk es es',lo Γ.ob l=some (.mp kk vk es)∧lo Γ'.ob l=some (.mp kk vk es')∧es.Perm es'):Rep N G σ ow w a Γ':=by
 refine⟨hr.size,hr.defers,fun t x hx=>hr.tm t x ((ht t).symm.trans hx),fun l q hq=> ?_,hr.own,hr.top,fun l q hq hp=> ?_,hr.big⟩
 ·rcases ho l with h|⟨kk,vk,es,es',h1,h2,h3⟩
  ·exact hr.ob l q (h.symm.trans hq)
  ·rw[h2]at hq
   cases hq
   obtain⟨g,ms,clk,a1,a2,a3,es2,a4,a5,a6⟩:=hr.ob l _ h1
   exact⟨g,ms,clk,a1,a2,a3,es2,a4.trans h3,a5,a6⟩
 ·rcases ho l with h|⟨kk,vk,es,es',h1,h2,h3⟩
  ·exact hr.pin l q (h.symm.trans hq) hp
  ·rw[h2]at hq
   cases hq
   exact hr.pin l _ h1 hp
theorem asv{c:Ki}(x:c.T):AV.as c (.v c x)=some x:=by simp[AV.as]
theorem mpas{kk vk:Ki}(es:List (kk.T×vk.T)):mpAs kk vk (.mp kk vk es)=some es:=by simp[mpAs]
theorem Iv.step{ops:List Oper}{ps:List I}{E:Env}{TE:List Nat}(hF0:Free (hd d0) Γ0)(hJ:J S d0 kk vk Γ0 ps TE E)(hsd:statd ps=true)(hPc:chkP ps ops=true)
  (hcl:∀i∈ps,(i= .mm d0 kk vk)∨(∃k v,i= .mu (.t d0) k v kk vk)∨(∃d s,i= .mv d (.t s))∨i.gen2=true) {U:List Nat} {i:Nat} {p:I} {o:Oper} {Γ:Env} (hiU:i∈U) (hnd:U.Nodup) (hD:Down ops U) (hle:ps.length<=ops.length) (hp:ps[i]? =some p) (ho:ops[i]? =some o) (hedge:∀j∈edg o,j∉U) (h:Iv d0 kk vk Γ0 ps E U Γ):
  vi S p Γ fun Γ'=>Iv d0 kk vk Γ0 ps E (U.erase i) Γ':=by
 have him:i<ps.length:=(List.getElem?_eq_some_iff.1 hp).1
 have hpm:p∈ps:=List.mem_of_getElem? hp
 have hf:=hJ.fc p hpm
 have hedg:∀t∈p.looks,∀j q,ps[j]? =some q->q.dst=some t->j∉U:=fun t ht j q hq hd=>by
  have h1:=List.all_eq_true.1 hPc i (by simp[him])
  rw[hp,ho]at h1
  have h2:=List.all_eq_true.1 h1 t ht
  have hjm:j<ps.length:=(List.getElem?_eq_some_iff.1 hq).1
  have h3:=List.all_eq_true.1 h2 j (by simp[hjm])
  simp only[hq,Option.bind_some,hd,bne_self_eq_false,Bool.false_or]at h3
  exact hedge j (by simpa using h3)
 have hlook:∀t∈p.looks,lk Γ.tm t=lk E.tm t:=fun t ht=>h.tm t fun j hj q hq hd=>hedg t ht j q hq hd hj
 have hbox:∀l ls,hd d0 l=false->lo Γ0.ob l=some (.box ls)->refsL (hd d0) ls=false:=fun l ls hl ho=>(hF0.ob l _ ho).2 ls rfl
 have hsub:Pm d0 kk vk ps (U.erase i)->Pm d0 kk vk ps U:=fun⟨j,hj,e⟩=>⟨j,List.mem_of_mem_erase hj,e⟩
 have hpmE:p≠ .mm d0 kk vk->Pm d0 kk vk ps U->Pm d0 kk vk ps (U.erase i):=fun hne ⟨j,hj,e⟩=>⟨j,(List.mem_erase_of_ne fun e'=>by subst e';rw[hp]at e;cases e;exact hne rfl).2 hj,e⟩
 have tms:∀ {Γ':Env},(∀t,p.dst≠some t->lk Γ'.tm t=lk Γ.tm t)->(∀d,p.dst=some d->lk Γ'.tm d=lk E.tm d)->∀t,(∀j∈U.erase i,∀q,ps[j]? =some q->q.dst≠some t)->lk Γ'.tm t=lk E.tm t:=by
  intro Γ' h1 h2 t ht
  by_cases e:p.dst=some t
  ·exact h2 t e
  ·rw[h1 t e]
   refine h.tm t fun j hj q hq hqd=> ?_
   by_cases e':j=i
   ·subst e'
    rw[hp]at hq
    cases hq
    exact e hqd
   ·exact ht j ((List.mem_erase_of_ne e').2 hj) q hq hqd
 have mps:∀ {Γ':Env},p≠ .mm d0 kk vk->(∀k v,p≠ .mu (.t d0) k v kk vk)->(∀l,lo Γ'.ob l=lo Γ.ob l)->¬Pm d0 kk vk ps (U.erase i)->∃es,lo Γ'.ob [d0]=some (.mp kk vk es)∧kdist es∧(∀e∈es,∃k v,I.mu (.t d0) k v kk vk∈ps∧ev E k=some (.v kk e.1)∧ev E v=some (.v vk e.2))∧
   ∀j k v x y,ps[j]? =some (.mu (.t d0) k v kk vk)->j∉U.erase i->ev E k=some (.v kk x)->ev E v=some (.v vk y)->(x,y)∈es:=by
  intro Γ' h1 h2 h3 h4
  obtain⟨es,b1,b2,b3,b4⟩:=h.mp fun h5=>h4 (hpmE h1 h5)
  refine⟨es,(h3 _).trans b1,b2,b3,fun j k v x y hj hjU=>b4 j k v x y hj fun hjU'=> ?_⟩
  by_cases e:j=i
  ·subst e
   rw[hp]at hj
   cases hj
   exact h2 k v rfl
  ·exact hjU ((List.mem_erase_of_ne e).2 hjU')
 rcases hcl p hpm with rfl|⟨k,v,rfl⟩|⟨d,s,rfl⟩|hg
 ·
  have hP:Pm d0 kk vk ps U:=⟨i,hiU,hp⟩
  have hnP:¬Pm d0 kk vk ps (U.erase i):=fun⟨j,hj,e⟩=>by
   have:=statd_inj hsd e hp (d:=d0) rfl rfl
   subst this
   exact hnd.not_mem_erase hj
  have hfree:Free (hd d0) Γ:=⟨fun t y hy=>h.fr hP t y hy,fun l q hq=>by
   cases hl:hd d0 l with
   |false=>exact⟨rfl,fun ls e=>hbox l ls hl ((h.ob l hl).symm.trans (e▸hq))⟩
   |true=>rw[h.no l hl (.inr hP)]at hq;cases hq⟩
  show Iv d0 kk vk Γ0 ps E (U.erase i) (Γ.made d0 (.mp [d0]) [([d0],.mp kk vk [])])
  refine Iv.same (Γ:=Γ.adds (.mp [d0]) [([d0],.mp kk vk [])] (some d0)) ?_ (made_same hfree _ _)
  refine⟨tms (fun t hn=> ?_) (fun d hd=> ?_),fun l hl=> ?_,fun l hl hn=> ?_,fun _=>⟨[],by simp[Env.adds,lo],List.Pairwise.nil,fun e he=>(by cases he),fun j k v x y hj hjU=> ?_⟩,fun h5=>absurd h5 hnP⟩
  ·simp only[Env.adds,lk]
   rw[if_neg]
   rintro rfl
   exact hn rfl
  ·cases hd
   rw[hf.mm rfl]
   simp[Env.adds,lk]
  ·simp only[Env.adds,List.cons_append,List.nil_append,lo]
   rw[if_neg]
   ·exact h.ob l hl
   ·rintro rfl
    simp[hd]at hl
  ·rcases hn with hn|hn
   ·simp only[Env.adds,List.cons_append,List.nil_append,lo]
    rw[if_neg (Ne.symm hn)]
    exact h.no l hl (.inr hP)
   ·exact absurd hn hnP
  ·exfalso
   have hjne:j≠i:=fun e=>by subst e;rw[hp]at hj;cases hj
   have hjU':j∉U:=fun h6=>hjU ((List.mem_erase_of_ne hjne).2 h6)
   have hjm:j<ps.length:=(List.getElem?_eq_some_iff.1 hj).1
   have hjo:ops[j]? =some (ops[j]'(by omega)):=List.getElem?_eq_getElem (by omega)
   have h1:=List.all_eq_true.1 hPc j (by simp[hjm])
   rw[hj,hjo]at h1
   have h2:=List.all_eq_true.1 h1 d0 (by simp[I.looks,O.tm])
   have h3:=List.all_eq_true.1 h2 i (by simp[him])
   simp only[hp,Option.bind_some,I.dst,bne_self_eq_false,Bool.false_or]at h3
   exact hD j _ hjo hjU' i (by simpa using h3) hiU
 ·
  have hT:=hJ.mu k v hpm
  obtain⟨jm,hjm⟩:=List.getElem?_of_mem (hJ.mm hT)
  have hjU:jm∉U:=hedg d0 (by simp[I.looks,O.tm]) jm _ hjm rfl
  have hnP:¬Pm d0 kk vk ps U:=fun⟨j,hj,e⟩=>by
   have:=statd_inj hsd e hjm (d:=d0) rfl rfl
   subst this
   exact hjU hj
  obtain⟨es,b1,b2,b3,b4⟩:=h.mp hnP
  obtain⟨hkey,hst,x,y,hx,hy⟩:=hf.mu k v rfl
  have hd':lk Γ.tm d0=some (.mp [d0]):=(hlook d0 (by simp[I.looks,O.tm])).trans ((hJ.fc _ (hJ.mm hT)).mm rfl)
  have hx':ev Γ k=some (.v kk x):=(ev_same fun t ht=>hlook t (by simp[I.looks,ht])).trans hx
  have hy':ev Γ v=some (.v vk y):=(ev_same fun t ht=>hlook t (by simp[I.looks,ht])).trans hy
  have hxx:=key_refl hkey x
  have hdE:∀ {a b:kk.T×vk.T},(∃k v,I.mu (.t d0) k v kk vk∈ps∧ev E k=some (.v kk a.1)∧ev E v=some (.v vk a.2))->(∃k v,I.mu (.t d0) k v kk vk∈ps∧ev E k=some (.v kk b.1)∧ev E v=some (.v vk b.2))->keq kk a.1 b.1=true->a=b:=by
   rintro a b ⟨k1,v1,a1,a2,a3⟩ ⟨k2,v2,c1,c2,c3⟩ hab
   obtain⟨esE,_,d2,_,d4⟩:=hJ.mp hT
   exact kdist_inj d2 (d4 k1 v1 a.1 a.2 a1 a2 a3) (d4 k2 v2 b.1 b.2 c1 c2 c3) hab
  simp only[vi]
  refine need_mk hd' (need_mk b1 (need_mk (mpas es) (need_mk hx' (need_mk (asv x) (need_mk hy' (need_mk (asv y) ⟨hkey,hst,?_⟩))))))
  refine⟨tms (fun _ _=>rfl) (fun d hd=>by cases hd),fun l hl=> ?_,fun l hl hn=> ?_,fun _=>⟨mset es x y,by simp[lo],kdist_mset b2 hxx,fun e he=> ?_,fun j k' v' x' y' hj hjU' h1 h2=> ?_⟩,fun h5=>absurd (hsub h5) hnP⟩
  ·simp only[lo]
   rw[if_neg]
   ·exact h.ob l hl
   ·rintro rfl;simp[hd]at hl
  ·rcases hn with hn|hn
   ·simp only[lo]
    rw[if_neg (Ne.symm hn)]
    exact h.no l hl (.inl hn)
   ·exact absurd (hsub hn) hnP
  ·rcases(mset_mem b2 hxx).1 he with rfl|⟨he,_⟩
   ·exact⟨k,v,hpm,hx,hy⟩
   ·exact b3 e he
  ·rw[mset_mem b2 hxx]
   by_cases e:j=i
   ·subst e
    rw[hp]at hj
    cases hj
    left
    rw[ev_kx h1 hx,ev_kx h2 hy]
   ·have hin:=b4 j k' v' x' y' hj (fun h6=>hjU' ((List.mem_erase_of_ne e).2 h6)) h1 h2
    cases hq:keq kk x x' with
    |false=>exact .inr ⟨hin,rfl⟩
    |true=>exact .inl (hdE (a:=(x,y)) (b:=(x',y')) ⟨k,v,hpm,hx,hy⟩ ⟨k',v',List.mem_of_getElem? hj,h1,h2⟩ hq).symm
 ·
  obtain⟨x,hs,hd'⟩:=hf.mv d s rfl
  have hs':lk Γ.tm s=some x:=(hlook s (by simp[I.looks,O.tm])).trans hs
  simp only[vi]
  refine need_mk hs' ?_
  refine⟨tms (fun t hn=> ?_) (fun d1 hd1=> ?_),h.ob,fun l hl hn=>h.no l hl (hn.imp_right hsub),mps (fun e=>by cases e) (fun _ _ e=>by cases e) (fun _=>rfl),fun h5 t y hy=> ?_⟩
  ·rw[lk_put,if_neg]
   rintro rfl
   exact hn rfl
  ·cases hd1
   rw[lk_put,if_pos rfl,hd']
  ·rw[lk_put]at hy
   split at hy
   ·cases hy;exact h.fr (hsub h5) s x hs'
   ·exact h.fr (hsub h5) t y hy
 ·
  have hrd:=gen2_rd hg
  obtain⟨x,Γi,c1,c2,c3,c4,c5⟩:=hf.gen hg
  have hA:Agr (hd d0) Γi Γ p.looks:=⟨fun t ht=>(hlook t ht).trans (c1 t ht),fun l hl=>(h.ob l hl).trans (c3 l hl).symm,c2,fun l ls hl ho=>hbox l ls hl ((c3 l hl).symm.trans ho)⟩
  have hvi:=vi_frame (Γ2:=Γ) hrd hA c4
  have hfre:Fre (hd d0) Γ p.looks:=⟨fun t ht y hy=>c2 t ht y (((hlook t ht).trans (c1 t ht)).symm.trans hy),fun l ls hl ho=>hbox l ls hl ((h.ob l hl).symm.trans ho)⟩
  have hne:p≠ .mm d0 kk vk:=fun e=>by subst e;cases hg
  have hne2:∀k v,p≠ .mu (.t d0) k v kk vk:=fun k v e=>by subst e;cases hg
  have fin:(∀d,p.dst=some d->x.refs (hd d0)=false)->vi S p Γ fun Γ'=>Iv d0 kk vk Γ0 ps E (U.erase i) Γ':=fun hxr=>by
   refine vi_imp (fun Γ' hsame=> ?_) hrd hvi
   have put_o:∀l,lo Γ'.ob l=lo Γ.ob l:=fun l=>by rw[hsame.2 l];cases p.dst<;>rfl
   have put_t:∀t,p.dst≠some t->lk Γ'.tm t=lk Γ.tm t:=fun t hn=>by
    rw[hsame.1 t]
    cases hd:p.dst with
    |none=>rfl
    |some d=>
     simp only[Env.puto,lk_put]
     rw[if_neg]
     rintro rfl
     exact hn hd
   have put_d:∀d,p.dst=some d->lk Γ'.tm d=some x:=fun d hd=>by
    rw[hsame.1 d,hd]
    simp[Env.puto,lk_put]
   refine⟨tms put_t (fun d hd=>(put_d d hd).trans (c5 d hd).symm),fun l hl=>(put_o l).trans (h.ob l hl),fun l hl hn=>(put_o l).trans (h.no l hl (hn.imp_right hsub)),mps hne hne2 put_o,fun h5 t y hy=> ?_⟩
   by_cases e:p.dst=some t
   ·rw[put_d t e]at hy
    cases hy
    exact hxr t e
   ·rw[put_t t e]at hy
    exact h.fr (hsub h5) t y hy
  cases hdd:p.dst with
  |none=>exact fin fun d hd=>by rw[hdd]at hd;cases hd
  |some d=>
   rcases rd_fr hrd hdd hfre hvi with h6|h6
   ·exact fin fun _ _=>h6
   ·exact vi_imp (fun _ hf=>hf.elim) hrd h6
theorem Iv.fin{ps:List I}{E:Env}{TE:List Nat}(hF0:Free (hd d0) Γ0)(hJ:J S d0 kk vk Γ0 ps TE E)(hmm:I.mm d0 kk vk∈ps){U:List Nat}(hU:∀i∈U,ps.length<=i){Γ:Env}(h:Iv d0 kk vk Γ0 ps E U Γ)
  {σ:Lab->Value} {ow:Own} {w:World} {a:Act} (hr:Rep N G σ ow w a Γ):Rep N G σ ow w a E:=by
 have hnone:∀j∈U,ps[j]? =none:=fun j hj=>List.getElem?_eq_none (hU j hj)
 have hnP:¬Pm d0 kk vk ps U:=fun⟨j,hj,e⟩=>by rw[hnone j hj]at e;cases e
 have hT:d0∈TE:=Classical.byContradiction fun hn=>by
  have h1:=(hJ.fc _ hmm).mm rfl
  have h2:=hJ.un d0 hn _ h1
  simp[AV.refs,hd]at h2
 refine hr.of_perm (fun t=>(h.tm t fun j hj q hq=>by rw[hnone j hj]at hq;cases hq).symm) fun l=> ?_
 cases hl:hd d0 l with
 |false=>exact .inl ((hJ.ob l hl).trans (h.ob l hl).symm)
 |true=>
  by_cases e:l=[d0]
  ·subst e
   obtain⟨es,b1,b2,b3,b4⟩:=h.mp hnP
   obtain⟨es',c1,c2,c3,c4⟩:=hJ.mp hT
   refine .inr ⟨kk,vk,es,es',b1,c1,?_⟩
   have hmem:∀e,e∈es↔e∈es':=fun e=>by
    constructor
    ·intro he
     obtain⟨k,v,d1,d2,d3⟩:=b3 e he
     exact c4 k v e.1 e.2 d1 d2 d3
    ·intro he
     obtain⟨_,k,v,d1,d2,d3⟩:=c3 e he
     obtain⟨j,hj⟩:=List.getElem?_of_mem d1
     exact b4 j k v e.1 e.2 hj (fun hjU=>by rw[hnone j hjU]at hj;cases hj) d2 d3
   cases es' with
   |nil=>
    cases es with
    |nil=>exact List.Perm.refl _
    |cons e r=>have:=(hmem e).1 (by simp);cases this
   |cons e r=>exact kdist_same (c3 e (by simp)).1 c2 b2 hmem
  ·exact .inl ((hJ.no l hl (.inl e)).trans (h.no l hl (.inl e)).symm)
theorem chk2_cl:∀ {ps:List I} {T:List Nat},chk2 d0 kk vk T ps=true->∀i∈ps,(i= .mm d0 kk vk)∨(∃k v,i= .mu (.t d0) k v kk vk)∨(∃d s,i= .mv d (.t s))∨i.gen2=true
 | [],_,_,i,hi=>by cases hi
 |x::xs,T,h,i,hi=>by
  simp only[chk2]at h
  split at h
  rotate_left
  ·cases h
  rename_i T' hst
  simp only[Bool.and_eq_true]at h
  rcases List.mem_cons.1 hi with rfl|hi
  ·rcases st2_cases hst with⟨h,_⟩|⟨k,v,h,_⟩|⟨d,s,h,_⟩|⟨h,_⟩
   ·exact .inl h
   ·exact .inr (.inl ⟨k,v,h⟩)
   ·exact .inr (.inr (.inl ⟨d,s,h⟩))
   ·exact .inr (.inr (.inr h))
  ·exact chk2_cl h.2 i hi
def mms:List I->List (Nat×Ki×Ki)
 | []=>[]
 | .mm d k v::is=>(d,k,v)::mms is
 |_::is=>mms is
theorem mms_mem{d:Nat}{k v:Ki}:∀ {ps:List I},(d,k,v)∈mms ps->I.mm d k v∈ps
 | [],h=>by cases h
 |i::is,h=>by
  unfold mms at h
  split at h
  ·cases h
  ·rename_i e
   simp only[List.cons.injEq]at e
   obtain⟨rfl,rfl⟩:=e
   rcases List.mem_cons.1 h with h|h
   ·cases h;simp
   ·exact List.mem_cons_of_mem _ (mms_mem h)
  ·rename_i e
   simp only[List.cons.injEq]at e
   obtain⟨rfl,rfl⟩:=e
   exact List.mem_cons_of_mem _ (mms_mem h)
def drM2(P:Program)(N:Nat)(ds:List Nat)(ps ts:List I)(ops:List Oper):Bool:=
 match mms ps with
 | [(d0,kk,vk)]=>ds==[d0]&&P.follows .mixedOrders&&gms P N ops (ps++ts) ops&&statd ps&&chkE ops&&chkP ps ops&&chkT ps.length ops&&chk2 d0 kk vk [] ps
 |_=>false
theorem snd_dr2(hS:SOk P G S){id:Nat}{ops:Array Oper}{ds:List Nat}{ps ts:List I}(hm:drM2 P N ds ps ts ops.toList=true){σ:Lab->Value}{ow:Own}{w:World}{a:Act}{Γ:Env}
  (hr:Rep N G σ ow w a Γ) (hv:vs S ps (Γ.pre ds) fun Γ'=>vs S ts Γ' K) (hQ:∀a' w',Post N G ow w K a' w'->Q .normal a' w'):(Code.region id ops true).wp P Q a w:=by
 unfold drM2 at hm
 split at hm
 rotate_left
 ·cases hm
 rename_i d0 kk vk hmms
 simp only[Bool.and_eq_true,beq_iff_eq]at hm
 obtain⟨⟨⟨⟨⟨⟨⟨rfl,hmix⟩,hgm⟩,hst⟩,hE⟩,hP⟩,hT⟩,hC⟩:=hm
 have hmm:I.mm d0 kk vk∈ps:=mms_mem (by rw[hmms];simp)
 have hr':=(hr.pre [d0]).drawn
 have hfree:=Free.pre Γ [d0]
 rw[hds_hd]at hfree
 obtain⟨E,TE,hE2,hJ⟩:=J.chain hS hfree (J.start hfree) hC hst (fun j hj=>by cases hj) (gms_take hgm) hr' hv
 rw[List.nil_append]at hJ
 refine wp_region_any hmix ?_
 have he:ops=ops.toList.toArray:=by simp
 rw[he]
 have hsz:ops.toList.toArray.size=ops.toList.length:=by simp
 rw[hsz]
 have hL:=Lst.start ops.toList.length
 have hlen:=(gms_at hgm).1
 rw[List.length_append]at hlen
 refine any_inv (K:=K) hS hgm hE hT (Iv d0 kk vk (Γ.pre [d0]) ps E) (fun U i p o Γ' hiU hnd _ hD hp ho hedge hI=>Iv.step hfree hJ hst hP (chk2_cl hC) hiU hnd hD (by omega) hp ho hedge hI)
  (fun U Γ' hU hI σ ow w a hr=>⟨E,Iv.fin hfree hJ hmm hU hI hr,hE2⟩) (by simp) hL (fun i o ho hn=> ?_) (fun i _ h=>by simp at h⊢;exact h) ⟨fun t ht=>(hJ.keep t fun i hi hd=> ?_).symm,fun _ _=>rfl,fun l hl _=> ?_,fun hn=>absurd ?_ hn,fun _ t y hy=>hfree.tm t y hy⟩ hr' fun a' w' h=>hQ _ _ ?_
 ·exact absurd (by simpa using(List.getElem?_eq_some_iff.1 ho).1) hn
 ·obtain⟨j,hj⟩:=List.getElem?_of_mem hi
  refine ht j ?_ i hj hd
  have h2:j<ps.length:=(List.getElem?_eq_some_iff.1 hj).1
  simp only[List.mem_range]
  omega
 ·cases ho:lo (Γ.pre [d0]).ob l with
  |none=>rfl
  |some q=>have:=(hfree.ob l q ho).1;rw[hl]at this;cases this
 ·obtain⟨j,hj⟩:=List.getElem?_of_mem hmm
  refine⟨j,?_,hj⟩
  have h2:j<ps.length:=(List.getElem?_eq_some_iff.1 hj).1
  simp only[List.mem_range]
  omega
 ·exact Post.trans (a':=a') (K':=K) (ow:=ow) (w:=w) (ow':=ow) (w':= {w with drawn:=w.drawn+1}) ⟨rfl,rfl,rfl,Nat.le_refl _,fun _ _ h=>⟨h,rfl⟩⟩ h
end
end Go.Q
namespace Go.Q
def Mq.lend:Mq->Bool
 | .v _| .fn=>false
 |_=>true
def okd(T:List Nat)(i:I):Bool:=match i.dst with
 |some d=> !T.contains d
 |none=>true
def I.isBf(t:Nat):I->Bool
 | .bf _ _ _=>true
 | .ia _ o _ _=> !o.tm.contains t
 | .bi _ _ _ _=>true
 |_=>false
def st3(d0:Nat)(T:List Nat)(bef:Bool):I->Option (List Nat×Bool)
 | .cq (some d) f xs=>if d=d0∧bef=true∧(xs.all fun x=> !x.2.lend||x.1.tm.all fun t=>T.contains t)=true then some (T,false)else none
 | .mv d (.t s)=>if s=d0∨T.contains d=true then none else some (if T.contains s then d::T else T,bef)
 |i=>if i.gen2&&okd T i&&i.looks.all (fun t=> !T.contains t&&(!(t==d0)||(!bef&&i.isBf d0)))then some (T,bef)else none
def chk3(d0:Nat):List Nat->Bool->List I->Bool
 |_,_,[]=>true
 |T,bef,i::is=>match st3 d0 T bef i with
  |some q=>chk3 d0 q.1 q.2 is
  |none=>false
def inp(ps:List I):List Nat:=(ps.flatMap I.looks).filter fun t=> !(dsts ps).contains t
def cqs:List I->List Nat
 | []=>[]
 | .cq (some d) _ _::is=>d::cqs is
 |_::is=>cqs is
theorem st3_cases{d0:Nat}{T:List Nat}{bef:Bool}{i:I}{q:List Nat×Bool}(h:st3 d0 T bef i=some q):
  (∃f xs,i= .cq (some d0) f xs∧bef=true∧q=(T,false)∧∀x∈xs,x.2.lend=true->∀t∈x.1.tm,t∈T)∨(∃d s,i= .mv d (.t s)∧s≠d0∧d∉T∧q=(if T.contains s then d::T else T,bef))∨(i.gen2=true∧q=(T,bef)∧(∀d,i.dst=some d->d∉T)∧∀t∈i.looks,t∉T∧(t≠d0∨bef=false∧i.isBf d0=true)):=by
 unfold st3 at h
 split at h
 ·split at h
  ·rename_i e
   obtain⟨rfl,h1,h2⟩:=e
   cases h
   refine .inl ⟨_,_,rfl,h1,rfl,fun x hx hl t ht=> ?_⟩
   have:=List.all_eq_true.1 h2 x hx
   rw[hl]at this
   simp only[Bool.not_true,Bool.false_or]at this
   simpa using List.all_eq_true.1 this t ht
  ·cases h
 ·split at h
  ·cases h
  ·rename_i e
   cases h
   simp only[not_or]at e
   exact .inr (.inl ⟨_,_,rfl,e.1,by simpa using e.2,rfl⟩)
 ·split at h
  ·rename_i e
   simp only[Bool.and_eq_true]at e
   cases h
   refine .inr (.inr ⟨e.1.1,rfl,fun d hd=> ?_,fun t ht=> ?_⟩)
   ·have:=e.1.2
    unfold okd at this
    rw[hd]at this
    simpa using this
   ·have:=List.all_eq_true.1 e.2 t ht
    simpa using this
  ·cases h
section
variable {Γ Γ2:Env}
theorem agr0(ho:∀l,lo Γ2.ob l=lo Γ.ob l):Agr (fun _=>false) Γ Γ2 []:=
 ⟨fun t ht=>(by cases ht),fun l _=>ho l,fun t ht=>(by cases ht),fun l ls _ _=>refsL_false ls⟩
theorem lnqs_agr(ho:∀l,lo Γ2.ob l=lo Γ.ob l):∀ {xs:List (O×Mq)} {es:List LE},(∀t∈xs.flatMap (fun x=>x.1.tm),lk Γ2.tm t=lk Γ.tm t)->lnqs Γ2 es xs=lnqs Γ es xs
 | [],_,_=>rfl
 |(o,m)::r,es,ht=>by
  have e1:ev Γ2 o=ev Γ o:=ev_same fun t h=>ht t (by simp[h])
  have e2:∀a es,lnq Γ2.ob es a m=lnq Γ.ob es a m:=fun a es=>by
   cases m with
   |v c=>simp only[lnq];rw[pk_agr (agr0 ho) (refs_false a)]
   |_=>rfl
  have e3:∀es,lnqs Γ2 es r=lnqs Γ es r:=fun es=>lnqs_agr ho fun t h=>ht t (by simp only[List.flatMap_cons,List.mem_append];exact .inr h)
  simp only[lnqs,e1,e2,e3]
theorem lfs_agr{a b:List (Lab×Ob)}(ho:∀l,lo a l=lo b l):∀ls:List AV,lfs a ls=lfs b ls
 | []=>rfl
 |x::r=>by
  have ih:=lfs_agr ho r
  cases x with
  |v c y=>cases c<;>simp only[lfs,ih]
  |nl c=>simp only[lfs,ih]
  |cl c xs=>simp only[lfs,ih]
  |sl l=>simp only[lfs,ih,ho]
  |_=>rfl
theorem lob_agr{a b:List (Lab×Ob)}(ho:∀l,lo a l=lo b l)(o:Ob):lob a o=lob b o:=by
 cases o with
 |box as=>simp only[lob,lfs_agr ho]
 |_=>rfl
theorem loes_agr{a b:List (Lab×Ob)}(ho:∀l,lo a l=lo b l):∀es:List LE,loes a es=loes b es
 | []=>rfl
 |e::es=>by
  have h:loe a e=loe b e:=by
   cases e with
   |lab l=>
    simp only[loe,ho]
    cases lo b l with
    |none=>rfl
    |some q=>exact lob_agr ho q
   |new dp c=>rfl
  simp only[loes,h,loes_agr ho es]
theorem backO_agr{a b:List (Lab×Ob)}(ho:∀l,lo a l=lo b l):∀(es:List LE) (os:List LO),backO a es os=backO b es os
 | [],_=>by simp only[backO]
 | .lab l::es,[]=>rfl
 | .new _ _::es,[]=>rfl
 | .lab l::es,o::os=>by simp only[backO,ho,backO_agr ho es os]
 | .new _ _::es,o::os=>by simp only[backO,backO_agr ho es os]
theorem lo_dropO'(p:Lab->Bool):∀(ob:List (Lab×Ob)) (l:Lab),lo (dropO p ob) l=if p l then none else lo ob l
 | [],l=>by simp[dropO,lo]
 |(k,z)::r,l=>by
  have ih:=lo_dropO' p r l
  simp only[dropO]
  by_cases hk:p k=true
  ·rw[if_pos hk,ih]
   by_cases hl:p l=true
   ·simp[hl]
   ·simp only[hl,Bool.false_eq_true,if_false,lo]
    rw[if_neg]
    rintro rfl
    exact hl hk
  ·rw[if_neg hk]
   simp only[lo]
   by_cases e:k=l
   ·subst e;simp[hk]
   ·rw[if_neg e,if_neg e];exact ih
theorem lo_kill'(p:Lab->Bool)(ob:List (Lab×Ob))(l:Lab):lo (killO p ob) l=if p l then none else(lo ob l).map (·.kill p):=by
 by_cases h:p l=true
 ·rw[if_pos h,lo_killO_none p ob l h]
 ·rw[if_neg h,lo_killO p ob l (by simpa using h)]
theorem back_agr(ho:∀l,lo Γ2.ob l=lo Γ.ob l)(d:Option Nat)(es:List LE)(cons:List Lab)(os:List LO)(r:RA)(l:Lab):lo (Γ2.back d es cons os r).ob l=lo (Γ.back d es cons os r).ob l:=by
 simp only[Env.back,lo_append,backO_agr ho,lo_dropO',lo_kill',ho]
theorem back_tm(d:Nat)(es:List LE)(cons:List Lab)(os:List LO)(r:RA)(t:Nat):lk (Γ.back (some d) es cons os r).tm t=if d=t then some (r.intro [d]).1 else(lk Γ.tm t).map (·.kill fun m=>hdo (some d) m||(inLs cons m||(inLs (goneL es os) m||subL (labs es) m))):=by
 simp only[Env.back,resA,lk,lk_killT]
theorem back_dom{ob:List (Lab×Ob)}{l:Lab}{q:Ob}:∀ {es:List LE} {os:List LO},oneL es os=true->(∀o∈os,o= .gone∨(∃dp c xs,o= .row dp c xs)∨∃ls,o= .box ls)->lo (backO ob es os) l=some q->l∈labs es∨∃n,[n]∈labs es∧hd n l=true
 | [],os,_,_,h=>by simp[backO,lo]at h
 | .lab m::es,[],_,_,h=>by simp[backO,lo]at h
 | .new _ _::es,[],_,_,h=>by simp[backO,lo]at h
 | .lab m::es,o::os,h1,hr,h=>by
  simp only[backO,lo_append]at h
  have h1':oneL es os=true:=by
   cases o with
   |box ls=>simp only[oneL,Bool.and_eq_true]at h1;exact h1.2
   |_=>exact h1
  split at h
  ·rename_i q' hq
   rcases hr o (by simp)with rfl|⟨dp,c,xs,rfl⟩|⟨ls,rfl⟩
   ·simp[LO.obs,lo]at hq
   ·simp only[LO.obs,lo]at hq
    split at hq
    ·rename_i e;subst e;simp[labs]
    ·cases hq
   ·simp only[oneL,Bool.and_eq_true]at h1
    have h2:=h1.1
    split at h2
    ·rename_i n
     simp only[LO.obs,lo]at hq
     split at hq
     ·rename_i e;subst e;simp[labs]
     ·exact .inr ⟨n,by simp[labs],intro_heads (r:=RA.t (ls.map LV.ra)) hq⟩
    ·cases h2
  ·simp only[labs,List.mem_cons]
   rcases back_dom h1' (fun o ho=>hr o (List.mem_cons_of_mem _ ho)) h with h|⟨n,h,h2⟩
   ·exact .inl (.inr h)
   ·exact .inr ⟨n,.inr h,h2⟩
 | .new _ _::es,o::os,h1,hr,h=>by
  simp only[backO]at h
  simp only[labs]
  exact back_dom h1 (fun o ho=>hr o (List.mem_cons_of_mem _ ho)) h
theorem goneL_sub{l:Lab}:∀ {es:List LE} {os:List LO},l∈goneL es os->l∈labs es
 | [],_,h=>by simp[goneL]at h
 | .lab m::es,[],h=>by simp[goneL]at h
 | .new _ _::es,[],h=>by simp[goneL]at h
 | .lab m::es,o::os,h=>by
  simp only[goneL]at h
  simp only[labs,List.mem_cons]
  split at h
  ·rcases List.mem_cons.1 h with h|h
   ·exact .inl h
   ·exact .inr (goneL_sub h)
  ·exact .inr (goneL_sub h)
 | .new _ _::es,o::os,h=>by
  simp only[goneL]at h
  simp only[labs]
  exact goneL_sub h
theorem lfs_lone{ob:List (Lab×Ob)}:∀ {ls:List AV} {q:List LV×List Lab},ls.all AV.lone=true->lfs ob ls=some q->q.2=[]
 | [],q,_,h=>by simp only[lfs,Option.some.injEq]at h;subst h;rfl
 | .v c x::r,q,hl,h=>by
  simp only[List.all_cons,Bool.and_eq_true]at hl
  cases c<;>simp only[lfs,Option.map_eq_some_iff,reduceCtorEq]at h
  all_goals (obtain⟨q',h1,h2⟩:=h;subst h2;exact lfs_lone (q:=q') hl.2 h1)
 | .nl c::r,q,hl,h=>by
  simp only[List.all_cons,Bool.and_eq_true]at hl
  simp only[lfs,Option.map_eq_some_iff]at h
  obtain⟨q',h1,h2⟩:=h
  subst h2
  exact lfs_lone (q:=q') hl.2 h1
 | .cl c xs::r,q,hl,h=>by
  simp only[List.all_cons,Bool.and_eq_true]at hl
  simp only[lfs,Option.map_eq_some_iff]at h
  obtain⟨q',h1,h2⟩:=h
  subst h2
  exact lfs_lone (q:=q') hl.2 h1
 | .sl _::_,_,hl,_| .pt _ _::_,_,hl,_| .mp _::_,_,hl,_| .ag _ _::_,_,hl,_| .fn _ _::_,_,hl,_| .tu _::_,_,hl,_=>by simp[AV.lone]at hl
def Lent(ob:List (Lab×Ob))(l:Lab):Prop:=(∃dp pn c xs,lo ob l=some (.row dp pn c xs))∨∃ls,lo ob l=some (.box ls)∧ls.all AV.lone=true
def LRow(o:LO):Prop:=(∃dp c xs,o= .row dp c xs)∨∃ls,o= .box ls
theorem loes_rows{ob:List (Lab×Ob)}:∀ {es:List LE} {los:List LO} {cs:List Lab},(∀l∈labs es,Lent ob l)->loes ob es=some (los,cs)->cs=[]∧∀o∈los,LRow o
 | [],los,cs,_,h=>by
  simp only[loes,Option.some.injEq,Prod.mk.injEq]at h
  obtain⟨rfl,rfl⟩:=h
  exact⟨rfl,fun o ho=>(by cases ho)⟩
 |e::es,los,cs,hl,h=>by
  simp only[loes,Option.bind_eq_some_iff,Option.map_eq_some_iff,Prod.mk.injEq]at h
  obtain⟨⟨o1,c1⟩,g1,⟨o2,c2⟩,g2,rfl,rfl⟩:=h
  have hl2:∀l∈labs es,Lent ob l:=fun l h=>hl l (by cases e<;>simp[labs,h])
  obtain⟨rfl,h2⟩:=loes_rows hl2 g2
  have h1:c1=[]∧LRow o1:=by
   cases e with
   |new dp c=>simp only[loe,Option.some.injEq,Prod.mk.injEq]at g1;exact⟨g1.2.symm,.inl ⟨_,_,_,g1.1.symm⟩⟩
   |lab m=>
    rcases hl m (by simp[labs])with⟨dp,pn,c,xs,hq⟩|⟨ls,hq,hf⟩
    ·simp only[loe,hq,Option.bind_some,lob,Option.some.injEq,Prod.mk.injEq]at g1
     exact⟨g1.2.symm,.inl ⟨_,_,_,g1.1.symm⟩⟩
    ·simp only[loe,hq,Option.bind_some,lob,Option.map_eq_some_iff,Prod.mk.injEq]at g1
     obtain⟨q,h1,rfl,rfl⟩:=g1
     exact⟨lfs_lone hf h1,.inr ⟨_,rfl⟩⟩
  obtain⟨rfl,h3⟩:=h1
  exact⟨rfl,fun o ho=>by rcases List.mem_cons.1 ho with rfl|ho;exact h3;exact h2 o ho⟩
theorem likes_rows:∀ {los os:List LO},likes los os=true->(∀o∈los,LRow o)->∀o∈os,o= .gone∨(∃dp c xs,o= .row dp c xs)∨∃ls,o= .box ls
 | [],[],_,_,o,h=>by cases h
 | [],_::_,h,_,_,_=>by simp[likes]at h
 |_::_,[],h,_,_,_=>by simp[likes]at h
 |a::as,b::bs,h,hr,o,ho=>by
  simp only[likes,Bool.and_eq_true]at h
  rcases List.mem_cons.1 ho with rfl|ho
  ·cases o with
   |gone=>exact .inl rfl
   |row dp c xs=>exact .inr (.inl ⟨_,_,_,rfl⟩)
   |box ls=>exact .inr (.inr ⟨_,rfl⟩)
   |mp kk vk es=>
    rcases hr a (by simp)with⟨dp,c,xs,rfl⟩|⟨ls,rfl⟩<;>simp[LO.like]at h
  ·exact likes_rows h.2 (fun o h=>hr o (List.mem_cons_of_mem _ h)) o ho
theorem oneL_like:∀ {es:List LE} {los os:List LO},likes los os=true->oneL es los=true->oneL es os=true
 | [],_,[],_,_=>rfl
 | [],_,_::_,_,_=>rfl
 | .lab _::_,[],[],_,_=>rfl
 | .new _ _::_,[],[],_,_=>rfl
 |_::_,[],_::_,h,_=>by simp[likes]at h
 |_::_,_::_,[],h,_=>by simp[likes]at h
 | .new _ _::es,a::as,b::bs,h,h1=>by
  simp only[likes,Bool.and_eq_true]at h
  have h2:oneL es as=true:=by cases a<;>simpa[oneL]using h1
  have:=oneL_like h.2 h2
  cases b<;>simpa[oneL]using this
 | .lab l::es,a::as,b::bs,h,h1=>by
  simp only[likes,Bool.and_eq_true]at h
  have h2:oneL es as=true:=by
   cases a with
   |box ls=>simp only[oneL,Bool.and_eq_true]at h1;exact h1.2
   |_=>simpa[oneL]using h1
  have h3:=oneL_like h.2 h2
  cases b with
  |box ls=>
   cases a with
   |box ls'=>simp only[oneL,Bool.and_eq_true]at h1⊢;exact⟨h1.1,h3⟩
   |_=>simp[LO.like]at h
  |_=>simpa[oneL]using h3
theorem labs_app:∀(a b:List LE),labs (a++b)=labs a++labs b
 | [],b=>rfl
 | .lab l::a,b=>by simp[labs,labs_app a b]
 | .new _ _::a,b=>by simp[labs,labs_app a b]
theorem addL_labs{l m:Lab}:∀ {i:Nat} {es:List LE},m∈labs (addL l i es).2->m=l∨m∈labs es
 |i,[],h=>by simp[addL,labs]at h;exact .inl h
 |i,e::es,h=>by
  simp only[addL]at h
  split at h
  ·exact .inr h
  ·cases e with
   |lab k=>
    simp only[labs,List.mem_cons]at h⊢
    rcases h with h|h
    ·exact .inr (.inl h)
    ·exact(addL_labs h).imp_right .inr
   |new dp c=>
    simp only[labs]at h⊢
    exact addL_labs h
def Hit(x:AV)(m:Lab):Prop:=x= .sl m∨∃j,x= .pt m j
theorem lnqs_labs{hot:Lab->Bool}{T:List Nat}(hT:∀t∈T,∃m x,lk Γ.tm t=some x∧Hit x m∧hot m=true):∀ {xs:List (O×Mq)} {es es':List LE} {ss:List SA},(∀x∈xs,x.2.lend=true->∀t∈x.1.tm,t∈T)->(∀l∈labs es,hot l=true)->lnqs Γ es xs=some (ss,es')->∀l∈labs es',hot l=true
 | [],es,es',ss,_,h0,h=>by
  simp only[lnqs,Option.some.injEq,Prod.mk.injEq]at h
  obtain⟨_,rfl⟩:=h
  exact h0
 |(o,m)::r,es,es',ss,hx,h0,h=>by
  simp only[lnqs,Option.bind_eq_some_iff,Option.map_eq_some_iff,Prod.mk.injEq]at h
  obtain⟨a,ha,⟨s1,e1⟩,h1,⟨ss2,e2⟩,h2,_,rfl⟩:=h
  refine lnqs_labs hT (fun x h=>hx x (List.mem_cons_of_mem _ h)) ?_ h2
  cases m with
  |v c=>
   simp only[lnq]at h1
   split at h1
   ·cases h1
   ·simp only[Option.map_eq_some_iff,Prod.mk.injEq]at h1
    obtain⟨_,_,_,rfl⟩:=h1
    exact h0
  |fn=>
   simp only[lnq,Option.map_eq_some_iff,Prod.mk.injEq]at h1
   obtain⟨_,_,_,rfl⟩:=h1
   exact h0
  |q=>
   simp only[lnq]at h1
   cases o with
   |t n=>
    obtain⟨k,x,hk,hit,hh⟩:=hT n (hx (O.t n,_) (List.mem_cons_self ..) rfl n (by simp[O.tm]))
    simp only[ev,hk,Option.some.injEq]at ha
    subst ha
    have h1':(addL k 0 es).2=e1:=by
     rcases hit with rfl|⟨j,rfl⟩<;>(simp only[lnd,Option.some.injEq,Prod.mk.injEq]at h1;exact h1.2)
    subst h1'
    intro l hl
    rcases addL_labs hl with rfl|hl
    ·exact hh
    ·exact h0 l hl
   |f g=>
    simp only[ev,Option.some.injEq]at ha
    subst ha
    simp only[lnd,lndL,Option.map_some,Option.some.injEq,Prod.mk.injEq]at h1
    obtain⟨_,rfl⟩:=h1
    exact h0
   |no=>
    simp only[ev,Option.some.injEq]at ha
    subst ha
    simp[lnd]at h1
   |_=>
    simp only[ev,Option.some.injEq]at ha
    subst ha
    simp only[lnd,Option.some.injEq,Prod.mk.injEq]at h1
    obtain⟨_,rfl⟩:=h1
    exact h0
  |rw dp c=>
   simp only[lnq]at h1
   cases o with
   |t n=>
    obtain⟨k,x,hk,hit,hh⟩:=hT n (hx (O.t n,_) (List.mem_cons_self ..) rfl n (by simp[O.tm]))
    simp only[ev,hk,Option.some.injEq]at ha
    subst ha
    have h1':(addL k 0 es).2=e1:=by
     rcases hit with rfl|⟨j,rfl⟩
     ·simp only[Option.some.injEq,Prod.mk.injEq]at h1;exact h1.2
     ·simp at h1
    subst h1'
    intro l hl
    rcases addL_labs hl with rfl|hl
    ·exact hh
    ·exact h0 l hl
   |nl c=>
    simp only[ev,Option.some.injEq]at ha
    subst ha
    simp only[Option.some.injEq,Prod.mk.injEq]at h1
    obtain⟨_,rfl⟩:=h1
    intro l hl
    rw[labs_app]at hl
    simp only[labs,List.append_nil]at hl
    exact h0 l hl
   |_=>
    simp only[ev,Option.some.injEq]at ha
    subst ha
    simp at h1
end
theorem evs_at{Γ:Env}{p:Lab->Bool}:∀ {xs:List O} {as:List AV},evs Γ xs=some as->refsL p as=false->∀t∈xs.flatMap O.tm,∀y,lk Γ.tm t=some y->y.refs p=false
 | [],_,_,_,t,ht,_,_=>by simp at ht
 |o::r,as,h,hr,t,ht,y,hy=>by
  simp only[evs,Option.bind_eq_some_iff,Option.map_eq_some_iff]at h
  obtain⟨a,ha,s,hs,rfl⟩:=h
  simp only[refsL,Bool.or_eq_false_iff]at hr
  simp only[List.flatMap_cons,List.mem_append]at ht
  rcases ht with ht|ht
  ·cases o<;>simp[O.tm]at ht
   subst ht
   simp only[ev]at ha
   rw[hy]at ha
   cases ha
   exact hr.1
  ·exact evs_at hs hr.2 t ht y hy
theorem vb_v{b:BinOp}{x y:AV}{f:AV->Prop}(h:vb b x y f):(∃c v,x= .v c v)∧∃c v,y= .v c v:=by
 unfold vb at h
 split at h<;>first|exact⟨⟨_,_,rfl⟩,⟨_,_,rfl⟩⟩|exact h.elim
theorem bf_refs{S:FuncId->List SA->RA->Prop}{Γ:Env}{K:Env->Prop}{p:Lab->Bool}{i:I}{t:Nat}{y:AV}(hb:i.isBf t=true)(hv:vi S i Γ K)(ht:t∈i.looks)(hy:lk Γ.tm t=some y):y.refs p=false:=by
 unfold I.isBf at hb
 split at hb
 ·simp only[vi]at hv
  obtain⟨as,h1,hv⟩:=need_iff hv
  obtain⟨ys,h2,h3,_⟩:=need_iff hv
  exact refs_mono (p:=fun _=>true) (fun _ _=>rfl) (evs_at h1 h3 t ht y hy)
 ·rename_i d o ix c
  simp only[vi]at hv
  obtain⟨a,h1,hv⟩:=need_iff hv
  obtain⟨b,h2,hv⟩:=need_iff hv
  simp only[I.looks,List.mem_append]at ht
  rcases ht with ht|ht
  ·simp[ht]at hb
  ·cases ix<;>simp[O.tm]at ht
   subst ht
   have:b=y:=Option.some.inj (h2.symm.trans hy)
   subst this
   cases b with
   |v c x=>rfl
   |_=>exact hv.elim
 ·rename_i d op x z
  simp only[vi]at hv
  obtain⟨a,h1,hv⟩:=need_iff hv
  obtain⟨b,h2,hv⟩:=need_iff hv
  obtain⟨⟨c1,v1,rfl⟩,⟨c2,v2,rfl⟩⟩:=vb_v hv
  simp only[I.looks,List.mem_append]at ht
  rcases ht with ht|ht
  ·cases x<;>simp[O.tm]at ht
   subst ht
   have:AV.v c1 v1=y:=Option.some.inj (h1.symm.trans hy)
   subst this
   rfl
  ·cases z<;>simp[O.tm]at ht
   subst ht
   have:AV.v c2 v2=y:=Option.some.inj (h2.symm.trans hy)
   subst this
   rfl
 ·cases hb
structure Dat where
 f:FuncId
 xs:List (O×Mq)
 es:List LE
 os:List LO
 r:RA
def Dat.q(D:Dat)(d0:Nat):Lab->Bool:=fun m=>hdo (some d0) m||(inLs [] m||(inLs (goneL D.es D.os) m||subL (labs D.es) m))
def Dat.res(D:Dat)(d0:Nat):AV:=(D.r.intro [d0]).1
def Dat.back(D:Dat)(d0:Nat)(Γ:Env):Env:=Γ.back (some d0) D.es [] D.os D.r
structure Dat.ok (S:FuncId->List SA->RA->Prop) (Γ0:Env) (p:Lab->Bool) (d0:Nat) (V:Nat->Option AV) (D:Dat):Prop where
 run:∀Γ2:Env,(∀t∈(I.cq (some d0) D.f D.xs).looks,lk Γ2.tm t=V t)->(∀l,lo Γ2.ob l=lo Γ0.ob l)->∀K:Env->Prop,K (D.back d0 Γ2)->vi S (.cq (some d0) D.f D.xs) Γ2 K
 sub:∀m,D.q d0 m=true->p m=true
 pf:∀l,p l=false->lo (D.back d0 Γ0).ob l=lo Γ0.ob l
structure Fv (S:FuncId->List SA->RA->Prop) (Γ0:Env) (p:Lab->Bool) (V:Nat->Option AV) (i:I):Prop where
 mv:∀d s,i= .mv d (.t s)->∃x,V s=some x∧V d=some x
 gen:i.gen2=true->∃x Γi,(∀t∈i.looks,lk Γi.tm t=V t∧∀y,V t=some y->y.refs p=false)∧(∀l,p l=false->lo Γi.ob l=lo Γ0.ob l)∧vi S i Γi (fun Γ'=>Same Γ' (Γi.puto x i.dst))∧∀d,i.dst=some d->V d=some x∧x.refs p=false
section
variable {S:FuncId->List SA->RA->Prop} {P:Program} {N:Nat} {G:Gd} {K:Env->Prop} {Q:Exit->Act->World->Prop} {d0:Nat} {Γ0:Env} {p hot:Lab->Bool} {ps:List I}
theorem Fv.ext{V V':Nat->Option AV}{i:I}(h:Fv S Γ0 p V i)(h1:∀t∈i.looks,V' t=V t)(h2:∀d,i.dst=some d->V' d=V d):Fv S Γ0 p V' i:=by
 refine⟨fun d s e=> ?_,fun hg=> ?_⟩
 ·obtain⟨x,a,b⟩:=h.mv d s e
  exact⟨x,(h1 s (by rw[e];simp[I.looks,O.tm])).trans a,(h2 d (by rw[e];rfl)).trans b⟩
 ·obtain⟨x,Γi,a,b,c,c2⟩:=h.gen hg
  exact⟨x,Γi,fun t ht=>⟨(a t ht).1.trans (h1 t ht).symm,fun y hy=>(a t ht).2 y ((h1 t ht).symm.trans hy)⟩,b,c,fun d hd=>⟨(h2 d hd).trans (c2 d hd).1,(c2 d hd).2⟩⟩
theorem Dat.ok.ext{V V':Nat->Option AV}{D:Dat}(h:D.ok S Γ0 p d0 V)(h1:∀t∈(I.cq (some d0) D.f D.xs).looks,V' t=V t):D.ok S Γ0 p d0 V':=
 ⟨fun Γ2 ht ho K hk=>h.run Γ2 (fun t hl=>(ht t hl).trans (h1 t hl)) ho K hk,h.sub,h.pf⟩
def St(d0:Nat)(Γ0:Env)(D:Option Dat)(V:Nat->Option AV)(X:Nat->Prop)(Γ:Env):Prop:=
 match D with
 |none=>(∀t,X t->lk Γ.tm t=V t)∧∀l,lo Γ.ob l=lo Γ0.ob l
 |some D=>(∀t,X t->t≠d0->lk Γ.tm t=(V t).map (·.kill (D.q d0)))∧lk Γ.tm d0=some (D.res d0)∧∀l,lo Γ.ob l=lo (D.back d0 Γ0).ob l
structure J3 (S:FuncId->List SA->RA->Prop) (d0:Nat) (Γ0:Env) (hot p:Lab->Bool) (ps:List I) (done:List I) (T:List Nat) (V:Nat->Option AV) (D:Option Dat) (Γ:Env):Prop where
 fv:∀i∈done,Fv S Γ0 p V i
 st:St d0 Γ0 D V (fun _=>True) Γ
 un:∀t,t∈inp ps∨t∈dsts done->t∉T->t≠d0->∀y,V t=some y->y.refs p=false
 ta:∀t∈T,∃m x,V t=some x∧Hit x m∧hot m=true
 keep:∀t,t∉dsts done->V t=lk Γ0.tm t
 dat:∀D',D=some D'->D'.ok S Γ0 p d0 V∧I.cq (some d0) D'.f D'.xs∈done
 no:D=none->∀f xs,I.cq (some d0) f xs∉done
 vd:∀D',D=some D'->V d0=some (D'.res d0)
 nd:d0∉T
theorem kill_free{q:Lab->Bool}(hq:∀m,q m=true->p m=true){o:Option AV}(h:∀y,o=some y->y.refs p=false):o.map (·.kill q)=o:=by
 cases o with
 |none=>rfl
 |some y=>simp only[Option.map_some];rw[kill_id (refs_mono hq (h y rfl))]
theorem St.at{D:Option Dat}{V:Nat->Option AV}{X:Nat->Prop}{Γ:Env}(h:St d0 Γ0 D V X Γ)(hD:∀D',D=some D'->D'.ok S Γ0 p d0 V){t:Nat}(hX:X t)(hne:t≠d0)(hf:∀y,V t=some y->y.refs p=false):lk Γ.tm t=V t:=by
 cases D with
 |none=>exact h.1 t hX
 |some D=>rw[h.1 t hX hne,kill_free (hD D rfl).sub hf]
theorem St.obs{D:Option Dat}{V:Nat->Option AV}{X:Nat->Prop}{Γ:Env}(h:St d0 Γ0 D V X Γ)(hD:∀D',D=some D'->D'.ok S Γ0 p d0 V){l:Lab}(hl:p l=false):lo Γ.ob l=lo Γ0.ob l:=by
 cases D with
 |none=>exact h.2 l
 |some D=>rw[h.2.2 l,(hD D rfl).pf l hl]
def valO(D:Option Dat)(d0:Nat)(y:AV):AV:=match D with
 |none=>y
 |some D=>y.kill (D.q d0)
theorem St.put{D:Option Dat}{V:Nat->Option AV}{X X':Nat->Prop}{Γ Γ':Env}(h:St d0 Γ0 D V X Γ){d:Nat}{x y:AV}(hne:d≠d0)(ht:∀t,d≠t->lk Γ'.tm t=lk Γ.tm t)(hd':lk Γ'.tm d=some x)(ho:∀l,lo Γ'.ob l=lo Γ.ob l)(hX:∀t,X' t->d≠t->X t)
  (hx:x=valO D d0 y):St d0 Γ0 D (fun t=>if d=t then some y else V t) X' Γ':=by
 cases D with
 |none=>
  refine⟨fun t hXt=> ?_,fun l=>(ho l).trans (h.2 l)⟩
  by_cases e:d=t
  ·subst e;simp only[if_true];rw[hd',hx];try rfl
  ·simp only[if_neg e];rw[ht t e];exact h.1 t (hX t hXt e)
 |some D=>
  refine⟨fun t hXt hne'=> ?_,(ht d0 hne).trans h.2.1,fun l=>(ho l).trans (h.2.2 l)⟩
  by_cases e:d=t
  ·subst e;simp only[if_true,Option.map_some];rw[hd',hx];try rfl
  ·simp only[if_neg e];rw[ht t e];exact h.1 t (hX t hXt e) hne'
theorem puto_t{Γ Γ':Env}{x:AV}{d:Option Nat}(hs:Same Γ' (Γ.puto x d)):∀t,d≠some t->lk Γ'.tm t=lk Γ.tm t:=fun t hn=>by
 rw[hs.1 t]
 cases d with
 |none=>rfl
 |some d=>
  simp only[Env.puto,lk_put]
  rw[if_neg]
  rintro rfl
  exact hn rfl
theorem puto_o{Γ Γ':Env}{x:AV}{d:Option Nat}(hs:Same Γ' (Γ.puto x d)):∀l,lo Γ'.ob l=lo Γ.ob l:=fun l=>by rw[hs.2 l];cases d<;>rfl
theorem puto_d{Γ Γ':Env}{x:AV}{d:Nat}(hs:Same Γ' (Γ.puto x (some d))):lk Γ'.tm d=some x:=by rw[hs.1 d];simp[Env.puto,lk_put]
theorem dsts_app(a b:List I):dsts (a++b)=dsts a++dsts b:=by simp[dsts]
theorem J3.step(hS:SOk P G S){ops:List Oper}{σ:Lab->Value}{ow:Own}{w:World}{a:Act}{Γ:Env}{i:I}{o:Oper}{done:List I}{T:List Nat}{V:Nat->Option AV}{D:Option Dat}{qT:List Nat×Bool}
  (hp:p=hotP hot d0) (hrow:∀l,hot l=true->Lent Γ0.ob l) (hbox:∀l ls,lo Γ0.ob l=some (.box ls)->refsL p ls=false) (hF0:Free (hd d0) Γ0)
  (h:J3 S d0 Γ0 hot p ps done T V D Γ) (hst:st3 d0 T D.isNone i=some qT)
  (hsep:∀j∈done,∀d,i.dst=some d->j.dst≠some d∧d∉j.looks) (hself:∀d,i.dst=some d->d∉i.looks) (hW:∀t∈i.looks,t∈inp ps∨t∈dsts done) (hd0:i.dst=some d0->∃f xs,i= .cq (some d0) f xs)
  (hm:i.gm P N ops o=true) (hr:Rep N G σ ow w a Γ) (hv:vi S i Γ K):
  ∃Γ' σ' ow' w' a' V' D',K Γ'∧Rep N G σ' ow' w' a' Γ'∧J3 S d0 Γ0 hot p ps (done++[i]) qT.1 V' D' Γ'∧D'.isNone=qT.2:=by
 have hok:=fun D' e=>(h.dat D' e).1
 have nofalse:¬vi S i Γ (fun _=>False):=fun h2=>by
  have h3:=snd_g (Q:=fun _ _ _=>False) hS hr hm h2
  have h4:∃a' w',Post N G ow w (fun _=>False) a' w':=by
   split at h3
   ·exact wp_some h3
   ·exact⟨_,_,h3⟩
  obtain⟨_,_,_,_,_,hf,_⟩:=h4
  exact hf
 rcases st3_cases hst with⟨f,xs,rfl,hb,rfl,hxs⟩|⟨d,s,rfl,hs0,hdT,rfl⟩|⟨hg,rfl,hdT,hl⟩
 ·
  have hDn:D=none:=by simpa using hb
  subst hDn
  obtain⟨ht,ho⟩:=h.st
  have hv0:=hv
  simp only[vi]at hv
  obtain⟨⟨as,es⟩,hln,hv1⟩:=need_iff hv
  simp only at hv1
  obtain⟨⟨los,cons⟩,hlo,r,os',hS',hne,hnd,hlk,hnew,hone,hdd,hk⟩:=need_iff hv1
  simp only at hS' hnd hlk hone hk
  have hhot:∀l∈labs es,hot l=true:=lnqs_labs (hot:=hot) (T:=T) (fun t htT=>by
   obtain⟨m,x,h1,h2,h3⟩:=h.ta t htT
   exact⟨m,x,(ht t trivial).trans h1,h2,h3⟩) hxs (fun l hl=>by simp[labs]at hl) hln
  obtain⟨rfl,hrows⟩:=loes_rows (fun l hl=>by
   rcases hrow l (hhot l hl)with⟨dp,pn,c,xs,h1⟩|⟨ls,h1,h2⟩
   ·exact .inl ⟨dp,pn,c,xs,(ho l).trans h1⟩
   ·exact .inr ⟨ls,(ho l).trans h1,h2⟩) hlo
  have hos:=likes_rows hlk hrows
  have hphot:∀l,hot l=true->p l=true:=fun l hl=>by rw[hp];simp[hotP,hl]
  have hphd:∀l,hd d0 l=true->p l=true:=fun l hl=>by rw[hp];simp[hotP,hl]
  have hsubq:∀m,(⟨f,xs,es,os',r⟩:Dat).q d0 m=true->p m=true:=fun m hm=>by
   simp only[Dat.q,Bool.or_eq_true,hdo,inLs,List.contains_nil,Bool.false_eq_true,false_or]at hm
   rcases hm with hm|hm|hm
   ·exact hphd m hm
   ·exact hphot m (hhot m (goneL_sub (by simpa using hm)))
   ·rw[hp]
    unfold subL at hm
    split at hm
    ·rename_i n k m'
     have:=hhot [n] (by simpa[inLs]using hm)
     simp[hotP,this]
    ·cases hm
  have hpf:∀l,p l=false->lo ((⟨f,xs,es,os',r⟩:Dat).back d0 Γ0).ob l=lo Γ0.ob l:=fun l hl=>by
   simp only[Dat.back,Env.back,lo_append,lo_dropO',lo_kill',resO]
   have n1:lo (r.intro [d0]).2 l=none:=by
    cases hx:lo (r.intro [d0]).2 l with
    |none=>rfl
    |some q=>rw[hphd l (intro_heads hx)]at hl;cases hl
   have n2:lo (backO Γ0.ob es os') l=none:=by
    cases hx:lo (backO Γ0.ob es os') l with
    |none=>rfl
    |some q=>
     rcases back_dom (oneL_like hlk hone) hos hx with h1|⟨n,h1,h2⟩
     ·rw[hphot l (hhot l h1)]at hl;cases hl
     ·have h3:=hhot [n] h1
      have h4:p l=true:=by
       cases l with
       |nil=>simp[hd]at h2
       |cons k r=>
        have:k=n:=by simpa[hd]using h2
        subst this
        cases r with
        |nil=>exact hphot _ h3
        |cons j r=>rw[hp];simp[hotP,h3]
      rw[h4]at hl;cases hl
   have n3:inLs (labs es) l=false:=by
    cases hx:inLs (labs es) l with
    |false=>rfl
    |true=>rw[hphot l (hhot l (by simpa[inLs]using hx))]at hl;cases hl
   have n4:(⟨f,xs,es,os',r⟩:Dat).q d0 l=false:=by
    cases hx:(⟨f,xs,es,os',r⟩:Dat).q d0 l with
    |false=>rfl
    |true=>rw[hsubq l hx]at hl;cases hl
   simp only[Dat.q]at n4
   rw[n1,n2,n3,n4]
   simp only[Bool.false_eq_true,if_false]
   cases hq:lo Γ0.ob l with
   |none=>rfl
   |some q=>
    simp only[Option.map_some]
    cases q with
    |box ls=>
     have:=hbox l ls hq
     simp only[Ob.kill]
     exact congrArg (fun z=>some (Ob.box z)) (killL_id (refsL_mono (q:=(⟨f,xs,es,os',r⟩:Dat).q d0) hsubq this))
    |row _ _ _ _=>rfl
    |mp _ _ _=>rfl
  have hrun:∀Γ2:Env,(∀t∈(I.cq (some d0) f xs).looks,lk Γ2.tm t=V t)->(∀l,lo Γ2.ob l=lo Γ0.ob l)->∀K:Env->Prop,K ((⟨f,xs,es,os',r⟩:Dat).back d0 Γ2)->vi S (.cq (some d0) f xs) Γ2 K:=by
   intro Γ2 h1 h2 K' hk'
   have ho2:∀l,lo Γ2.ob l=lo Γ.ob l:=fun l=>(h2 l).trans (ho l).symm
   simp only[vi]
   refine need_mk ((lnqs_agr ho2 fun t ht2=>(h1 t (by simpa[I.looks]using ht2)).trans (ht t trivial).symm).trans hln) ?_
   exact need_mk ((loes_agr ho2 es).trans hlo) ⟨r,os',hS',hne,hnd,hlk,hnew,hone,hdd,hk'⟩
  have hx2:vi S (.cq (some d0) f xs) Γ (fun Γ'=>Γ'=(⟨f,xs,es,os',r⟩:Dat).back d0 Γ):=hrun Γ (fun t _=>ht t trivial) ho _ rfl
  have h1:=snd_g (Q:=fun _ _ _=>False) hS hr hm hx2
  obtain⟨a',w',Γ',σ',ow',hsame,hr',_⟩:∃a' w',Post N G ow w (fun Γ'=>Γ'=(⟨f,xs,es,os',r⟩:Dat).back d0 Γ) a' w':=by
   split at h1
   ·exact wp_some h1
   ·exact⟨_,_,h1⟩
  subst hsame
  have hVt:∀t,t≠d0->(fun t=>if d0=t then some ((⟨f,xs,es,os',r⟩:Dat).res d0)else V t) t=V t:=fun t ht=>if_neg fun e=>ht e.symm
  refine⟨_,σ',ow',w',a',fun t=>if d0=t then some ((⟨f,xs,es,os',r⟩:Dat).res d0)else V t,some ⟨f,xs,es,os',r⟩,hk,hr',⟨fun j hj=> ?_,⟨fun t _ hne=> ?_,?_,fun l=>back_agr ho _ _ _ _ _ l⟩,fun t htW htT hne y hy=>h.un t ?_ htT hne y ((hVt t hne).symm.trans hy),fun t htT=> ?_,fun t htn=> ?_,fun D' e=>(by cases e;exact⟨Dat.ok.ext ⟨hrun,hsubq,hpf⟩ fun t htl=>hVt t fun e=>hself d0 rfl (e▸htl),by simp⟩),fun e=>(by cases e),fun D' e=>(by cases e;exact if_pos rfl),h.nd⟩,rfl⟩
  ·rcases List.mem_append.1 hj with hj|hj
   ·exact(h.fv j hj).ext (fun t htl=>hVt t fun e=>(hsep j hj d0 rfl).2 (e▸htl)) fun d' hd'=>hVt d' fun e=>(hsep j hj d0 rfl).1 (e▸hd')
   ·rw[List.mem_singleton]at hj
    subst hj
    exact⟨fun d s e=>(by cases e),fun hg=>(by cases hg)⟩
  ·try simp only[Dat.back]
   rw[back_tm,if_neg (Ne.symm hne),ht t trivial,if_neg (Ne.symm hne)]
   rfl
  ·try simp only[Dat.back]
   rw[back_tm,if_pos rfl]
   rfl
  ·rcases htW with htW|htW
   ·exact .inl htW
   ·rw[dsts_app,List.mem_append]at htW
    rcases htW with htW|htW
    ·exact .inr htW
    ·simp only[dsts,List.filterMap_cons,List.filterMap_nil,I.dst,List.mem_singleton]at htW
     exact absurd htW hne
  ·obtain⟨m,x,h1,h2⟩:=h.ta t htT
   exact⟨m,x,(hVt t fun e=>h.nd (e▸htT)).trans h1,h2⟩
  ·rw[dsts_app,List.mem_append,not_or]at htn
   have hne:t≠d0:=fun e=>htn.2 (by simp[dsts,I.dst,e])
   exact(hVt t hne).trans (h.keep t htn.1)
 ·
  have hdne:d≠d0:=fun e=>by
   obtain⟨f,xs,e'⟩:=hd0 (by rw[e];rfl)
   cases e'
  obtain⟨b,hb,hk⟩:=need_iff hv
  obtain⟨y,hy,hby⟩:∃y,V s=some y∧b=valO D d0 y:=by
   cases D with
   |none=>exact⟨b,(h.st.1 s trivial).symm.trans hb,rfl⟩
   |some D=>
    have h2:=(h.st.1 s trivial hs0).symm.trans hb
    simp only[Option.map_eq_some_iff]at h2
    obtain⟨y,h3,h4⟩:=h2
    exact⟨y,h3,h4.symm⟩
  have hx2:vi S (.mv d (.t s)) Γ (fun Γ'=>Γ'=Γ.put d b):=need_mk hb rfl
  have h1:=snd_g (Q:=fun _ _ _=>False) hS hr hm hx2
  obtain⟨a',w',Γ',σ',ow',hsame,hr',_⟩:∃a' w',Post N G ow w (fun Γ'=>Γ'=Γ.put d b) a' w':=by
   split at h1
   ·exact wp_some h1
   ·exact⟨_,_,h1⟩
  subst hsame
  have hsd:s≠d:=fun e=>hself d rfl (by simp[I.looks,O.tm,e])
  have hVt:∀t,d≠t->(fun t=>if d=t then some y else V t) t=V t:=fun t ht=>if_neg ht
  have hst':∀t,t∈dsts done->d≠t:=fun t ht e=>by
   obtain⟨j,hj,hjd⟩:=List.mem_filterMap.1 ht
   exact(hsep j hj d rfl).1 (by rw[hjd,e])
  refine⟨_,σ',ow',w',a',fun t=>if d=t then some y else V t,D,hk,hr',⟨fun j hj=> ?_,h.st.put (Γ':=Γ.put d b) (X':=fun _=>True) hdne (fun t ht=>by rw[lk_put,if_neg ht]) (by rw[lk_put,if_pos rfl]) (fun _=>rfl) (fun _ _ _=>trivial) hby,fun t htW htT hne z hz=> ?_,fun t htT=> ?_,fun t htn=> ?_,fun D' e=> ?_,fun e f xs hx=> ?_,fun D' e=>(hVt d0 hdne).trans (h.vd D' e),?_⟩,rfl⟩
  ·rcases List.mem_append.1 hj with hj|hj
   ·exact(h.fv j hj).ext (fun t htl=>hVt t fun e=>(hsep j hj d rfl).2 (e▸htl)) fun d' hd'=>hVt d' fun e=>(hsep j hj d rfl).1 (e▸hd')
   ·rw[List.mem_singleton]at hj
    subst hj
    refine⟨fun d1 s1 e=> ?_,fun hg=>(by cases hg)⟩
    cases e
    exact⟨y,(hVt s hsd.symm).trans hy,by simp⟩
  ·try dsimp only at hz
   by_cases e:d=t
   ·subst e
    rw[if_pos rfl]at hz
    cases hz
    by_cases hs:s∈T
    ·exfalso
     dsimp only at htT
     rw[if_pos (by simpa using hs)]at htT
     exact htT (List.mem_cons_self ..)
    ·exact h.un s (hW s (by simp[I.looks,O.tm])) hs hs0 _ hy
   ·rw[if_neg e]at hz
    refine h.un t ?_ (fun h2=>htT ?_) hne z hz
    ·rcases htW with htW|htW
     ·exact .inl htW
     ·rw[dsts_app,List.mem_append]at htW
      rcases htW with htW|htW
      ·exact .inr htW
      ·simp only[dsts,List.filterMap_cons,List.filterMap_nil,I.dst,List.mem_singleton]at htW
       exact absurd htW.symm e
    ·dsimp only
     split
     ·exact List.mem_cons_of_mem _ h2
     ·exact h2
  ·try dsimp only at htT⊢
   by_cases hs:s∈T
   ·rw[if_pos (by simpa using hs)]at htT
    by_cases e:d=t
    ·rw[if_pos e]
     obtain⟨m,x,h1,h2⟩:=h.ta s hs
     rw[hy]at h1
     cases h1
     exact⟨m,_,rfl,h2⟩
    ·rw[if_neg e]
     exact h.ta t ((List.mem_cons.1 htT).resolve_left fun e'=>e e'.symm)
   ·rw[if_neg (by simpa using hs)]at htT
    by_cases e:d=t
    ·exfalso
     subst e
     exact hdT htT
    ·rw[if_neg e]
     exact h.ta t htT
  ·rw[dsts_app,List.mem_append,not_or]at htn
   have e:d≠t:=fun e=>htn.2 (by simp[dsts,I.dst,e])
   exact(hVt t e).trans (h.keep t htn.1)
  ·obtain⟨h1,h2⟩:=h.dat D' e
   exact⟨h1.ext fun t htl=>hVt t fun e'=>(hsep _ h2 d rfl).2 (e'▸htl),List.mem_append_left _ h2⟩
  ·rcases List.mem_append.1 hx with hx|hx
   ·exact h.no e f xs hx
   ·rw[List.mem_singleton]at hx;cases hx
  ·dsimp only
   split
   ·exact fun e=>(List.mem_cons.1 e).elim (fun e=>hdne e.symm) h.nd
   ·exact h.nd
 ·
  have hrd:=gen2_rd hg
  have hcase:∀t∈i.looks,lk Γ.tm t=V t∧∀y,V t=some y->y.refs p=false:=fun t ht=>by
   by_cases e:t=d0
   ·obtain⟨hb,hbf⟩:=(hl t ht).2.resolve_left (fun h=>h e)
    cases D with
    |none=>simp at hb
    |some D'=>
     have h1:lk Γ.tm d0=some (D'.res d0):=h.st.2.1
     have h2:=h.vd D' rfl
     rw[e]
     exact⟨h1.trans h2.symm,fun y hy=>bf_refs hbf hv (e▸ht) ((h1.trans h2.symm).trans hy)⟩
   ·have hu:=h.un t (hW t ht) (hl t ht).1 e
    exact⟨h.st.at hok trivial e hu,hu⟩
  have hlk:∀t∈i.looks,lk Γ.tm t=V t:=fun t ht=>(hcase t ht).1
  obtain⟨x,hx⟩:=vi_det hrd hv
  have hx2:vi S i Γ (fun Γ'=>Same Γ' (Γ.puto x i.dst)):=vi_imp (fun Γ' h=>h.1) hrd hx
  have h1:=snd_g (Q:=fun _ _ _=>False) hS hr hm hx
  obtain⟨a',w',Γ',σ',ow',⟨hsame,hk⟩,hr',_⟩:∃a' w',Post N G ow w (fun Γ'=>Same Γ' (Γ.puto x i.dst)∧K Γ') a' w':=by
   split at h1
   ·exact wp_some h1
   ·exact⟨_,_,h1⟩
  have hxf:∀d,i.dst=some d->x.refs p=false:=fun d hd=>by
   rcases rd_fr (p:=p) hrd hd ⟨fun t ht y hy=>(hcase t ht).2 y ((hlk t ht).symm.trans hy),fun l ls hpl hq=>hbox l ls ((h.st.obs hok hpl).symm.trans hq)⟩ hx2 with h2|h2
   ·exact h2
   ·exact absurd h2 nofalse
  have hnc:∀f xs,i≠ .cq (some d0) f xs:=fun f xs e=>by subst e;cases hg
  have hfv:∀V':Nat->Option AV,(∀t∈i.looks,V' t=V t)->(∀d,i.dst=some d->V' d=some x)->Fv S Γ0 p V' i:=fun V' e1 e2=>
   ⟨fun d s e=>(by subst e;cases hg),fun _=>⟨x,Γ,fun t ht=>⟨(hlk t ht).trans (e1 t ht).symm,fun y hy=>(hcase t ht).2 y ((e1 t ht).symm.trans hy)⟩,fun l hpl=>h.st.obs hok hpl,hx2,fun d hd=>⟨e2 d hd,hxf d hd⟩⟩⟩
  have ht:=puto_t hsame
  have ho:=puto_o hsame
  cases hdd:i.dst with
  |none=>
   have hds:dsts (done++[i])=dsts done:=by simp[dsts,hdd]
   refine⟨Γ',σ',ow',w',a',V,D,hk,hr',⟨fun j hj=> ?_,?_,by rw[hds];exact h.un,h.ta,by rw[hds];exact h.keep,fun D' e=>⟨(h.dat D' e).1,List.mem_append_left _ (h.dat D' e).2⟩,fun e f xs hx=> ?_,h.vd,h.nd⟩,rfl⟩
   ·rcases List.mem_append.1 hj with hj|hj
    ·exact h.fv j hj
    ·rw[List.mem_singleton]at hj
     subst hj
     exact hfv V (fun _ _=>rfl) fun d hd=>by rw[hdd]at hd;cases hd
   ·have ht':∀t,lk Γ'.tm t=lk Γ.tm t:=fun t=>ht t (by rw[hdd];simp)
    cases D with
    |none=>exact⟨fun t hX=>(ht' t).trans (h.st.1 t hX),fun l=>(ho l).trans (h.st.2 l)⟩
    |some D=>exact⟨fun t hX hn=>(ht' t).trans (h.st.1 t hX hn),(ht' d0).trans h.st.2.1,fun l=>(ho l).trans (h.st.2.2 l)⟩
   ·rcases List.mem_append.1 hx with hx|hx
    ·exact h.no e f xs hx
    ·rw[List.mem_singleton]at hx;exact hnc f xs hx.symm
  |some d=>
   rw[hdd]at hsame ht
   have hdne:d≠d0:=fun e=>by
    obtain⟨f,xs,e'⟩:=hd0 (by rw[hdd,e])
    exact hnc f xs e'
   have hds:dsts (done++[i])=dsts done++[d]:=by simp[dsts,hdd]
   have hVt:∀t,d≠t->(fun t=>if d=t then some x else V t) t=V t:=fun t ht=>if_neg ht
   refine⟨Γ',σ',ow',w',a',fun t=>if d=t then some x else V t,D,hk,hr',⟨fun j hj=> ?_,h.st.put (X':=fun _=>True) hdne (fun t hn=>ht t fun e=>hn (by cases e;rfl)) (puto_d hsame) ho (fun _ _ _=>trivial) ?_,fun t htW htT hne z hz=> ?_,fun t htT=> ?_,fun t htn=> ?_,fun D' e=> ?_,fun e f xs hx=> ?_,fun D' e=>(hVt d0 hdne).trans (h.vd D' e),h.nd⟩,rfl⟩
   ·rcases List.mem_append.1 hj with hj|hj
    ·exact(h.fv j hj).ext (fun t htl=>hVt t fun e=>(hsep j hj d hdd).2 (e▸htl)) fun d' hd'=>hVt d' fun e=>(hsep j hj d hdd).1 (e▸hd')
    ·rw[List.mem_singleton]at hj
     subst hj
     exact hfv _ (fun t htl=>hVt t fun e=>hself d hdd (e▸htl)) fun d' hd'=>by rw[hdd]at hd';cases hd';simp
   ·cases D with
    |none=>rfl
    |some D=>exact(kill_id (refs_mono (hok D rfl).sub (hxf d hdd))).symm
   ·try dsimp only at hz
    by_cases e:d=t
    ·rw[if_pos e]at hz
     cases hz
     exact hxf d hdd
    ·rw[if_neg e]at hz
     refine h.un t (htW.imp_right fun hx=> ?_) htT hne z hz
     rw[hds,List.mem_append]at hx
     exact hx.resolve_right fun hx=>e (List.mem_singleton.1 hx).symm
   ·obtain⟨m,x,h1,h2⟩:=h.ta t htT
    exact⟨m,x,(hVt t fun e=>hdT d hdd (e▸htT)).trans h1,h2⟩
   ·rw[hds,List.mem_append,not_or]at htn
    exact(hVt t fun e=>htn.2 (by simp[e])).trans (h.keep t htn.1)
   ·obtain⟨h1,h2⟩:=h.dat D' e
    exact⟨h1.ext fun t htl=>hVt t fun e'=>(hsep _ h2 d hdd).2 (e'▸htl),List.mem_append_left _ h2⟩
   ·rcases List.mem_append.1 hx with hx|hx
    ·exact h.no e f xs hx
    ·rw[List.mem_singleton]at hx;exact hnc f xs hx.symm
theorem J3.chain(hS:SOk P G S){ops:List Oper}(hp:p=hotP hot d0)(hrow:∀l,hot l=true->Lent Γ0.ob l)(hbox:∀l ls,lo Γ0.ob l=some (.box ls)->refsL p ls=false)(hF0:Free (hd d0) Γ0):
  ∀ {is done:List I} {l:List Oper} {T:List Nat} {bef:Bool} {σ:Lab->Value} {ow:Own} {w:World} {a:Act} {Γ:Env} {V:Nat->Option AV} {D:Option Dat},ps=done++is->J3 S d0 Γ0 hot p ps done T V D Γ->D.isNone=bef->chk3 d0 T bef is=true->
  statd is=true->(∀j∈done,∀i∈is,∀d,i.dst=some d->j.dst≠some d∧d∉j.looks)->(∀i∈is,i.dst=some d0->∃f xs,i= .cq (some d0) f xs)->gms P N ops is l=true->Rep N G σ ow w a Γ->vs S is Γ K->∃E T' V' D',K E∧J3 S d0 Γ0 hot p ps ps T' V' D' E
 | [],done,l,T,bef,σ,ow,w,a,Γ,V,D,he,h,_,_,_,_,_,_,_,hv=>⟨Γ,T,V,D,hv,by rw[he,List.append_nil]at h⊢;exact h⟩
 |i::is,done,[],_,_,_,_,_,_,_,_,_,_,_,_,_,_,_,_,hm,_,_=>by simp[gms]at hm
 |i::is,done,o::l,T,bef,σ,ow,w,a,Γ,V,D,he,h,hb,hc,hs,hj,hd0,hm,hr,hv=>by
  simp only[gms,Bool.and_eq_true]at hm
  simp only[statd,Bool.and_eq_true]at hs
  simp only[chk3]at hc
  split at hc
  rotate_left
  ·cases hc
  rename_i q hst
  subst hb
  have hself:∀d,i.dst=some d->d∉i.looks:=fun d hd hl=>by
   have:=List.all_eq_true.1 hs.1.2 d hl
   simp[dsts,hd]at this
  have hW:∀t∈i.looks,t∈inp ps∨t∈dsts done:=fun t ht=>by
   by_cases hd:t∈dsts ps
   ·right
    rw[he,dsts_app,List.mem_append]at hd
    rcases hd with hd|hd
    ·exact hd
    ·have:=List.all_eq_true.1 hs.1.2 t ht
     simp[hd]at this
   ·left
    refine List.mem_filter.2 ⟨List.mem_flatMap.2 ⟨i,by rw[he];simp,ht⟩,by simpa using hd⟩
  obtain⟨Γ',σ',ow',w',a',V',D',hk,hr',hJ,hbq⟩:=J3.step (K:=fun Γ'=>vs S is Γ' K) hS hp hrow hbox hF0 h hst (fun j hjd d hd=>hj j hjd i (by simp) d hd) hself hW (hd0 i (by simp)) hm.1 hr hv
  refine J3.chain hS hp hrow hbox hF0 (done:=done++[i]) (by rw[he];simp) hJ hbq hc hs.2 (fun j hjd i' hi'=> ?_) (fun i' hi'=>hd0 i' (List.mem_cons_of_mem _ hi')) hm.2 hr' hk
  rcases List.mem_append.1 hjd with hjd|hjd
  ·exact hj j hjd i' (List.mem_cons_of_mem _ hi')
  ·rw[List.mem_singleton]at hjd
   subst hjd
   have hmem:∀d,i'.dst=some d->d∈dsts is:=fun d hd=>List.mem_filterMap.2 ⟨i',hi',hd⟩
   refine fun d hd=>⟨fun e=> ?_,fun hl=> ?_⟩
   ·have:=hs.1.1
    rw[e]at this
    simp[hmem d hd]at this
   ·have:=List.all_eq_true.1 hs.1.2 d hl
    have h2:d∈dsts (j::is):=by
     simp only[dsts,List.filterMap_cons]
     split
     ·exact hmem d hd
     ·exact List.mem_cons_of_mem _ (hmem d hd)
    simp[h2]at this
def Pc(d0:Nat)(D:Dat)(ps:List I)(U:List Nat):Prop:=∃j∈U,ps[j]? =some (.cq (some d0) D.f D.xs)
def np(ps:List I)(U:List Nat)(t:Nat):Prop:=∀j∈U,∀q,ps[j]? =some q->q.dst≠some t
structure Iv3 (d0:Nat) (Γ0:Env) (V:Nat->Option AV) (D:Dat) (ps:List I) (U:List Nat) (Γ:Env):Prop where
 pre:Pc d0 D ps U->St d0 Γ0 none V (np ps U) Γ
 post:¬Pc d0 D ps U->St d0 Γ0 (some D) V (np ps U) Γ
theorem Iv3.step{ops:List Oper}{V:Nat->Option AV}{D:Dat}(hbox:∀l ls,lo Γ0.ob l=some (.box ls)->refsL p ls=false)(hD:D.ok S Γ0 p d0 V)(hDm:I.cq (some d0) D.f D.xs∈ps)(hfv:∀i∈ps,Fv S Γ0 p V i)(hsd:statd ps=true)(hPc:chkP ps ops=true)
  (hvd:V d0=some (D.res d0)) (hcl:∀i∈ps,(∃f xs,i= .cq (some d0) f xs)∨(∃d s,i= .mv d (.t s)∧s≠d0)∨i.gen2=true) {U:List Nat} {i:Nat} {q:I} {o:Oper} {Γ:Env} (hiU:i∈U) (hnd:U.Nodup) (hp:ps[i]? =some q) (ho:ops[i]? =some o) (hedge:∀j∈edg o,j∉U) (h:Iv3 d0 Γ0 V D ps U Γ) {K':Env->Prop} (hK:∀Γ',Iv3 d0 Γ0 V D ps (U.erase i) Γ'->K' Γ'):vi S q Γ K':=by
 have him:i<ps.length:=(List.getElem?_eq_some_iff.1 hp).1
 have hqm:q∈ps:=List.mem_of_getElem? hp
 have hnp:∀t∈q.looks,np ps U t:=fun t ht j hj q' hq' hd=>by
  have h1:=List.all_eq_true.1 hPc i (by simp[him])
  rw[hp,ho]at h1
  have h2:=List.all_eq_true.1 h1 t ht
  have hjm:j<ps.length:=(List.getElem?_eq_some_iff.1 hq').1
  have h3:=List.all_eq_true.1 h2 j (by simp[hjm])
  simp only[hq',Option.bind_some,hd,bne_self_eq_false,Bool.false_or]at h3
  exact hedge j (by simpa using h3) hj
 have npE:∀t,np ps (U.erase i) t->q.dst≠some t->np ps U t:=fun t ht hn j hj q' hq'=>by
  by_cases e:j=i
  ·subst e
   rw[hp]at hq'
   cases hq'
   exact hn
  ·exact ht j ((List.mem_erase_of_ne e).2 hj) q' hq'
 have hf:=hfv q hqm
 have hdne:∀d,q.dst=some d->d=d0->∃f xs,q= .cq (some d0) f xs:=fun d hd e=>by
  subst e
  obtain⟨j,hj⟩:=List.getElem?_of_mem hDm
  have:=statd_inj hsd hp hj hd rfl
  subst this
  rw[hp]at hj
  cases hj
  exact⟨_,_,rfl⟩
 have pcE:(∀f xs,q≠ .cq (some d0) f xs)->(Pc d0 D ps (U.erase i)↔Pc d0 D ps U):=fun hne=>
  ⟨fun⟨j,hj,e⟩=>⟨j,List.mem_of_mem_erase hj,e⟩,fun⟨j,hj,e⟩=>⟨j,(List.mem_erase_of_ne fun e'=>by subst e';rw[hp]at e;cases e;exact hne _ _ rfl).2 hj,e⟩⟩
 rcases hcl q hqm with⟨f,xs,rfl⟩|⟨d,s,rfl,hs0⟩|hg
 ·
  obtain⟨j,hj⟩:=List.getElem?_of_mem hDm
  have:=statd_inj hsd hp hj (d:=d0) rfl rfl
  subst this
  rw[hp]at hj
  cases hj
  have hP:Pc d0 D ps U:=⟨i,hiU,hp⟩
  have hnP:¬Pc d0 D ps (U.erase i):=fun⟨j,hj,e⟩=>by
   have:=statd_inj hsd e hp (d:=d0) rfl rfl
   subst this
   exact hnd.not_mem_erase hj
  obtain⟨ht,hob⟩:=h.pre hP
  refine hD.run Γ (fun t hl=>ht t (hnp t hl)) hob _ (hK _ ⟨fun h5=>absurd h5 hnP,fun _=>⟨fun t hX hne=> ?_,?_,fun l=>back_agr hob _ _ _ _ _ l⟩⟩)
  ·try simp only[Dat.back]
   rw[back_tm,if_neg (Ne.symm hne),ht t (npE t hX fun e=>hne (by cases e;rfl))]
   rfl
  ·try simp only[Dat.back]
   rw[back_tm,if_pos rfl]
   rfl
 ·
  have hne:∀f xs,I.mv d (.t s)≠ .cq (some d0) f xs:=fun _ _ e=>by cases e
  have hdn:d≠d0:=fun e=>by obtain⟨f,xs,e'⟩:=hdne d rfl e;cases e'
  obtain⟨y,hy,hyd⟩:=hf.mv d s rfl
  have hVe:(fun t=>if d=t then some y else V t)=V:=by
   funext t
   by_cases e:d=t
   ·subst e;rw[if_pos rfl,hyd]
   ·rw[if_neg e]
  have hX:∀t,np ps (U.erase i) t->d≠t->np ps U t:=fun t ht hn=>npE t ht fun e=>hn (by cases e;rfl)
  by_cases hP:Pc d0 D ps U
  ·have hst:=h.pre hP
   have hs':lk Γ.tm s=some y:=(hst.1 s (hnp s (by simp[I.looks,O.tm]))).trans hy
   simp only[vi]
   refine need_mk hs' (hK _ ⟨fun _=> ?_,fun h5=>absurd ((pcE hne).2 hP) h5⟩)
   have:=hst.put (Γ':=Γ.put d y) (X':=np ps (U.erase i)) (x:=y) (y:=y) hdn (fun t ht=>by rw[lk_put,if_neg ht]) (by rw[lk_put,if_pos rfl]) (fun _=>rfl) hX rfl
   rwa[hVe]at this
  ·have hst:=h.post hP
   have hs':lk Γ.tm s=some (y.kill (D.q d0)):=by rw[hst.1 s (hnp s (by simp[I.looks,O.tm])) hs0,hy];rfl
   simp only[vi]
   refine need_mk hs' (hK _ ⟨fun h5=>absurd ((pcE hne).1 h5) hP,fun _=> ?_⟩)
   have:=hst.put (Γ':=Γ.put d (y.kill (D.q d0))) (X':=np ps (U.erase i)) (x:=y.kill (D.q d0)) (y:=y) hdn (fun t ht=>by rw[lk_put,if_neg ht]) (by rw[lk_put,if_pos rfl]) (fun _=>rfl) hX rfl
   rwa[hVe]at this
 ·
  have hrd:=gen2_rd hg
  have hne:∀f xs,q≠ .cq (some d0) f xs:=fun _ _ e=>by subst e;cases hg
  obtain⟨x,Γi,c1,c2,c3,c4⟩:=hf.gen hg
  have key:∀ {D':Option Dat},(∀D'',D'=some D''->D''.ok S Γ0 p d0 V)->(∀t∈q.looks,t=d0->lk Γ.tm t=V t)->St d0 Γ0 D' V (np ps U) Γ->vi S q Γ fun Γ'=>St d0 Γ0 D' V (np ps (U.erase i)) Γ':=by
   intro D' hok hl0 hst
   have hlk:∀t∈q.looks,lk Γ.tm t=lk Γi.tm t:=fun t ht=>by
    by_cases e:t=d0
    ·exact(hl0 t ht e).trans (c1 t ht).1.symm
    ·exact(hst.at hok (hnp t ht) e (c1 t ht).2).trans (c1 t ht).1.symm
   have hA:Agr p Γi Γ q.looks:=⟨hlk,fun l hl=>(hst.obs hok hl).trans (c2 l hl).symm,fun t ht y hy=>(c1 t ht).2 y ((c1 t ht).1.symm.trans hy),fun l ls hl hq=>hbox l ls ((c2 l hl).symm.trans hq)⟩
   refine vi_imp (fun Γ' hsame=> ?_) hrd (vi_frame (Γ2:=Γ) hrd hA c3)
   have ht:=puto_t hsame
   have hob:=puto_o hsame
   cases hdd:q.dst with
   |none=>
    have ht':∀t,lk Γ'.tm t=lk Γ.tm t:=fun t=>ht t (by rw[hdd];simp)
    have hX:∀t,np ps (U.erase i) t->np ps U t:=fun t h1=>npE t h1 (by rw[hdd];simp)
    cases D' with
    |none=>exact⟨fun t h1=>(ht' t).trans (hst.1 t (hX t h1)),fun l=>(hob l).trans (hst.2 l)⟩
    |some D'=>exact⟨fun t h1 hn=>(ht' t).trans (hst.1 t (hX t h1) hn),(ht' d0).trans hst.2.1,fun l=>(hob l).trans (hst.2.2 l)⟩
   |some d=>
    rw[hdd]at hsame ht
    have hdn:d≠d0:=fun e=>by obtain⟨f,xs,e'⟩:=hdne d hdd e;exact hne f xs e'
    obtain⟨hVd,hxf⟩:=c4 d hdd
    have hVe:(fun t=>if d=t then some x else V t)=V:=by
     funext t
     by_cases e:d=t
     ·subst e;rw[if_pos rfl,hVd]
     ·rw[if_neg e]
    have:=hst.put (Γ':=Γ') (X':=np ps (U.erase i)) (x:=x) (y:=x) hdn (fun t hn=>ht t fun e=>hn (by cases e;rfl)) (puto_d hsame) hob (fun t h1 hn=>npE t h1 fun e=>hn (by rw[hdd]at e;cases e;rfl)) (by
     cases D' with
     |none=>rfl
     |some D'=>exact(kill_id (refs_mono (hok D' rfl).sub hxf)).symm)
    rwa[hVe]at this
  by_cases hP:Pc d0 D ps U
  ·exact vi_imp (fun Γ' hs=>hK _ ⟨fun _=>hs,fun h5=>absurd ((pcE hne).2 hP) h5⟩) hrd (key (D':=none) (fun _ e=>by cases e) (fun t ht e=>by
    obtain⟨j,hj,e2⟩:=hP
    exact absurd (by rw[e];rfl) (hnp t ht j hj _ e2)) (h.pre hP))
  ·exact vi_imp (fun Γ' hs=>hK _ ⟨fun h5=>absurd ((pcE hne).1 h5) hP,fun _=>hs⟩) hrd (key (D':=some D) (fun _ e=>by cases e;exact hD) (fun t ht e=>by rw[e];exact(h.post hP).2.1.trans hvd.symm) (h.post hP))
theorem chk3_cl:∀ {ps:List I} {T:List Nat} {bef:Bool},chk3 d0 T bef ps=true->∀i∈ps,(∃f xs,i= .cq (some d0) f xs)∨(∃d s,i= .mv d (.t s)∧s≠d0)∨i.gen2=true
 | [],_,_,_,i,hi=>by cases hi
 |x::xs,T,bef,h,i,hi=>by
  simp only[chk3]at h
  split at h
  rotate_left
  ·cases h
  rename_i q hst
  rcases List.mem_cons.1 hi with rfl|hi
  ·rcases st3_cases hst with⟨f,ys,h,_⟩|⟨d,s,h,h2,_⟩|⟨h,_,_,h2⟩
   ·exact .inl ⟨f,ys,h⟩
   ·exact .inr (.inl ⟨d,s,h,h2⟩)
   ·exact .inr (.inr h)
  ·exact chk3_cl h i hi
theorem cqs_mem{d:Nat}:∀ {ps:List I},d∈cqs ps->∃f xs,I.cq (some d) f xs∈ps
 | [],h=>by cases h
 |i::is,h=>by
  unfold cqs at h
  split at h
  ·cases h
  ·rename_i e
   simp only[List.cons.injEq]at e
   obtain⟨rfl,rfl⟩:=e
   rcases List.mem_cons.1 h with rfl|h
   ·exact⟨_,_,List.mem_cons_self ..⟩
   ·obtain⟨f,xs,h⟩:=cqs_mem h
    exact⟨f,xs,List.mem_cons_of_mem _ h⟩
  ·rename_i e
   simp only[List.cons.injEq]at e
   obtain⟨rfl,rfl⟩:=e
   obtain⟨f,xs,h⟩:=cqs_mem h
   exact⟨f,xs,List.mem_cons_of_mem _ h⟩
def dqM(P:Program)(N:Nat)(hs is:List Nat)(d0:Nat)(ps ts:List I)(ops:List Oper):Bool:=
 cqs ps==[d0]&&((inp ps).all fun t=>is.contains t)&&P.follows .mixedOrders&&gms P N ops (ps++ts) ops&&statd ps&&chkE ops&&chkP ps ops&&chkT ps.length ops&&chk3 d0 hs true ps&& !hs.contains d0
theorem lo_mem'{l:Lab}{o:Ob}:∀ {ob:List (Lab×Ob)},lo ob l=some o->(l,o)∈ob
 | [],h=>by cases h
 |(k,z)::r,h=>by
  simp only[lo]at h
  split at h
  ·rename_i e;subst e;cases h;simp
  ·exact List.mem_cons_of_mem _ (lo_mem' h)
theorem hotL_iff{Γ:Env}{hs:List Nat}{l:Lab}:hotL Γ hs l=true↔ ∃t∈hs,∃x,lk Γ.tm t=some x∧Hit x l:=by
 simp only[hotL,List.any_eq_true]
 constructor
 ·rintro⟨t,ht,h⟩
  split at h
  ·rename_i m e
   have:m=l:=by simpa using h
   subst this
   exact⟨t,ht,_,e,.inl rfl⟩
  ·rename_i m j e
   have:m=l:=by simpa using h
   subst this
   exact⟨t,ht,_,e,.inr ⟨_,rfl⟩⟩
  ·cases h
 ·rintro⟨t,ht,x,h,rfl|⟨j,rfl⟩⟩
  ·exact⟨t,ht,by rw[h];simp⟩
  ·exact⟨t,ht,by rw[h];simp⟩
theorem hotC_use{hs is:List Nat}(hc:hotC Γ0 hs d0 is=true):(∀t∈hs,∃l x,lk Γ0.tm t=some x∧Hit x l∧Lent Γ0.ob l)∧(∀l,hotL Γ0 hs l=true->Lent Γ0.ob l)∧(∀l ls,lo Γ0.ob l=some (.box ls)->refsL (hotP (hotL Γ0 hs) d0) ls=false)∧
  is.all (fun t=>hs.contains t||match lk Γ0.tm t with|some a=> !a.refs (hotP (hotL Γ0 hs) d0)|none=>true)=true:=by
 simp only[hotC,Bool.and_eq_true]at hc
 obtain⟨⟨hc1,hc2⟩,hc3⟩:=hc
 have hh1:∀t∈hs,∃l x,lk Γ0.tm t=some x∧Hit x l∧Lent Γ0.ob l:=fun t ht=>by
  have:=List.all_eq_true.1 hc1 t ht
  split at this
  ·rename_i l e
   split at this
   ·rename_i dp pn c xs e2
    exact⟨l,_,e,.inl rfl,.inl ⟨_,_,_,_,e2⟩⟩
   ·cases this
  ·rename_i l j e
   split at this
   ·rename_i ls e2
    exact⟨l,_,e,.inr ⟨_,rfl⟩,.inr ⟨_,e2,this⟩⟩
   ·cases this
  ·cases this
 have hrow:∀l,hotL Γ0 hs l=true->Lent Γ0.ob l:=fun l hl=>by
  obtain⟨t,ht,x,e,hit⟩:=hotL_iff.1 hl
  obtain⟨l',x',e',hit',h⟩:=hh1 t ht
  rw[e]at e'
  cases e'
  have:l=l':=by
   rcases hit with rfl|⟨j,rfl⟩<;>rcases hit' with h|⟨j',h⟩<;>cases h<;>rfl
  subst this
  exact h
 have hbox:∀l ls,lo Γ0.ob l=some (.box ls)->refsL (hotP (hotL Γ0 hs) d0) ls=false:=fun l ls h=>by
  have:=List.all_eq_true.1 hc3 _ (lo_mem' h)
  simpa using this
 exact⟨hh1,hrow,hbox,hc2⟩
theorem snd_dq(hS:SOk P G S){id:Nat}{ops:Array Oper}{hs is:List Nat}{ps ts:List I}(hm:dqM P N hs is d0 ps ts ops.toList=true){σ:Lab->Value}{ow:Own}{w:World}{a:Act}{Γ:Env}
  (hr:Rep N G σ ow w a Γ) (hc:hotC (Γ.pre [d0]) hs d0 is=true) (hv:vs S ps (Γ.pre [d0]) fun Γ'=>vs S ts Γ' K) (hQ:∀a' w',Post N G ow w K a' w'->Q .normal a' w'):(Code.region id ops true).wp P Q a w:=by
 simp only[dqM,Bool.and_eq_true,beq_iff_eq]at hm
 obtain⟨⟨⟨⟨⟨⟨⟨⟨⟨hcq,hinp⟩,hmix⟩,hgm⟩,hst⟩,hE⟩,hP⟩,hT⟩,hC⟩,hnd0⟩:=hm
 obtain⟨f,xs,hcm⟩:=cqs_mem (d:=d0) (ps:=ps) (by rw[hcq];simp)
 have hr':=(hr.pre [d0]).drawn
 have hfree:=Free.pre Γ [d0]
 rw[hds_hd]at hfree
 generalize Γ.pre [d0]=Γ0 at*
 obtain⟨hh1,hrow,hbox,hc2⟩:=hotC_use hc
 have hd0:∀i∈ps,i.dst=some d0->∃f xs,i= .cq (some d0) f xs:=fun i hi hd=>by
  obtain⟨j,hj⟩:=List.getElem?_of_mem hi
  obtain⟨k,hk⟩:=List.getElem?_of_mem hcm
  have:=statd_inj hst hj hk hd rfl
  subst this
  rw[hj]at hk
  cases hk
  exact⟨_,_,rfl⟩
 have hJ0:J3 S d0 Γ0 (hotL Γ0 hs) (hotP (hotL Γ0 hs) d0) ps [] hs (lk Γ0.tm) none Γ0:=by
  refine⟨fun _ h=>(by cases h),⟨fun _ _=>rfl,fun _=>rfl⟩,fun t htW htT hne y hy=> ?_,fun t ht=> ?_,fun _ _=>rfl,fun _ e=>(by cases e),fun _ _ _ h=>(by cases h),fun _ e=>(by cases e),by simpa using hnd0⟩
  ·rcases htW with htW|htW
   ·have:=List.all_eq_true.1 hc2 t (by simpa using List.all_eq_true.1 hinp t htW)
    rw[hy]at this
    simpa[htT]using this
   ·simp[dsts]at htW
  ·obtain⟨l,x,e,hit,_⟩:=hh1 t ht
   exact⟨l,x,e,hit,hotL_iff.2 ⟨t,ht,x,e,hit⟩⟩
 obtain⟨E,T',V,D,hE2,hJ⟩:=J3.chain hS rfl hrow hbox hfree (done:=[]) rfl hJ0 rfl hC hst (fun j hj=>by cases hj) hd0 (gms_take hgm) hr' hv
 cases D with
 |none=>exact absurd hcm (hJ.no rfl f xs)
 |some D=>
 obtain⟨hD,hDm⟩:=hJ.dat D rfl
 refine wp_region_any hmix ?_
 have he:ops=ops.toList.toArray:=by simp
 rw[he]
 have hsz:ops.toList.toArray.size=ops.toList.length:=by simp
 rw[hsz]
 have hL:=Lst.start ops.toList.length
 have hlen:=(gms_at hgm).1
 rw[List.length_append]at hlen
 have hall:∀ {q:I},q∈ps->∃j∈List.range ops.toList.length,ps[j]? =some q:=fun {q} hq=>by
  obtain⟨j,hj⟩:=List.getElem?_of_mem hq
  have h2:j<ps.length:=(List.getElem?_eq_some_iff.1 hj).1
  exact⟨j,by simp only[List.mem_range];omega,hj⟩
 refine any_inv (K:=K) hS hgm hE hT (Iv3 d0 Γ0 V D ps) (fun U i p o Γ' hiU hnd _ _ hp ho hedge hI=>Iv3.step hbox hD hDm hJ.fv hst hP (hJ.vd D rfl) (chk3_cl hC) hiU hnd hp ho hedge hI fun _ h=>h)
  (fun U Γ' hU hI σ ow w a hr=>⟨E,?_,hE2⟩) (by simp) hL (fun i o ho hn=> ?_) (fun i _ h=>by simp at h⊢;exact h) ⟨fun _=>⟨fun t ht=> ?_,fun _=>rfl⟩,fun hn=>absurd (hall hDm) hn⟩ hr' fun a' w' h=>hQ _ _ ?_
 ·have hnone:∀j∈U,ps[j]? =none:=fun j hj=>List.getElem?_eq_none (hU j hj)
  obtain⟨h1,h2,h3⟩:=hI.post fun⟨j,hj,e⟩=>by rw[hnone j hj]at e;cases e
  obtain⟨g1,g2,g3⟩:=hJ.st
  refine hr.of_same ⟨fun t=> ?_,fun l=>(g3 l).trans (h3 l).symm⟩
  by_cases e:t=d0
  ·subst e;exact g2.trans h2.symm
  ·exact(g1 t trivial e).trans (h1 t (fun j hj q hq=>by rw[hnone j hj]at hq;cases hq) e).symm
 ·exact absurd (by simpa using(List.getElem?_eq_some_iff.1 ho).1) hn
 ·refine(hJ.keep t fun hd=> ?_).symm
  obtain⟨q,hq,hqd⟩:=List.mem_filterMap.1 hd
  obtain⟨j,hj,hjq⟩:=hall hq
  exact ht j hj q hjq hqd
 ·exact Post.trans (a':=a') (K':=K) (ow:=ow) (w:=w) (ow':=ow) (w':= {w with drawn:=w.drawn+1}) ⟨rfl,rfl,rfl,Nat.le_refl _,fun _ _ h=>⟨h,rfl⟩⟩ h
end
end Go.Q
namespace Go.Q
section
variable {S:FuncId->List SA->RA->Prop} {P:Program} {N:Nat} {G:Gd} {K:Env->Prop} {Q:Exit->Act->World->Prop} {ps:List I} {E:Env}
end
end Go.Q
namespace Go.Q
section
variable {S:FuncId->List SA->RA->Prop} {P:Program} {N:Nat} {G:Gd} {K:Env->Prop} {Q:Exit->Act->World->Prop} {d0:Nat} {Γ0 E:Env} {p hot:Lab->Bool} {ps:List I}
structure LateI (ps:List I) (E:Env) (l:Lab) (q:Ob) (U:List Nat) (Γ:Env):Prop where
 late:∀j∈U,∀x,ps[j]? =some x->x.rd=true∧∀t∈x.looks,∀y,lk E.tm t=some y->y.refs (fun m=>m==l)=false
 tm:∀t,np ps U t->lk Γ.tm t=lk E.tm t
 at':lo Γ.ob l=some q
 ob:∀m,m≠l->lo Γ.ob m=lo E.ob m
theorem late_step{V:Nat->Option AV}{D:Dat}{l:Lab}{qb:Ob}{E3:Env}(hst:St d0 Γ0 (some D) V (fun _=>True) E)(hD:D.ok S Γ0 p d0 V)(hvd:V d0=some (D.res d0))(hfv:∀i∈ps,Fv S Γ0 p V i)
  (hbox:∀m ls,lo Γ0.ob m=some (.box ls)->refsL p ls=false) (hboxl:∀m ls,lo E.ob m=some (.box ls)->refsL (fun m=>m==l) ls=false) (h3o:∀m,m≠l->lo E3.ob m=lo E.ob m)
  {U:List Nat} {i:Nat} {q:I} {Γ:Env} (hiU:i∈U) (hp:ps[i]? =some q) (hnp:∀t∈q.looks,np ps U t) (hne:∀d,q.dst=some d->d≠d0) (h3t:∀t∈q.looks,lk E3.tm t=lk E.tm t) (h3d:∀d,q.dst=some d->lk E3.tm d=lk E.tm d)
  (hcl:(∃d s,q= .mv d (.t s)∧s≠d0)∨q.gen2=true) (h:LateI ps E3 l qb U Γ):vi S q Γ fun Γ'=>LateI ps E3 l qb (U.erase i) Γ':=by
 obtain⟨hlate,htm,hat,hob⟩:=h
 have hqm:q∈ps:=List.mem_of_getElem? hp
 have hf:=hfv q hqm
 have npE:∀t,np ps (U.erase i) t->q.dst≠some t->np ps U t:=fun t ht hn j hj q' hq'=>by
  by_cases e:j=i
  ·subst e
   rw[hp]at hq'
   cases hq'
   exact hn
  ·exact ht j ((List.mem_erase_of_ne e).2 hj) q' hq'
 obtain⟨g1,g2,g3⟩:=hst
 rcases hcl with⟨d,s,rfl,hs0⟩|hg
 ·obtain⟨y,hy,hyd⟩:=hf.mv d s rfl
  have hsl:s∈(I.mv d (.t s)).looks:=by simp[I.looks,O.tm]
  have hE:lk E3.tm s=some (y.kill (D.q d0)):=by rw[h3t s hsl,g1 s trivial hs0,hy];rfl
  have hEd:lk E3.tm d=some (y.kill (D.q d0)):=by rw[h3d d rfl,g1 d trivial (hne d rfl),hyd];rfl
  have hs':lk Γ.tm s=some (y.kill (D.q d0)):=(htm s (hnp s hsl)).trans hE
  simp only[vi]
  refine need_mk hs' ⟨fun j hj=>hlate j (List.mem_of_mem_erase hj),fun t ht=> ?_,hat,hob⟩
  rw[lk_put]
  by_cases e:d=t
  ·subst e;rw[if_pos rfl,hEd]
  ·rw[if_neg e];exact htm t (npE t ht fun e'=>e (by cases e';rfl))
 ·have hrd:=gen2_rd hg
  obtain⟨x,Γi,c1,c2,c3,c4⟩:=hf.gen hg
  have hEV:∀t,(∀y,V t=some y->y.refs p=false)->lk E.tm t=V t:=fun t ht=>by
   by_cases e:t=d0
   ·rw[e,g2,hvd]
   ·rw[g1 t trivial e,kill_free hD.sub ht]
  have hlk:∀t∈q.looks,lk Γ.tm t=lk Γi.tm t:=fun t ht=>(htm t (hnp t ht)).trans ((h3t t ht).trans ((hEV t (c1 t ht).2).trans (c1 t ht).1.symm))
  have hlo:∀m,(p m||m==l)=false->lo Γ.ob m=lo Γi.ob m:=fun m hm=>by
   simp only[Bool.or_eq_false_iff,beq_eq_false_iff_ne]at hm
   exact(hob m hm.2).trans ((h3o m hm.2).trans ((g3 m).trans ((hD.pf m hm.1).trans (c2 m hm.1).symm)))
  have hA:Agr (fun m=>p m||m==l) Γi Γ q.looks:=by
   refine⟨hlk,hlo,fun t ht y hy=> ?_,fun m ls hm hy=> ?_⟩
   ·have hV:V t=some y:=(c1 t ht).1.symm.trans hy
    rw[refs_or,(c1 t ht).2 y hV,(hlate i hiU q hp).2 t ht y ((h3t t ht).trans ((hEV t (c1 t ht).2).trans hV))];rfl
   ·simp only[Bool.or_eq_false_iff,beq_eq_false_iff_ne]at hm
    have h0:=(c2 m hm.1).symm.trans hy
    rw[refsL_or,hbox m ls h0,hboxl m ls ((g3 m).trans ((hD.pf m hm.1).trans h0))];rfl
  refine vi_imp (fun Γ' hsame=> ?_) hrd (vi_frame (Γ2:=Γ) hrd hA c3)
  have ht:=puto_t hsame
  have ho:=puto_o hsame
  refine⟨fun j hj=>hlate j (List.mem_of_mem_erase hj),fun t h1=> ?_,(ho l).trans hat,fun m hm=>(ho m).trans (hob m hm)⟩
  by_cases hd:q.dst=some t
  ·rw[hd]at hsame
   obtain⟨hVd,hxf⟩:=c4 t hd
   rw[puto_d hsame,h3d t hd,hEV t fun y hy=>by rw[hVd]at hy;cases hy;exact hxf,hVd]
  ·exact(ht t hd).trans (htm t (npE t h1 hd))
theorem chkP_front{a b:List I}{ops:List Oper}(h:chkP (a++b) ops=true):chkP a ops=true:=by
 unfold chkP at*
 refine List.all_eq_true.2 fun i hi=> ?_
 have him:i<a.length:=by simpa using hi
 have h1:=List.all_eq_true.1 h i (by simp;omega)
 rw[List.getElem?_append_left him]at h1
 split at h1
 ·rename_i q o hq ho
  refine List.all_eq_true.2 fun t ht=>List.all_eq_true.2 fun j hj=> ?_
  have hjm:j<a.length:=by simpa using hj
  have h3:=List.all_eq_true.1 (List.all_eq_true.1 h1 t ht) j (by simp;omega)
  rwa[List.getElem?_append_left hjm]at h3
 ·rfl
def lateRd(ops:List Oper)(d1:Nat)(ps:List I):Bool:=
 let cl:=(cloA ops []).getD ps.length []
 (List.range ps.length).all fun j=>cl.contains j||match ps[j]? with
  |some p=>p.rd&&p.looks.all fun t=> !(t==d1)
  |none=>false
def dlM(P:Program)(N:Nat)(hs is:List Nat)(d0:Nat)(ps:List I)(d1:Nat)(c:Ki)(xs:List O)(ts:List I)(ops:List Oper):Bool:=
 cqs ps==[d0]&&((inp ps).all fun t=>is.contains t)&&P.follows .mixedOrders&&gms P N ops (ps++ .bl d1 c xs::ts) ops&&statd ps&&chkE ops&&chkP (ps++[.bl d1 c xs]) ops&&chkT (ps.length+1) ops&&chk3 d0 hs true ps&& !hs.contains d0&&
  lateRd ops d1 ps&& !(dsts ps).contains d1&&ps.all fun p=> !p.looks.contains d1
theorem lk_mem'{t:Nat}{x:AV}:∀ {tm:List (Nat×AV)},lk tm t=some x->(t,x)∈tm
 | [],h=>by cases h
 |(k,z)::r,h=>by
  simp only[lk]at h
  split at h
  ·rename_i e;subst e;cases h;simp
  ·exact List.mem_cons_of_mem _ (lk_mem' h)
theorem evs_same{Γ Γ2:Env}:∀ {xs:List O},(∀t∈xs.flatMap O.tm,lk Γ2.tm t=lk Γ.tm t)->evs Γ2 xs=evs Γ xs
 | [],_=>rfl
 |o::r,h=>by
  have e1:ev Γ2 o=ev Γ o:=ev_same fun t ht=>h t (by simp[ht])
  have e2:=evs_same (Γ:=Γ) (Γ2:=Γ2) (xs:=r) fun t ht=>h t (by simp only[List.flatMap_cons,List.mem_append];exact .inr ht)
  simp only[evs,e1,e2]
theorem freeB_free{d:Nat}{Γ:Env}(h:freeB d Γ=true):Free (hd d) Γ:=by
 simp only[freeB,Bool.and_eq_true]at h
 refine⟨fun t x hx=> ?_,fun l o ho=> ?_⟩
 ·have:=List.all_eq_true.1 h.1 _ (lk_mem' hx)
  simpa using this
 ·have:=List.all_eq_true.1 h.2 _ (lo_mem' ho)
  simp only[Bool.and_eq_true,Bool.not_eq_true']at this
  refine⟨this.1,fun ls e=> ?_⟩
  subst e
  simpa using this.2
theorem snd_dl(hS:SOk P G S){id:Nat}{ops:Array Oper}{hs is:List Nat}{ps ts:List I}{d1:Nat}{c:Ki}{zs:List O}(hm:dlM P N hs is d0 ps d1 c zs ts ops.toList=true){σ:Lab->Value}{ow:Own}{w:World}{a:Act}{Γ:Env}
  (hr:Rep N G σ ow w a Γ) (hc:hotC (Γ.pre [d0,d1]) hs d0 is=true) (hv:vs S ps (Γ.pre [d0,d1]) fun Γ'=>freeB d1 Γ'=true∧vs S (.bl d1 c zs::ts) Γ' K) (hQ:∀a' w',Post N G ow w K a' w'->Q .normal a' w'):(Code.region id ops true).wp P Q a w:=by
 simp only[dlM,Bool.and_eq_true,beq_iff_eq]at hm
 obtain⟨⟨⟨⟨⟨⟨⟨⟨⟨⟨⟨⟨hcq,hinp⟩,hmix⟩,hgm⟩,hst⟩,hE⟩,hP⟩,hT⟩,hC⟩,hnd0⟩,hL8⟩,htpd⟩,hlk1⟩:=hm
 obtain⟨f,xs,hcm⟩:=cqs_mem (d:=d0) (ps:=ps) (by rw[hcq];simp)
 have hr':=(hr.pre [d0,d1]).drawn
 have hfree0:=Free.pre Γ [d0,d1]
 have hfree:Free (hd d0) (Γ.pre [d0,d1]):=Free.mono (fun l hl=>by
  cases l with
  |nil=>simp[hd]at hl
  |cons n r=>simp only[hd,beq_iff_eq]at hl;subst hl;simp[hds]) hfree0
 clear hfree0
 generalize Γ.pre [d0,d1]=Γ0 at*
 obtain⟨hh1,hrow,hbox,hc2⟩:=hotC_use hc
 have hd0:∀i∈ps,i.dst=some d0->∃f xs,i= .cq (some d0) f xs:=fun i hi hd=>by
  obtain⟨j,hj⟩:=List.getElem?_of_mem hi
  obtain⟨k,hk⟩:=List.getElem?_of_mem hcm
  have:=statd_inj hst hj hk hd rfl
  subst this
  rw[hj]at hk
  cases hk
  exact⟨_,_,rfl⟩
 have hJ0:J3 S d0 Γ0 (hotL Γ0 hs) (hotP (hotL Γ0 hs) d0) ps [] hs (lk Γ0.tm) none Γ0:=by
  refine⟨fun _ h=>(by cases h),⟨fun _ _=>rfl,fun _=>rfl⟩,fun t htW htT hne y hy=> ?_,fun t ht=> ?_,fun _ _=>rfl,fun _ e=>(by cases e),fun _ _ _ h=>(by cases h),fun _ e=>(by cases e),by simpa using hnd0⟩
  ·rcases htW with htW|htW
   ·have:=List.all_eq_true.1 hc2 t (by simpa using List.all_eq_true.1 hinp t htW)
    rw[hy]at this
    simpa[htT]using this
   ·simp[dsts]at htW
  ·obtain⟨l,x,e,hit,_⟩:=hh1 t ht
   exact⟨l,x,e,hit,hotL_iff.2 ⟨t,ht,x,e,hit⟩⟩
 obtain⟨E,T',V,D,hE2,hJ⟩:=J3.chain hS rfl hrow hbox hfree (done:=[]) rfl hJ0 rfl hC hst (fun j hj=>by cases hj) hd0 (gms_take hgm) hr' hv
 cases D with
 |none=>exact absurd hcm (hJ.no rfl f xs)
 |some D=>
 obtain⟨hD,hDm⟩:=hJ.dat D rfl
 have hvd:=hJ.vd D rfl
 have hjst:=hJ.st
 obtain⟨hfB,hv2⟩:=hE2
 have hfr:=freeB_free hfB
 simp only[vs,vi]at hv2
 obtain⟨as,has,hst4,hk⟩:=need_iff hv2
 have hsub:∀m:Lab,(m==[d1])=true->hd d1 m=true:=fun m hm=>by
  have:m=[d1]:=by simpa using hm
  subst this
  simp[hd]
 have hboxl:∀m ls,lo E.ob m=some (.box ls)->refsL (fun m=>m==[d1]) ls=false:=fun m ls h=>refsL_mono hsub ((hfr.ob m _ h).2 ls rfl)
 have hkt:∀t,lk (E.kill (hd d1)).tm t=lk E.tm t:=fun t=>by
  simp only[Env.kill,lk_killT]
  cases hx:lk E.tm t with
  |none=>rfl
  |some x=>simp only[Option.map_some];rw[kill_id (hfr.tm t x hx)]
 have hko:∀m,lo (E.kill (hd d1)).ob m=lo E.ob m:=fun m=>by
  simp only[Env.kill,lo_kill']
  cases hx:lo E.ob m with
  |none=>simp
  |some x=>
   rw[(hfr.ob m x hx).1]
   simp only[Bool.false_eq_true,if_false,Option.map_some]
   cases x with
   |box ls=>simp only[Ob.kill];exact congrArg (fun z=>some (Ob.box z)) (killL_id ((hfr.ob m _ hx).2 ls rfl))
   |row _ _ _ _=>rfl
   |mp _ _ _=>rfl
 refine wp_region_any hmix ?_
 have he:ops=ops.toList.toArray:=by simp
 rw[he]
 have hsz:ops.toList.toArray.size=ops.toList.length:=by simp
 rw[hsz]
 have hL:=Lst.start ops.toList.length
 have hgm':gms P N ops.toList ((ps++[.bl d1 c zs])++ts) ops.toList=true:=by simpa using hgm
 have hlen:=(gms_at hgm').1
 rw[List.length_append,List.length_append,List.length_singleton]at hlen
 have hpl:(ps++[I.bl d1 c zs]).length=ps.length+1:=by simp
 have hPf:=chkP_front hP
 have hall:∀ {q:I},q∈ps->∃j∈List.range ops.toList.length,ps[j]? =some q:=fun {q} hq=>by
  obtain⟨j,hj⟩:=List.getElem?_of_mem hq
  have h2:j<ps.length:=(List.getElem?_eq_some_iff.1 hj).1
  exact⟨j,by simp only[List.mem_range];omega,hj⟩
 have hcl:=chk3_cl hC
 have hloo1:∀p∈ps,d1∉p.looks:=fun p hp=>by simpa using List.all_eq_true.1 hlk1 p hp
 have hdst1:∀p∈ps,∀d,p.dst=some d->d≠d1:=fun p hp d hd e=>by
  subst e
  have:d∈dsts ps:=List.mem_filterMap.2 ⟨p,hp,hd⟩
  simp[this]at htpd
 generalize hE3:(⟨(d1,.ls [d1] c as.length)::(E.kill (hd d1)).tm,([d1],.box (as.flatMap cellsOf))::(E.kill (hd d1)).ob⟩:Env)=E3 at*
 have hk':vs S ts E3 K:=by rw[<-hE3];exact hk
 have e3t:∀t,t≠d1->lk E3.tm t=lk E.tm t:=fun t ht=>by
  rw[<-hE3]
  simp only[lk]
  rw[if_neg (Ne.symm ht)]
  exact hkt t
 have e3d:lk E3.tm d1=some (.ls [d1] c as.length):=by rw[<-hE3];simp[lk]
 have e3o:∀m,m≠ [d1]->lo E3.ob m=lo E.ob m:=fun m hm=>by
  rw[<-hE3]
  simp only[lo]
  rw[if_neg (Ne.symm hm)]
  exact hko m
 have e3b:lo E3.ob [d1]=some (.box (as.flatMap cellsOf)):=by rw[<-hE3];simp[lo]
 refine any_inv (K:=K) (ps:=ps++[.bl d1 c zs]) (ts:=ts) hS hgm' hE (by rw[hpl];exact hT)
  (fun U Γ'=>(ps.length∈U->Iv3 d0 Γ0 V D ps U Γ')∧(ps.length∉U->LateI ps E3 [d1] (.box (as.flatMap cellsOf)) U Γ'))
  (fun U i p o Γ' hiU hnd hUl hDn hp ho hedge hI=> ?_) (fun U Γ' hU hI σ ow w a hr=>⟨E3,?_,hk'⟩) (by simp) hL (fun i o ho hn=> ?_) (fun i _ h=>by simp at h⊢;exact h)
  ⟨fun _=>⟨fun _=>⟨fun t ht=> ?_,fun _=>rfl⟩,fun hn=>absurd (hall hDm) hn⟩,fun hn=>absurd (by simp only[List.mem_range];omega) hn⟩ hr' fun a' w' h=>hQ _ _ ?_
 ·have hedge':∀t∈p.looks,np ps U t:=fun t ht j hj q hq hd=>by
   have him:i<(ps++[I.bl d1 c zs]).length:=(List.getElem?_eq_some_iff.1 hp).1
   have hq':(ps++[I.bl d1 c zs])[j]? =some q:=by
    have hjm:j<ps.length:=(List.getElem?_eq_some_iff.1 hq).1
    rw[List.getElem?_append_left hjm];exact hq
   have h1:=List.all_eq_true.1 hP i (by simpa using him)
   rw[hp,ho]at h1
   have h2:=List.all_eq_true.1 h1 t ht
   have hjm:j<(ps++[I.bl d1 c zs]).length:=(List.getElem?_eq_some_iff.1 hq').1
   have h3:=List.all_eq_true.1 h2 j (by simpa using hjm)
   simp only[hq',Option.bind_some,hd,bne_self_eq_false,Bool.false_or]at h3
   exact hedge j (by simpa using h3) hj
  by_cases hi:i=ps.length
  ·
   subst hi
   have:p= .bl d1 c zs:=by
    rw[List.getElem?_append_right (Nat.le_refl _),Nat.sub_self]at hp
    simpa using hp.symm
   subst this
   have hw0:∀j∈U,∀p,ps[j]? =some p->p.rd=true:=fun j hj p hjp=>by
    have hjm:j<ps.length:=(List.getElem?_eq_some_iff.1 hjp).1
    have h1:=List.all_eq_true.1 hL8 j (by simp[hjm])
    simp only[Bool.or_eq_true]at h1
    rcases h1 with h1|h1
    ·exfalso
     have hok:CloOk ops.toList (cloA ops.toList []):=cloA_ok (acc:=[]) rfl (fun i o h=>by simp at h)
     have hlt:ps.length<ops.toList.length:=by omega
     exact clo_run hok hDn (by rw[cloA_len];simpa using hlt) ho hedge j (by simpa using h1) hj
    ·rw[hjp]at h1
     simp only[Bool.and_eq_true]at h1
     exact h1.1
   have hw:∀j∈U,∀p,ps[j]? =some p->p.rd=true∧∀t∈p.looks,∀y,lk E3.tm t=some y->y.refs (fun m=>m==[d1])=false:=fun j hj p hjp=>
    ⟨hw0 j hj p hjp,fun t ht y hy=>refs_mono hsub (hfr.tm t y ((e3t t fun e=>hloo1 p (List.mem_of_getElem? hjp) (e▸ht)).symm.trans hy))⟩
   have hnP:¬Pc d0 D ps U:=fun⟨j,hj,e⟩=>by
    have:=hw0 j hj _ e
    cases this
   obtain⟨s1,s2,s3⟩:=(hI.1 hiU).post hnP
   obtain⟨g1,g2,g3⟩:=hjst
   have hsame:∀t,np ps U t->lk Γ'.tm t=lk E.tm t:=fun t ht=>by
    by_cases e:t=d0
    ·subst e;exact s2.trans g2.symm
    ·exact(s1 t ht e).trans (g1 t trivial e).symm
   have hob':∀m,lo Γ'.ob m=lo E.ob m:=fun m=>(s3 m).trans (g3 m).symm
   have hev:evs (Γ'.kill (hd d1)) zs=some as:=by
    rw[<-has]
    refine evs_same fun t ht=> ?_
    simp only[Env.kill,lk_killT]
    rw[hsame t (hedge' t (by simpa[I.looks]using ht))]
   simp only[vi]
   refine need_mk hev ⟨hst4,fun h7=>absurd h7 hnd.not_mem_erase,fun _=>⟨fun j hj q hjq=>hw j (List.mem_of_mem_erase hj) q hjq,fun t ht=> ?_,?_,fun m hm=> ?_⟩⟩
   ·have hnp:np ps U t:=fun j hj q hjq=>by
     have e:j≠ps.length:=by
      have:=(List.getElem?_eq_some_iff.1 hjq).1
      omega
     exact ht j ((List.mem_erase_of_ne e).2 hj) q hjq
    rw[lk_put]
    by_cases e:d1=t
    ·subst e;rw[if_pos rfl,e3d]
    ·rw[if_neg e,e3t t (Ne.symm e)]
     simp only[Env.new,Env.kill,lk_killT]
     rw[hsame t hnp]
     have:=hkt t
     simpa only[Env.kill,lk_killT]using this
   ·simp only[Env.put,Env.new,lo,if_true]
   ·simp only[Env.put,Env.new,lo]
    rw[if_neg (Ne.symm hm),e3o m hm]
    have:=hko m
    simp only[Env.kill,lo_kill']at this⊢
    rw[hob' m]
    exact this
  ·have him:i<ps.length:=by
    have:i<(ps++[I.bl d1 c zs]).length:=(List.getElem?_eq_some_iff.1 hp).1
    rw[hpl]at this
    omega
   rw[List.getElem?_append_left him]at hp
   have hmem:ps.length∈U.erase i↔ps.length∈U:=List.mem_erase_of_ne (Ne.symm hi)
   by_cases hk0:ps.length∈U
   ·exact Iv3.step hbox hD hDm hJ.fv hst hPf hvd hcl hiU hnd hp ho hedge (hI.1 hk0) fun Γ2 h=>⟨fun _=>h,fun h7=>absurd (hmem.2 hk0) h7⟩
   ·have hpost:=hI.2 hk0
    have hrd:=(hpost.late i hiU p hp).1
    have hqm:p∈ps:=List.mem_of_getElem? hp
    have hcl':(∃d s,p= .mv d (.t s)∧s≠d0)∨p.gen2=true:=by
     rcases hcl p hqm with⟨f,xs,rfl⟩|h|h
     ·cases hrd
     ·exact .inl h
     ·exact .inr h
    have hne:∀d,p.dst=some d->d≠d0:=fun d hd e=>by
     subst e
     obtain⟨f,xs,e⟩:=hd0 p hqm hd
     subst e
     cases hrd
    have:=late_step (E3:=E3) hjst hD hvd hJ.fv hbox hboxl e3o hiU hp hedge' hne (fun t ht=>e3t t fun e=>hloo1 p hqm (e▸ht)) (fun d hd=>e3t d (hdst1 p hqm d hd)) hcl' hpost
    exact vi_imp (fun Γ2 h=>⟨fun h7=>absurd (hmem.1 h7) hk0,fun _=>h⟩) hrd this
 ·have hn:ps.length∉U:=fun h=>by
   have:=hU _ h
   rw[hpl]at this
   omega
  obtain⟨_,h1,h2,h3⟩:=hI.2 hn
  have hnone:∀j∈U,ps[j]? =none:=fun j hj=>List.getElem?_eq_none (by
   have:=hU j hj
   rw[hpl]at this
   omega)
  refine hr.of_same ⟨fun t=>(h1 t fun j hj q hq=>by rw[hnone j hj]at hq;cases hq).symm,fun m=> ?_⟩
  by_cases e:m=[d1]
  ·subst e;rw[h2,e3b]
  ·rw[h3 m e]
 ·exact absurd (by simpa using(List.getElem?_eq_some_iff.1 ho).1) hn
 ·refine(hJ.keep t fun hd=> ?_).symm
  obtain⟨q,hq,hqd⟩:=List.mem_filterMap.1 hd
  obtain⟨j,hj,hjq⟩:=hall hq
  exact ht j hj q hjq hqd
 ·exact Post.trans (a':=a') (K':=K) (ow:=ow) (w:=w) (ow':=ow) (w':= {w with drawn:=w.drawn+1}) ⟨rfl,rfl,rfl,Nat.le_refl _,fun _ _ h=>⟨h,rfl⟩⟩ h
end
end Go.Q
namespace Go.Q
def C.m(P:Program)(N:Nat):C->Code->Bool
 | .skip,.skip=>true
 | .rg is,.region _ ops false=>gms P N ops.toList is ops.toList
 | .dr ds ps ts,.region _ ops true=>drM P N ds ps ts ops.toList||drM2 P N ds ps ts ops.toList
 | .dq hs is d ps ts,.region _ ops true=>dqM P N hs is d ps ts ops.toList
 | .dl hs is d ps d1 c xs ts,.region _ ops true=>dlM P N hs is d ps d1 c xs ts ops.toList
 | .sq a b,.seq x y=>a.m P N x&&b.m P N y
 | .cd o a b,.cond c x y=>o.m c&&a.m P N x&&b.m P N y
 | .bk id c,.block id' x=>id==id'&&c.m P N x
 | .lp c,.loop x=>c.m P N x
 | .ex id,.exit id'=>id==id'
 | .rt,.ret=>true
 | .gt t _ _ c,x=>c.m P N x
 | .gb _ _ _ _ c,x=>c.m P N x
 | .zb _ _ _ c,x=>c.m P N x
 | .kp _ _ c,x=>c.m P N x
 | .lk _ _ c,.loop x=>c.m P N x
 |_,_=>false
def PostC(N:Nat)(G:Gd)(ow:Own)(w:World)(K:Xt->Env->Prop):Exit->Act->World->Prop
 | .normal,a',w'=>Post N G ow w (K .nrm) a' w'
 | .exit id,a',w'=>Post N G ow w (K (.ex id)) a' w'
 | .ret,a',w'=>Post N G ow w (K .rt) a' w'
 |_,_,_=>False
def Lq(P:Program)(N:Nat)(c:C)(Γ:Env)(K:Xt->Env->Prop):Prop:=
 ∀G x,G.tb=tabs P->c.m P N x=true->∀σ ow w a,Rep N G σ ow w a Γ->(Code.loop x).wp P (PostC N G ow w K) a w
section
variable {S:FuncId->List SA->RA->Prop} {P:Program} {N:Nat} {G:Gd} {σ:Lab->Value} {ow:Own} {w:World} {a:Act} {Γ:Env} {Q:Exit->Act->World->Prop}
theorem PostC.trans{K:Xt->Env->Prop}{ow':Own}{w':World}(he:Ext ow w ow' w'){e:Exit}{b:Act}{v:World}(h:PostC N G ow' w' K e b v):PostC N G ow w K e b v:=by
 cases e<;>first|exact h.elim|exact Post.trans (a':=b) (K':=K .nrm) he h
theorem Rep.view(hr:Rep N G σ ow w a Γ){t:Nat}{x:AV}(hx:RepV σ (fz G ow w) w x (a.tmps.getD t undef)):Rep N G σ ow w a (Γ.put t x):=
 ⟨hr.size,hr.defers,fun t' y hy=>by
  simp only[Env.put,lk]at hy
  split at hy
  ·rename_i e
   cases hy
   subst e;exact hx
  ·exact hr.tm t' y hy,hr.ob,hr.own,hr.top,hr.pin,hr.big⟩
theorem upd_none(p:Lab->Bool):Upd p ow w ow w:=⟨rfl,rfl,rfl,Nat.le_refl _,fun _ _ _=>⟨rfl,rfl⟩⟩
theorem Rep.ghost_t(hr:Rep N G σ ow w a Γ){t:Nat}{c:Ki}{dp:Bool}{k:Ki}(hy:lk Γ.tm t=some (.nl c)):
  Rep N G (σat σ [t] (a.tmps.getD t undef)) ow w a (((Γ.kill (fun m=>m==[t])).new [t] (.row dp false k [])).put t (.sl [t])):=by
 obtain⟨A,hA⟩:=RepV_nl.1 (hr.tm t _ hy)
 have h1:=(hr.kill (fun m=>m==[t])).upd (σ':=σat σ [t] (a.tmps.getD t undef)) (upd_none _) (σat_keep (by simp)) (Free.kill _ Γ)
 have hσ:σat σ [t] (a.tmps.getD t undef) [t]=a.tmps.getD t undef:=if_pos rfl
 refine(h1.new (l:=[t]) (o:=.row dp false k []) ⟨[],?_,by simp,by simp⟩).view (RepV_sl.2 ⟨A,0,0,by rw[hσ];exact hA,hA⟩)
 rw[hσ,hA]
 unfold RowO
 split<;>exact .inl ⟨⟨A,rfl⟩,rfl,rfl⟩
theorem Rep.ghost_b(hr:Rep N G σ ow w a Γ){l:Lab}{j:Nat}{c:Ki}{dp:Bool}{k:Ki}{ls:List AV}(hq:lo (Γ.kill (fun m=>m==l++[j])).ob l=some (.box ls))(hz:ls[j]? =some (.nl c)):
  ∃σ',Rep N G σ' ow w a ⟨(Γ.kill (fun m=>m==l++[j])).tm,(l++[j],.row dp false k [])::(l,.box (setAt ls j [.sl (l++[j])]))::(Γ.kill (fun m=>m==l++[j])).ob⟩:=by
 obtain⟨b,e,cs,h1,h2,h3,h4⟩:=(hr.kill (fun m=>m==l++[j])).ob l _ hq
 obtain⟨u,hu,hru⟩:=h4.get hz
 simp only[RepC,List.cons.injEq,and_true]at hru
 obtain⟨A,rfl⟩:=hru
 refine⟨σat σ (l++[j]) (.slice A 0 0),?_⟩
 have k1:=(hr.kill (fun m=>m==l++[j])).upd (σ':=σat σ (l++[j]) (.slice A 0 0)) (upd_none _) (σat_keep (by simp)) (Free.kill _ Γ)
 obtain⟨b',e',cs',g1,g2,g3,g4⟩:=k1.ob l _ hq
 have hne:l≠l++[j]:=fun h=>by have:=congrArg List.length h;simp at this
 have hcs:cs'=cs∧b'=b:=by
  have:σat σ (l++[j]) (.slice A 0 0) l=σ l:=if_neg hne
  rw[this,h1]at g1
  simp only[Value.pointer.injEq,Option.some.injEq,Addr.mk.injEq,and_true]at g1
  subst g1
  rw[h2]at g2
  cases g2
  exact⟨rfl,rfl⟩
 obtain⟨rfl,rfl⟩:=hcs
 have hσ:σat σ (l++[j]) (.slice A 0 0) (l++[j])= .slice A 0 0:=if_pos rfl
 have hlt:j<cs'.toList.length:=(List.getElem?_eq_some_iff.1 hu).1
 have hbox:ObR G (σat σ (l++[j]) (.slice A 0 0)) ow w l (.box (setAt ls j [.sl (l++[j])])):=by
  refine⟨b',e',cs',g1,g2,g3,?_⟩
  have hs:=RepCs.setAt (ls:=ls) (xs:=[.sl (l++[j])]) (cs:=cs'.toList) (us:=[.slice A 0 0]) j g4 ⟨_,[],rfl,by simp only[RepC];exact⟨A,0,0,hσ,rfl⟩,rfl⟩ (by simp only[List.length_singleton];omega)
  have ecs:cs'.toList.take j++[Value.slice A 0 0]++cs'.toList.drop (j+[Value.slice A 0 0].length)=cs'.toList:=by
   obtain⟨h5,h6⟩:=List.getElem?_eq_some_iff.1 hu
   have h7:cs'.toList.drop (j+[Value.slice A 0 0].length)=cs'.toList.drop (j+1):=rfl
   rw[h7,List.append_assoc,List.singleton_append,<-h6,List.getElem_cons_drop,List.take_append_drop]
  rw[ecs]at hs
  exact hs
 have k2:=k1.new hbox (fun h=>k1.pin l _ hq h)
 have k3:=k2.new (l:=l++[j]) (o:=.row dp false k []) ⟨[],by
  rw[hσ]
  unfold RowO
  split<;>exact .inl ⟨⟨A,rfl⟩,rfl,rfl⟩,by simp,by simp⟩
 exact k3
theorem Rep.pb(hr:Rep N G σ ow w a Γ){l:Lab}{j:Nat}{k:Ki}{ls:List AV}{y:AV}{x:k.T}(hq:lo Γ.ob l=some (.box ls))(hz:ls[j]? =some y)(hx:pkL Γ.ob k y=some x)(hrf:y.refs (fun _=>true)=false):
  Rep N G σ ow w a ⟨Γ.tm,(l,.box (setAt ls j [.v k x]))::Γ.ob⟩:=by
 obtain⟨b,e,cs,h1,h2,h3,h4⟩:=hr.ob l _ hq
 obtain⟨u,hu,hru⟩:=h4.get hz
 have hK:Kx (fz G ow w) w k x [u]:=pkL_rep hr.ob (fun _ h=>h) hx hru (fun h=>by rw[hrf]at h;cases h)
 have hbox:ObR G σ ow w l (.box (setAt ls j [.v k x])):=by
  refine⟨b,e,cs,h1,h2,h3,?_⟩
  have hlt:j<cs.toList.length:=(List.getElem?_eq_some_iff.1 hu).1
  have hs:=RepCs.setAt (ls:=ls) (xs:=[.v k x]) (cs:=cs.toList) (us:=[u]) j h4 ⟨_,[],rfl,by simp only[RepC];exact hK,rfl⟩ (by simp only[List.length_singleton];omega)
  have ecs:cs.toList.take j++[u]++cs.toList.drop (j+[u].length)=cs.toList:=by
   obtain⟨h5,h6⟩:=List.getElem?_eq_some_iff.1 hu
   have h7:cs.toList.drop (j+[u].length)=cs.toList.drop (j+1):=rfl
   rw[h7,List.append_assoc,List.singleton_append,<-h6,List.getElem_cons_drop,List.take_append_drop]
  rw[ecs]at hs
  exact hs
 exact hr.new hbox (fun h=>hr.pin l _ hq h)
theorem Rep.zb(hr:Rep N G σ ow w a Γ){l m:Lab}{j:Nat}{k:Ki}{ls ls':List AV}{q:Ob}{x:k.T}(hb:lo Γ.ob l=some (.box ls))(hj:ls[j]? =some (.sl m))(hq:lo Γ.ob m=some q)(hz:pk [(m,q)] k (.sl m)=some x)
  (hb':lo (Γ.kill fun m'=>m'==m).ob l=some (.box ls')):
  Rep N G σ (owZ ow m) w a ⟨(Γ.kill fun m'=>m'==m).tm,(l,.box (setAt ls' j [.v k x]))::(Γ.kill fun m'=>m'==m).ob⟩∧Ext ow w (owZ ow m) w:=by
 have hr':=(hr.kill fun m'=>m'==m).upd (σ':=σ) (upd_owZ m) (fun _ _=>rfl) (Free.kill _ Γ)
 obtain⟨b,e,cs,h1,h2,h3,h4⟩:=hr.ob l _ hb
 obtain⟨b',e',cs',h1',h2',h3',h4'⟩:=hr'.ob l _ hb'
 rw[h1]at h1'
 cases h1'
 rw[h2]at h2'
 cases h2'
 obtain⟨u,hu,hru⟩:=h4.get hj
 have hv:RepV σ (fz G ow w) w (.sl m) u:=by
  obtain⟨A,n,cp,e1,e2⟩:=(by simpa only[RepC]using hru:∃A n cap,σ m= .slice A n cap∧[u]=[.slice A n cap])
  exact RepV_sl.2 ⟨A,n,cp,e1,by simpa using e2⟩
 have hV:=fz_put hr hq hz hv
 have hns:(AV.v k x).isS=false:=by
  cases k with
  |struct n=>simp[pk,pkL,AV.as]at hz
  |_=>rfl
 have hK:Kx (fz G (owZ ow m) w) w k x [u]:=by
  have:RepU σ (fz G (owZ ow m) w) w (.v k x) u:=hV
  simpa only[RepU,hns,Bool.false_eq_true,if_false,RepC]using this
 have hbox:ObR G σ (owZ ow m) w l (.box (setAt ls' j [.v k x])):=by
  refine⟨b,e,cs,h1,h2,h3',?_⟩
  have hlt:j<cs.toList.length:=(List.getElem?_eq_some_iff.1 hu).1
  have hs:=RepCs.setAt (ls:=ls') (xs:=[.v k x]) (cs:=cs.toList) (us:=[u]) j h4' ⟨_,[],rfl,by simp only[RepC];exact hK,rfl⟩ (by simp only[List.length_singleton];omega)
  have ecs:cs.toList.take j++[u]++cs.toList.drop (j+[u].length)=cs.toList:=by
   obtain⟨h5,h6⟩:=List.getElem?_eq_some_iff.1 hu
   have h7:cs.toList.drop (j+[u].length)=cs.toList.drop (j+1):=rfl
   rw[h7,List.append_assoc,List.singleton_append,<-h6,List.getElem_cons_drop,List.take_append_drop]
  rw[ecs]at hs
  exact hs
 exact⟨hr'.new hbox (fun h=>hr'.pin l _ hb' h),(upd_owZ m).ext⟩
theorem lk_keepT{tm:List (Nat×AV)}{t:Nat}{x:AV}:∀ {ts:List Nat},lk (keepT tm ts) t=some x->lk tm t=some x
 | [],h=>by simp[keepT,lk]at h
 |k::ts,h=>by
  simp only[keepT]at h
  split at h
  ·rename_i a ha
   simp only[lk]at h
   split at h
   ·rename_i e;subst e;rw[<-h];exact ha
   ·exact lk_keepT h
  ·exact lk_keepT h
theorem lo_keepO{ob:List (Lab×Ob)}{l:Lab}{x:Ob}:∀ {ls:List Lab},lo (keepO ob ls) l=some x->lo ob l=some x
 | [],h=>by simp[keepO,lo]at h
 |k::ls,h=>by
  simp only[keepO]at h
  split at h
  ·rename_i a ha
   simp only[lo]at h
   split at h
   ·rename_i e;subst e;rw[<-h];exact ha
   ·exact lo_keepO h
  ·exact lo_keepO h
theorem Rep.keep(hr:Rep N G σ ow w a Γ)(ts:List Nat)(ls:List Lab):Rep N G σ ow w a (Γ.keep ts ls):=
 ⟨hr.size,hr.defers,fun t x h=>hr.tm t x (lk_keepT h),fun l q h=>hr.ob l q (lo_keepO h),hr.own,hr.top,fun l q h=>hr.pin l q (lo_keepO h),hr.big⟩
theorem snd_c(hS:SOk P G S):∀ {c:C} {x:Code} {K:Xt->Env->Prop} {σ:Lab->Value} {ow:Own} {w:World} {a:Act} {Γ:Env},c.m P N x=true->Rep N G σ ow w a Γ->vc S (Lq P N) c Γ K->x.wp P (PostC N G ow w K) a w:=by
 intro c
 induction c with
 |skip=>
  intro x K σ ow w a Γ hm hr hv
  cases x<;>simp only[C.m,Bool.false_eq_true]at hm
  exact wp_skip ⟨Γ,σ,ow,hv,hr,Ext.refl ow w⟩
 |rg is=>
  intro x K σ ow w a Γ hm hr hv
  cases x with
  |region id ops draw=>
   cases draw with
   |true=>simp[C.m]at hm
   |false=>exact wp_region_list (snd_is hS (K:=K .nrm) (ops:=ops.toList) hm hr hv fun a' w' h=>h)
  |_=>simp[C.m]at hm
 |dr ds ps ts=>
  intro x K σ ow w a Γ hm hr hv
  cases x with
  |region id ops draw=>
   cases draw with
   |true=>
    simp only[C.m,Bool.or_eq_true]at hm
    rcases hm with hm|hm
    ·exact snd_dr hS (K:=K .nrm) hm hr hv fun a' w' h=>h
    ·exact snd_dr2 hS (K:=K .nrm) hm hr hv fun a' w' h=>h
   |false=>simp[C.m]at hm
  |_=>simp[C.m]at hm
 |dq hs is d ps ts=>
  intro x K σ ow w a Γ hm hr hv
  cases x with
  |region id ops draw=>
   cases draw with
   |true=>exact snd_dq hS (K:=K .nrm) hm hr hv.1 hv.2 fun a' w' h=>h
   |false=>simp[C.m]at hm
  |_=>simp[C.m]at hm
 |dl hs is d ps d1 c xs ts=>
  intro x K σ ow w a Γ hm hr hv
  cases x with
  |region id ops draw=>
   cases draw with
   |true=>exact snd_dl hS (K:=K .nrm) hm hr hv.1 hv.2 fun a' w' h=>h
   |false=>simp[C.m]at hm
  |_=>simp[C.m]at hm
 |sq c d ihc ihd=>
  intro x K σ ow w a Γ hm hr hv
  cases x with
  |seq x y=>
   simp only[C.m,Bool.and_eq_true]at hm
   refine wp_seq (wp_mono (ihc hm.1 hr hv) fun e b v h=> ?_)
   cases e with
   |normal=>
    obtain⟨Γ',σ',ow',hk,hr',he⟩:=h
    exact wp_mono (ihd hm.2 hr' hk) fun e b v h=>PostC.trans he h
   |exit id=>exact h
   |ret=>exact h
   |_=>exact h.elim
  |_=>simp[C.m]at hm
 |cd o c d ihc ihd=>
  intro x K σ ow w a Γ hm hr hv
  cases x with
  |cond o' x y=>
   simp only[C.m,Bool.and_eq_true]at hm
   obtain⟨av,he,hv⟩:=need_iff hv
   have hx:=ev_rep hr hm.1.1 he
   split at hv
   ·rename_i t
    have hx':a.eval o'= .bool t:=by simpa[RepV,RepU,AV.isS,RepC,Kx_bool]using hx
    exact wp_cond_split hx' (fun ht=>ihc hm.1.2 hr (hv.1 ht)) (fun ht=>ihd hm.2 hr (hv.2 ht))
   ·exact hv.elim
  |_=>simp[C.m]at hm
 |bk id c ih=>
  intro x K σ ow w a Γ hm hr hv
  cases x with
  |block id' x=>
   simp only[C.m,Bool.and_eq_true,beq_iff_eq]at hm
   obtain⟨rfl,hm⟩:=hm
   refine wp_block (wp_mono (ih hm hr hv) fun e b v h=> ?_)
   cases e with
   |normal=>exact h
   |exit j=>
    obtain⟨Γ',σ',ow',hk,hr',he⟩:=h
    simp only[Exit.inBlock]
    dsimp only at hk
    split
    ·rename_i e;rw[if_pos e]at hk;exact⟨Γ',σ',ow',hk,hr',he⟩
    ·rename_i e;rw[if_neg e]at hk;exact⟨Γ',σ',ow',hk,hr',he⟩
   |ret=>exact h
   |_=>exact h.elim
  |_=>simp[C.m]at hm
 |lp c ih=>
  intro x K σ ow w a Γ hm hr hv
  cases x with
  |loop x=>exact hv G x hS.2 hm σ ow w a hr
  |_=>simp[C.m]at hm
 |gt t dp k c ih=>
  intro x K σ ow w a Γ hm hr hv
  obtain⟨y,hy,hv⟩:=need_iff hv
  split at hv
  ·exact ih (by simpa[C.m]using hm) (hr.ghost_t hy) hv
  ·exact ih (by simpa[C.m]using hm) hr hv
 |kp ts ls c ih=>
  intro x K σ ow w a Γ hm hr hv
  exact ih (by simpa[C.m]using hm) (hr.keep ts ls) hv
 |lk ts ls c ih=>
  intro x K σ ow w a Γ hm hr hv
  cases x with
  |loop x=>exact hv G x hS.2 hm σ ow w a hr
  |_=>simp[C.m]at hm
 |zb t j k c ih=>
  intro x K σ ow w a Γ hm hr hv
  obtain⟨y,hy,hv⟩:=need_iff hv
  split at hv
  ·obtain⟨q,hq,hv⟩:=need_iff hv
   split at hv
   ·obtain⟨z,hz,hv⟩:=need_iff hv
    split at hv
    ·obtain⟨q2,hq2,hv⟩:=need_iff hv
     obtain⟨x',hx',hv⟩:=need_iff hv
     obtain⟨q3,hq3,hv⟩:=need_iff hv
     split at hv
     ·obtain⟨hr',he'⟩:=hr.zb hq hz hq2 hx' hq3
      exact wp_mono (ih (by simpa[C.m]using hm) hr' hv) fun e b v h=>PostC.trans he' h
     ·exact hv.elim
    ·exact ih (by simpa[C.m]using hm) hr hv
   ·exact hv.elim
  ·exact hv.elim
 |gb t j dp k c ih=>
  intro x K σ ow w a Γ hm hr hv
  obtain⟨y,hy,hv⟩:=need_iff hv
  split at hv
  ·obtain⟨q,hq,hv⟩:=need_iff hv
   split at hv
   ·obtain⟨z,hz,hv⟩:=need_iff hv
    split at hv
    ·obtain⟨σ',hr'⟩:=hr.ghost_b (dp:=dp) (k:=k) hq hz
     exact ih (by simpa[C.m]using hm) hr' hv
    ·exact ih (by simpa[C.m]using hm) hr hv
   ·exact hv.elim
  ·exact hv.elim
 |ex id=>
  intro x K σ ow w a Γ hm hr hv
  cases x with
  |exit id'=>
   simp only[C.m,beq_iff_eq]at hm
   subst hm
   exact wp_exit ⟨Γ,σ,ow,hv,hr,Ext.refl ow w⟩
  |_=>simp[C.m]at hm
 |rt=>
  intro x K σ ow w a Γ hm hr hv
  cases x<;>simp only[C.m,Bool.false_eq_true]at hm
  exact wp_ret ⟨Γ,σ,ow,hv,hr,Ext.refl ow w⟩
def Again{T:Type}(ts:List Nat)(ls:List Lab)(I:T->Env)(V:T->Prop)(μ:T->Nat)(n:Nat)(Γ:Env):Prop:=∃t,V t∧μ t<n∧Γ.keep ts ls=I t
def Round{T:Type}(ts:List Nat)(ls:List Lab)(I:T->Env)(V:T->Prop)(μ:T->Nat)(n:Nat)(K:Xt->Env->Prop):Xt->Env->Prop
 | .nrm,Γ=>Again ts ls I V μ n Γ
 |e,Γ=>K e Γ
theorem Lq.intro(hS:∀f as r,S f as r->Sp P f as r){T:Type}(ts:List Nat)(ls:List Lab)(I:T->Env)(V:T->Prop)(μ:T->Nat){c:C}{K:Xt->Env->Prop}
  (h0:∃t,V t∧Γ.keep ts ls=I t) (hs:∀t,V t->vc S (Lq P N) c (I t) (Round ts ls I V μ (μ t) K)):Lq P N c Γ K:=by
 intro G x hG hm σ ow w a hr
 obtain⟨t,hV,hI⟩:=h0
 have hr0:=hr.keep ts ls
 rw[hI]at hr0
 intro b k cs
 have key:∀n t σ' ow' w' a',μ t=n->V t->Rep N G σ' ow' w' a' (I t)->Ext ow w ow' w'->
   ∃e a2 w2,PostC N G ow w K e a2 w2∧Arrives P (lone (b.at a' (.code x:: .inLoop x::k)) cs w') b k cs e a2 w2:=by
  intro n
  induction n using Nat.strongRecOn with
  |_ n ih=>
   intro t σ' ow' w' a' hn hV hr he
   obtain⟨e,a₁,w₁,hq,harr⟩:=snd_c ⟨hS,hG⟩ hm hr (hs t hV) b (.inLoop x::k) cs
   cases e with
   |normal=>
    obtain⟨Γ',σ2,ow2,⟨t',hV',hlt,hI'⟩,hr2,he2⟩:=hq
    have hr3:=hr2.keep ts ls
    rw[hI']at hr3
    obtain⟨e₂,a₂,w₂,hq₂,harr₂⟩:=ih (μ t') (hn▸hlt) t' σ2 ow2 w₁ a₁ rfl hV' hr3 (he.trans he2)
    exact⟨e₂,a₂,w₂,hq₂,.of_steps (Steps.trans harr (.one step_inLoop)) harr₂⟩
   |exit id=>exact⟨_,a₁,w₁,PostC.trans (K:=K) (e:=.exit id) he hq,.pass (x:=.inLoop x) rfl (fun _ _=>.inl (by simp)) harr⟩
   |ret=>exact⟨_,a₁,w₁,PostC.trans (K:=K) (e:=.ret) he hq,.pass (x:=.inLoop x) rfl (fun _ _=>.inl (by simp)) harr⟩
   |_=>exact hq.elim
 obtain⟨e,a',w',hq,harr⟩:=key _ t σ ow w a rfl hV hr0 (Ext.refl ow w)
 exact⟨e,a',w',hq,.of_steps (.one step_loop) harr⟩
theorem Lq.introR(hS:∀f as r,S f as r->Sp P f as r){T:Type}(ts:List Nat)(ls:List Lab)(I:T->Env)(V:T->Prop)(μ:T->Nat){c:C}{K:Xt->Env->Prop}
  (h0:∃t,V t∧Γ.keep ts ls=I t) (R:Nat->Xt->Env->Prop) (hR:∀n Γ,R n .nrm Γ->Again ts ls I V μ n Γ) (hE:∀n i Γ,R n (.ex i) Γ->K (.ex i) Γ) (hT:∀n Γ,R n .rt Γ->K .rt Γ) (hs:∀t,V t->vc S (Lq P N) c (I t) (R (μ t))):Lq P N c Γ K:=by
 intro G x hG hm σ ow w a hr
 obtain⟨t,hV,hI⟩:=h0
 have hr0:=hr.keep ts ls
 rw[hI]at hr0
 intro b k cs
 have key:∀n t σ' ow' w' a',μ t=n->V t->Rep N G σ' ow' w' a' (I t)->Ext ow w ow' w'->
   ∃e a2 w2,PostC N G ow w K e a2 w2∧Arrives P (lone (b.at a' (.code x:: .inLoop x::k)) cs w') b k cs e a2 w2:=by
  intro n
  induction n using Nat.strongRecOn with
  |_ n ih=>
   intro t σ' ow' w' a' hn hV hr he
   obtain⟨e,a₁,w₁,hq,harr⟩:=snd_c ⟨hS,hG⟩ hm hr (hs t hV) b (.inLoop x::k) cs
   cases e with
   |normal=>
    obtain⟨Γ',σ2,ow2,hq1,hr2,he2⟩:=hq
    obtain⟨t',hV',hlt,hI'⟩:=hR _ _ hq1
    have hr3:=hr2.keep ts ls
    rw[hI']at hr3
    obtain⟨e₂,a₂,w₂,hq₂,harr₂⟩:=ih (μ t') (hn▸hlt) t' σ2 ow2 w₁ a₁ rfl hV' hr3 (he.trans he2)
    exact⟨e₂,a₂,w₂,hq₂,.of_steps (Steps.trans harr (.one step_inLoop)) harr₂⟩
   |exit id=>
    obtain⟨Γ',σ2,ow2,hq1,hq2⟩:=hq
    have hq:PostC N G ow' w' K (.exit id) a₁ w₁:=⟨Γ',σ2,ow2,hE _ _ _ hq1,hq2⟩
    exact⟨_,a₁,w₁,PostC.trans (K:=K) (e:=.exit id) he hq,.pass (x:=.inLoop x) rfl (fun _ _=>.inl (by simp)) harr⟩
   |ret=>
    obtain⟨Γ',σ2,ow2,hq1,hq2⟩:=hq
    have hq:PostC N G ow' w' K .ret a₁ w₁:=⟨Γ',σ2,ow2,hT _ _ hq1,hq2⟩
    exact⟨_,a₁,w₁,PostC.trans (K:=K) (e:=.ret) he hq,.pass (x:=.inLoop x) rfl (fun _ _=>.inl (by simp)) harr⟩
   |_=>exact hq.elim
 obtain⟨e,a',w',hq,harr⟩:=key _ t σ ow w a rfl hV hr0 (Ext.refl ow w)
 exact⟨e,a',w',hq,.of_steps (.one step_loop) harr⟩
end
end Go.Q
namespace Go.Q
inductive RV where
 |t (n:Nat) (m:RM)
 |c (n:Nat) (m:RM)
def RM.k:RM->Ki
 | .v c=>c
 | .o c=>c
 | .s c=>.slice c
 | .cl c=>.slice c
 | .m _ _=>.str
 | .b n=>.ptr (.struct n)
def RV.m:RV->RM
 | .t _ m=>m
 | .c _ m=>m
def boxA(k:Ki)(ls:List AV):Option AV:=
 match k with
 | .struct n=>if ls.length=ssz n then some (.ag n ls)else none
 |_=>(match ls with
  | [a]=>if a.leaf then some a else none
  |_=>none)
def rav(Γ:Env):RV->Option AV
 | .t n _=>lk Γ.tm n
 | .c n m=>(match lk Γ.tm n with
  |some (.pt l 0)=>(match lo Γ.ob l with
   |some (.box ls)=>boxA m.k ls
   |_=>none)
  |_=>none)
def nodL:List Lab->Bool
 | []=>true
 |l::ls=> !ls.contains l&&nodL ls
theorem nodL_nodup:∀ {ls:List Lab},nodL ls=true->ls.Nodup
 | [],_=>List.nodup_nil
 |l::ls,h=>by
  simp only[nodL,Bool.and_eq_true]at h
  exact List.nodup_cons.2 ⟨by simpa using h.1,nodL_nodup h.2⟩
def rx1(Γ:Env)(a:AV):RM->Option RA
 | .v c=>(pk Γ.ob c a).map (RA.v c)
 | .o c=>(pkO Γ.ob c a).bind fun r=>if nodL r.2 then some (.o c r.1)else none
 | .s c=>(match a with
  | .sl l=>(match lo Γ.ob l with
   |some (.row false p c' xs)=>(Ob.as c (.row false p c' xs)).map (RA.s c)
   |_=>none)
  |_=>none)
 | .cl c=>(match a with
  | .cl c' xs=>(AV.as (.slice c) (.v (.slice c') xs)).map (RA.cl c)
  |_=>none)
 | .m kk vk=>(match a with
  | .mp l=>(match lo Γ.ob l with
   |some (.mp kk' vk' es)=>(mpAs kk vk (.mp kk' vk' es)).map (RA.m kk vk)
   |_=>none)
  |_=>none)
 | .b n=>(match a with
  | .pt l 0=>(match lo Γ.ob l with
   |some (.box ls)=>if refsL (fun _=>true) ls then none else if ls.length=ssz n then(pk Γ.ob (.struct n) (.ag n ls)).map (RA.b n)else none
   |_=>none)
  |_=>none)
def rxq(Γ:Env)(a:AV):RM->Option (RA×List Lab)
 | .v c=>if a.refs (fun _=>true)then none else(pk Γ.ob c a).map fun x=>(.v c x,[])
 | .o c=>(pkO Γ.ob c a).map fun r=>(.o c r.1,r.2)
 | .s c=>(match a with
  | .sl l=>(match lo Γ.ob l with
   |some (.row false false c' xs)=>(Ob.as c (.row false false c' xs)).map fun xs=>(.s c xs,[l])
   |_=>none)
  | .nl _=>some (.s c [],[])
  |_=>none)
 | .cl c=>(match a with
  | .cl c' xs=>(AV.as (.slice c) (.v (.slice c') xs)).map fun xs=>(.cl c xs,[])
  |_=>none)
 | .m kk vk=>(match a with
  | .mp l=>(match lo Γ.ob l with
   |some (.mp kk' vk' es)=>(mpAs kk vk (.mp kk' vk' es)).map fun es=>(.m kk vk es,[l])
   |_=>none)
  |_=>none)
 | .b n=>(match a with
  | .pt l 0=>(match lo Γ.ob l with
   |some (.box ls)=>if refsL (fun _=>true) ls then none else if ls.length=ssz n then(pk Γ.ob (.struct n) (.ag n ls)).map (fun x=>(.b n x,[l]))else none
   |_=>none)
  |_=>none)
def rxl(Γ:Env):List RV->Option (List RA×List Lab)
 | []=>some ([],[])
 |v::vs=>(rav Γ v).bind fun a=>(rxq Γ a v.m).bind fun q=>(rxl Γ vs).map fun p=>(q.1::p.1,q.2++p.2)
def rxQ(Γ:Env):List RV->Option (RA×List Lab)
 | []=>some (.t [],[])
 | [v]=>(rav Γ v).bind fun a=>rxq Γ a v.m
 |vs=>(rxl Γ vs).map fun p=>(.t p.1,p.2)
def rx(Γ:Env):List RV->Option RA
 | []=>some (.t [])
 | [v]=>(rav Γ v).bind fun a=>rx1 Γ a v.m
 |vs=>(rxl Γ vs).bind fun p=>if nodL p.2 then some (.t p.1)else none
def Fin(vs:List RV)(r:RA):Xt->Env->Prop
 | .ex _,_=>False
 |_,Γ=>rx Γ vs=some r
def entry:Nat->List SA->List (Nat×AV)
 |_,[]=>[]
 |i,.v c x::r=>(i,.v c x)::entry (i+1) r
 |i,.fn f cs::r=>(i,.fn f (capV cs))::entry (i+1) r
 |i,_::r=>entry (i+1) r
def rvM(P:Program)(N:Nat):RV->ResultVar->Bool
 | .t n _,.tmp t=>n==t
 | .c n m,.cell a t=>n==a&&tk P t m.k
 |_,_=>false
def rvsM(P:Program)(N:Nat):List RV->List ResultVar->Bool
 | [],[]=>true
 |v::vs,x::xs=>rvM P N v x&&rvsM P N vs xs
 |_,_=>false
def fnM(P:Program)(fn:Func)(N:Nat)(c:C)(vs:List RV):Bool:=
 fn.name != "runtime.NumGoroutine" &&fn.ntmps==N&&(match fn.body with|some x=>c.m P N x|none=>false)&&rvsM P N vs fn.results.toList
section
variable {P:Program} {N:Nat} {G:Gd} {σ:Lab->Value} {ow:Own} {w w0:World} {a:Act} {Γ:Env}
theorem own_new(he:Ext (fun _=>none) w0 ow w){b:Nat}{l:Lab}(h:ow b=some l):w0.heap.size<=b:=by
 rcases Nat.lt_or_ge b w0.heap.size with h'|h'
 ·rw[(he.block b h' rfl).1]at h;cases h
 ·exact h'
theorem ext_own(he:Ext (fun _=>none) w0 ow w){ow':Own}(h:∀b,b<w0.heap.size->ow' b=none):Ext (fun _=>none) w0 ow' w:=
 ⟨he.os,he.tape,he.output,he.size,fun b hb hn=>⟨h b hb,(he.block b hb hn).2⟩⟩
theorem rx1_rep(hr:Rep N G σ ow w a Γ)(he:Ext (fun _=>none) w0 ow w){m:RM}{x:AV}{r:RA}(h:rx1 Γ x m=some r){u:Value}(hx:RepV σ (fz G ow w) w x u):
  ∃ow',ResR G ow' w r u∧Ext (fun _=>none) w0 ow' w:=by
 cases m with
 |v c=>
  simp only[rx1,Option.map_eq_some_iff]at h
  obtain⟨y,hp,rfl⟩:=h
  refine⟨fun _=>none,⟨fun _=>undef,?_,fun l q h=>by simp[RA.intro,lo]at h⟩,ext_own he fun _ _=>rfl⟩
  exact pk_rep (F':=fz G (fun _=>none) w) hr.ob (fun b hb=>⟨rfl,hb.2⟩) hp hx fun _ b l hb hlt=>⟨rfl,hlt,hr.own b l hb⟩
 |o c=>
  simp only[rx1,Option.bind_eq_some_iff]at h
  obtain⟨⟨y,labs⟩,hp,h⟩:=h
  split at h
  ·rename_i hn
   cases h
   obtain⟨bs,hd,hnd,hob⟩:=pkO_rep hr.ob hp hx (nodL_nodup hn)
   obtain⟨ow',h1,h2⟩:=ResR_o (G:=G) hd hnd (pkO_val hp hx ⟨bs,y,hd⟩)
   refine⟨ow',h2,ext_own he fun b hb=>h1 b fun hb'=> ?_⟩
   obtain⟨l,_,hl⟩:=hob b hb'
   have:=own_new he hl
   omega
  ·cases h
 |s c=>
  simp only[rx1]at h
  split at h
  ·rename_i l
   split at h
   ·rename_i p c' xs hl
    simp only[Option.map_eq_some_iff]at h
    obtain⟨y,hy,rfl⟩:=h
    have e:=oas_eq hy
    simp only[Ob.row.injEq,true_and]at e
    obtain⟨rfl,e⟩:=e
    obtain rfl:=eq_of_heq e
    obtain⟨bs,hrow,hnd,how⟩:=hr.ob _ _ hl
    obtain⟨A,n,cp,hs,e⟩:=RepV_sl.1 hx
    let ow':Own:=fun b=>if b∈bs then some []else none
    have hfz:∀b,fz G ow w b->fz G ow' w b:=fun b hb=>⟨if_neg (fun hb'=>by have h1:=hb.1;rw[how b hb']at h1;cases h1),hb.2⟩
    refine⟨ow',⟨fun _=>u,?_,fun k q hq=> ?_⟩,ext_own he fun b hb=>if_neg fun hb'=> ?_⟩
    ·simp only[RA.intro]
     exact RepV_sl.2 ⟨A,n,cp,e,e⟩
    ·simp only[RA.intro,lo]at hq
     split at hq
     ·rename_i ek
      subst ek
      cases hq
      refine⟨bs,?_,hnd,fun b hb=>if_pos hb⟩
      rw[hs,<-e]at hrow
      exact hrow.keep (fun b hb=>⟨hfz b hb,rfl⟩) (fun _ _=>rfl)
     ·cases hq
    ·have:=own_new he (how b hb')
     omega
   ·cases h
  ·cases h
 |cl c=>
  simp only[rx1]at h
  split at h
  ·rename_i c' xs
   simp only[Option.map_eq_some_iff]at h
   obtain⟨ys,hy,rfl⟩:=h
   have e:=as_eq hy
   simp only[AV.v.injEq,Ki.slice.injEq]at e
   obtain⟨rfl,e⟩:=e
   obtain rfl:=eq_of_heq e
   refine⟨fun _=>none,⟨fun _=>undef,?_,fun l q h=>by simp[RA.intro,lo]at h⟩,ext_own he fun _ _=>rfl⟩
   simp only[RepV,RepU,AV.isS,Bool.false_eq_true,if_false,RepC]at hx
   simp only[RA.intro,RepV,RepU,AV.isS,Bool.false_eq_true,if_false,RepC]
   exact⟨hx.1.keep fun b hb=>⟨⟨rfl,hb.2⟩,rfl⟩,hx.2⟩
  ·cases h
 |m kk vk=>
  simp only[rx1]at h
  split at h
  ·rename_i l
   split at h
   ·rename_i kk' vk' es hl
    simp only[Option.map_eq_some_iff]at h
    obtain⟨es0,hy,rfl⟩:=h
    have e:=mpAs_eq hy
    simp only[Ob.mp.injEq]at e
    obtain⟨rfl,rfl,e⟩:=e
    obtain rfl:=eq_of_heq e
    obtain⟨g,ms,clk,h1,h2,h3,h4⟩:=hr.ob _ _ hl
    obtain⟨g',hs,e⟩:=RepV_mp.1 hx
    rw[h1]at hs
    cases hs
    let ow':Own:=fun b=>if b=g then some []else none
    have hfz:∀b,fz G ow w b->fz G ow' w b:=fun b hb=>⟨if_neg (fun hb'=>by have h1:=hb.1;rw[hb',h3]at h1;cases h1),hb.2⟩
    refine⟨ow',⟨fun _=>u,?_,fun k q hq=> ?_⟩,ext_own he fun b hb=>if_neg fun hb'=> ?_⟩
    ·simp only[RA.intro]
     exact RepV_mp.2 ⟨g,e,e⟩
    ·simp only[RA.intro,lo]at hq
     split at hq
     ·rename_i ek
      subst ek
      cases hq
      exact⟨g,ms,clk,e,h2,if_pos rfl,h4.keep fun b hb=>⟨hfz b hb,rfl⟩⟩
     ·cases hq
    ·subst hb'
     have:=own_new he h3
     omega
   ·cases h
  ·cases h
 |b n=>
  simp only[rx1]at h
  split at h
  ·rename_i l
   split at h
   ·rename_i ls hl
    split at h
    ·cases h
    rename_i hrf
    split at h
    ·rename_i hlen
     simp only[Option.map_eq_some_iff]at h
     obtain⟨y,hp,rfl⟩:=h
     obtain⟨b,e,cs,hs,hg,hown,hreps⟩:=hr.ob _ _ hl
     obtain⟨b',hs',eu⟩:=RepV_pt.1 hx
     rw[hs]at hs'
     cases hs'
     have hv:RepV σ (fz G ow w) w (.ag n ls) (.agg cs.toList.toArray):=by
      simp only[RepV,RepU,AV.isS,if_true,RepC]
      exact⟨_,rfl,hlen,hreps⟩
     have hk:=RepV_cellsK (pk_rep (F':=fz G ow w) hr.ob (fun _ h=>h) hp hv (fun h=>absurd (by simpa only[AV.refs]using h) hrf))
     simp only[Value.cells]at hk
     let ow':Own:=fun b0=>if b0=b then some []else none
     have hfz:∀b,fz G ow w b->fz G ow' w b:=fun b0 hb=>⟨if_neg (fun hb'=>by have h1:=hb.1;rw[hb',hown]at h1;cases h1),hb.2⟩
     refine⟨ow',⟨fun _=>u,?_,fun k q hq=> ?_⟩,ext_own he fun b0 hb=>if_neg fun hb'=> ?_⟩
     ·simp only[RA.intro]
      exact RepV_pt.2 ⟨b,eu,eu⟩
     ·simp only[RA.intro,lo]at hq
      split at hq
      ·rename_i ek
       subst ek
       cases hq
       exact⟨b,e,cs,eu,hg,if_pos rfl,lv_rep 99 _ _ _ (fok99 n) (Kx_struct.1 (hk.keep fun b hb=>⟨hfz b hb,rfl⟩))⟩
      ·cases hq
     ·subst hb'
      have:=own_new he hown
      omega
    ·cases h
   ·cases h
  ·cases h
theorem rxq_rep(hr:Rep N G σ ow w a Γ){m:RM}{x:AV}{r:RA}{L:List Lab}(h:rxq Γ x m=some (r,L)){u:Value}(hx:RepV σ (fz G ow w) w x u)(hn:L.Nodup):
  ∃p,PcR (fz G ow w) w r u p∧p.Nodup∧OB ow L p∧r.isT=false:=by
 cases m with
 |v c=>
  simp only[rxq]at h
  split at h
  ·cases h
  rename_i hrf
  simp only[Option.map_eq_some_iff,Prod.mk.injEq]at h
  obtain⟨y,hp,rfl,rfl⟩:=h
  have hv:=pk_rep (F':=fz G ow w) hr.ob (fun _ h=>h) hp hx (fun h=>absurd h hrf)
  have hk:=RepV_cellsK hv
  refine⟨[],⟨hk,?_,rfl⟩,List.nodup_nil,fun b hb=>(by cases hb),rfl⟩
  cases hc:c.isS with
  |true=>
   cases c<;>simp[Ki.isS]at hc
   simp only[RepV,RepU,AV.isS,if_true]at hv
   obtain⟨cs,rfl,_⟩:=hv
   simp[valOf,Ki.isS,Value.cells]
  |false=>
   have h1:=isS_sz hc
   obtain⟨e,he⟩:∃e,u.cells.toList=[e]:=List.length_eq_one_iff.1 (hk.len.trans h1)
   have hns:(AV.v c y).isS=false:=by cases c<;>simp_all[Ki.isS,AV.isS]
   have hv':RepC (fun _=>undef) (fz G ow w) w (.v c y) [u]:=by
    have:RepU (fun _=>undef) (fz G ow w) w (.v c y) u:=hv
    simpa only[RepU,hns,Bool.false_eq_true,if_false]using this
   have hone:=Kx_one (by simpa only[RepC]using hv') u (by simp)
   have:u.cells= #[u]:=by cases u<;>simp_all[Value.oneCell',Value.cells]
   simp[valOf,hc,this]
 |o c=>
  simp only[rxq,Option.map_eq_some_iff,Prod.mk.injEq]at h
  obtain⟨⟨y,labs⟩,hp,rfl,rfl⟩:=h
  obtain⟨bs,hd,hnd,hob⟩:=pkO_rep hr.ob hp hx hn
  exact⟨bs,⟨hd,pkO_val hp hx ⟨bs,y,hd⟩⟩,hnd,hob,rfl⟩
 |s c=>
  simp only[rxq]at h
  split at h
  ·rename_i l
   split at h
   ·rename_i c' xs hl
    simp only[Option.map_eq_some_iff,Prod.mk.injEq]at h
    obtain⟨y,hy,rfl,rfl⟩:=h
    have e:=oas_eq hy
    simp only[Ob.row.injEq,true_and]at e
    obtain⟨rfl,e⟩:=e
    obtain rfl:=eq_of_heq e
    obtain⟨bs,hrow,hnd,how⟩:=hr.ob _ _ hl
    obtain⟨A,n,cp,hs,e⟩:=RepV_sl.1 hx
    rw[hs,<-e]at hrow
    exact⟨bs,hrow,hnd,fun b hb=>⟨l,by simp,how b hb⟩,rfl⟩
   ·cases h
  ·simp only[Option.some.injEq,Prod.mk.injEq]at h
   obtain⟨rfl,rfl⟩:=h
   obtain⟨A,rfl⟩:=RepV_nl.1 hx
   refine⟨[],?_,List.nodup_nil,fun b hb=>(by cases hb),rfl⟩
   show RowO w (fz G ow w) false c [] (.slice A 0 0) []
   simp only[RowO,Bool.false_eq_true,if_false]
   exact .inl ⟨⟨A,rfl⟩,rfl,rfl⟩
  ·cases h
 |cl c=>
  simp only[rxq]at h
  split at h
  ·rename_i c' xs
   simp only[Option.map_eq_some_iff,Prod.mk.injEq]at h
   obtain⟨ys,hy,rfl,rfl⟩:=h
   have e:=as_eq hy
   simp only[AV.v.injEq,Ki.slice.injEq]at e
   obtain⟨rfl,e⟩:=e
   obtain rfl:=eq_of_heq e
   simp only[RepV,RepU,AV.isS,Bool.false_eq_true,if_false,RepC]at hx
   obtain⟨h1,A,h2⟩:=hx
   exact⟨[],⟨h1,⟨A,by simpa using h2⟩,rfl⟩,List.nodup_nil,fun b hb=>(by cases hb),rfl⟩
  ·cases h
 |m kk vk=>
  simp only[rxq]at h
  split at h
  ·rename_i l
   split at h
   ·rename_i kk' vk' es hl
    simp only[Option.map_eq_some_iff,Prod.mk.injEq]at h
    obtain⟨es0,hy,rfl,rfl⟩:=h
    have e:=mpAs_eq hy
    simp only[Ob.mp.injEq]at e
    obtain⟨rfl,rfl,e⟩:=e
    obtain rfl:=eq_of_heq e
    obtain⟨g,ms,clk,h1,h2,h3,h4⟩:=hr.ob _ _ hl
    obtain⟨g',hs,e⟩:=RepV_mp.1 hx
    rw[h1]at hs
    cases hs
    exact⟨[g],⟨g,ms,clk,e,h2,rfl,h4⟩,by simp,fun b hb=>⟨l,by simp,by rw[List.mem_singleton.1 hb];exact h3⟩,rfl⟩
   ·cases h
  ·cases h
 |b n=>
  simp only[rxq]at h
  split at h
  ·rename_i l
   split at h
   ·rename_i ls hl
    split at h
    ·cases h
    rename_i hrf
    split at h
    ·rename_i hlen
     simp only[Option.map_eq_some_iff,Prod.mk.injEq]at h
     obtain⟨y,hp,rfl,rfl⟩:=h
     obtain⟨b,e,cs,hs,hg,hown,hreps⟩:=hr.ob _ _ hl
     obtain⟨b',hs',eu⟩:=RepV_pt.1 hx
     rw[hs]at hs'
     cases hs'
     have hv:RepV σ (fz G ow w) w (.ag n ls) (.agg cs.toList.toArray):=by
      simp only[RepV,RepU,AV.isS,if_true,RepC]
      exact⟨_,rfl,hlen,hreps⟩
     have hk:=RepV_cellsK (pk_rep (F':=fz G ow w) hr.ob (fun _ h=>h) hp hv (fun h=>absurd (by simpa only[AV.refs]using h) hrf))
     simp only[Value.cells]at hk
     exact⟨[b],⟨b,e,cs,eu,hg,rfl,hk⟩,by simp,fun b0 hb=>⟨l,by simp,by rw[List.mem_singleton.1 hb];exact hown⟩,rfl⟩
    ·cases h
   ·cases h
  ·cases h
theorem ResR_of(hr:Rep N G σ ow w a Γ){r:RA}{u:Value}{p:List Nat}{L:List Lab}(h:PcR (fz G ow w) w r u p)(hn:p.Nodup)(hO:OB ow L p):∃ow',(∀b,b∉p->ow' b=none)∧ResR G ow' w r u:=by
 have hF:∀b,fz G ow w b->b∉p∧b<w.heap.size:=fun b hb=>⟨fun hh=>(by
  obtain⟨l,_,ho⟩:=hO b hh
  rw[hb.1]at ho;cases ho),hb.2.1⟩
 obtain⟨σ0,ow0,k1,k2,k3⟩:=pc_root h hn hF
 have hfz:∀b,fz G ow w b->fz G ow0 w b:=fun b hb=>⟨k1 b (hF b hb).1,hb.2⟩
 refine⟨ow0,k1,σ0,RepV.keep (p:=fun _=>false) (fun _ _=>rfl) (fun b hb=>⟨hfz b hb,rfl⟩) (refs_false _) k2,fun l q hq=> ?_⟩
 have hob:=k3 l q hq
 have hm:∀b,fz (gd (fz G ow w)) ow0 w b->fz G ow0 w b:=fun b hb=>⟨hb.1,hb.2.1,hb.2.2.2.2⟩
 cases q with
 |box ls=>
  obtain⟨b,e,cs,h1,h2,h3,h4⟩:=hob
  exact⟨b,e,cs,h1,h2,h3,RepCs.keep (p:=fun _=>false) (fun _ _=>rfl) (fun b hb=>⟨hm b hb,rfl⟩) (refsL_false _) h4⟩
 |row dp pin c xs=>
  obtain⟨bs,h1,h2,h3⟩:=hob
  exact⟨bs,h1.mono hm,h2,h3⟩
 |mp kk vk es=>
  obtain⟨g,ms,clk,h1,h2,h3,h4⟩:=hob
  exact⟨g,ms,clk,h1,h2,h3,h4.keep fun b hb=>⟨hm b hb,rfl⟩⟩
theorem res_val(hr:Rep N G σ ow w a Γ){v:RV}{x:ResultVar}{y:AV}(hm:rvM P N v x=true)(h:rav Γ v=some y):
  ∃u,((match x with| .tmp t=>pure (a.tmps.getD t undef)| .cell b t=>do loadVar t (<-asAddr (a.tmps.getD b undef)):Sem Value)).run P w= .ok u w∧RepV σ (fz G ow w) w y u:=by
 cases v with
 |t n m=>
  cases x with
  |tmp t=>
   simp only[rvM,beq_iff_eq]at hm
   subst hm
   exact⟨_,rfl,hr.tm _ _ h⟩
  |cell b t=>simp[rvM]at hm
 |c n m=>
  cases x with
  |tmp t=>simp[rvM]at hm
  |cell b t=>
   simp only[rvM,Bool.and_eq_true,beq_iff_eq]at hm
   obtain⟨rfl,ht⟩:=hm
   simp only[rav]at h
   split at h
   ·rename_i l hl
    split at h
    ·rename_i ls hlo
     obtain⟨b,e,cs,hs,hg,hown,hreps⟩:=hr.ob _ _ hlo
     obtain⟨b',hs',eu⟩:=RepV_pt.1 (hr.tm _ _ hl)
     rw[hs]at hs'
     cases hs'
     have hcs:cs.toList.length=ls.length:=hreps.length
     have key:∀es,es.length=m.k.sz->cs.toList=es->(do loadVar t (<-asAddr (a.tmps.getD n undef)):Sem Value).run P w= .ok (valOf m.k es) w:=fun es hl hc=>by
      have:=run_load_cells ht w ⟨b,0,none⟩ es hl (Cells_box hg 0 es fun j u hj=>by rw[<-hc]at hj;simpa using hj)
      simp only[Instr.loadAt,Instr.sureAddr,Sem.run_bind,Sem.run_pure,Result.andThen_ok]at this
      rw[eu]
      simp only[asAddr,Sem.run_bind,Sem.run_pure,Result.andThen_ok,this]
     unfold boxA at h
     split at h
     ·rename_i n' hk
      split at h
      ·rename_i hlen
       cases h
       refine⟨_,key cs.toList (by rw[hk];simp only[Ki.sz,<-hlen,hcs]) rfl,?_⟩
       simp only[RepV,RepU,AV.isS,if_true,valOf,hk,Ki.isS,RepC]
       exact⟨_,rfl,hlen,hreps⟩
      ·cases h
     ·rename_i hns
      split at h
      ·rename_i a0
       split at h
       ·rename_i hleaf
        cases h
        simp only[RepCs]at hreps
        obtain⟨u,us,e1,h1,h2⟩:=hreps
        subst h2
        have hcS:m.k.isS=false:=by cases hk:m.k<;>simp_all[Ki.isS]
        refine⟨_,key [u] (by simp[isS_sz hcS]) e1,?_⟩
        simp only[valOf,hcS,Bool.false_eq_true,if_false,List.headD_cons]
        refine RepV_leaf h1 ?_
        cases y<;>simp_all[AV.leaf,AV.isS]
        rename_i c' x'
        cases c'<;>simp_all
       ·cases h
      ·cases h
    ·cases h
   ·cases h
def ValsR(P:Program)(tmps:Array Value)(w:World):List ResultVar->List Value->Prop
 | [],us=>us=[]
 |x::xs,us=>∃u us',us=u::us'∧((match x with| .tmp t=>pure (tmps.getD t undef)| .cell b t=>do loadVar t (<-asAddr (tmps.getD b undef)):Sem Value)).run P w= .ok u w∧ValsR P tmps w xs us'
theorem rxl_rep(hr:Rep N G σ ow w a Γ):∀ {vs:List RV} {xs:List ResultVar} {rs:List RA} {L:List Lab},rvsM P N vs xs=true->rxl Γ vs=some (rs,L)->L.Nodup->
  ∃us p,ValsR P a.tmps w xs us∧PcsR (fz G ow w) w rs us p∧p.Nodup∧OB ow L p
 | [],xs,rs,L,hm,h,hn=>by
  simp only[rxl,Option.some.injEq,Prod.mk.injEq]at h
  obtain⟨rfl,rfl⟩:=h
  cases xs with
  |nil=>exact⟨[],[],rfl,by simp[PcsR],List.nodup_nil,fun b hb=>by cases hb⟩
  |cons x xs=>simp[rvsM]at hm
 |v::vs,xs,rs,L,hm,h,hn=>by
  simp only[rxl,Option.bind_eq_some_iff,Option.map_eq_some_iff,Prod.mk.injEq]at h
  obtain⟨x0,hx0,⟨r1,L1⟩,h1,⟨rs2,L2⟩,h2,rfl,rfl⟩:=h
  cases xs with
  |nil=>simp[rvsM]at hm
  |cons x xs=>
   simp only[rvsM,Bool.and_eq_true]at hm
   obtain⟨u,hu,hrep⟩:=res_val (w:=w) hr hm.1 hx0
   obtain⟨p1,k1,k2,k3,k4⟩:=rxq_rep hr h1 hrep (List.nodup_append.1 hn).1
   obtain⟨us,p2,g1,g2,g3,g4⟩:=rxl_rep hr hm.2 h2 (List.nodup_append.1 hn).2.1
   refine⟨u::us,p1++p2,⟨u,us,rfl,hu,g1⟩,?_,k3.nodup g4 hn k2 g3,k3.append g4⟩
   simp only[PcsR]
   exact⟨u,us,p1,p2,rfl,rfl,k1,k4,g2⟩
def resM(tmps:Array Value):ResultVar->Sem Value
 | .tmp t=>pure (tmps.getD t undef)
 | .cell b t=>do loadVar t (<-asAddr (tmps.getD b undef))
theorem run_mapM{tmps:Array Value}:∀ {xs:List ResultVar} {us:List Value},ValsR P tmps w xs us->(xs.mapM (resM tmps)).run P w= .ok us w∧us.length=xs.length
 | [],us,h=>by cases h;exact⟨rfl,rfl⟩
 |x::xs,us,⟨u,us',e,h1,h2⟩=>by
  subst e
  obtain⟨k1,k2⟩:=run_mapM h2
  have h1':(resM tmps x).run P w= .ok u w:=by cases x<;>exact h1
  rw[List.mapM_cons]
  simp only[Sem.run_bind,h1',Result.andThen_ok,k1,Sem.run_pure]
  exact⟨trivial,by simp[k2]⟩
theorem run_results{fn:Func}{tmps:Array Value}{us:List Value}(h:ValsR P tmps w fn.results.toList us)(h1:fn.results.toList.length≠1):(results fn tmps).run P w= .ok (.tuple us.toArray) w:=by
 obtain⟨k1,k2⟩:=run_mapM h
 have e:fn.results.mapM (resM tmps)=List.toArray<$>fn.results.toList.mapM (resM tmps):=by
  have:=List.mapM_toArray (f:=resM tmps) (l:=fn.results.toList)
  simpa using this
 have e2:results fn tmps=(do
   let vs<-fn.results.mapM (resM tmps)
   pure (if h:vs.size=1 then vs[0]else .tuple vs)):=by
  unfold results
  congr 1
 rw[e2,e]
 simp only[map_eq_pure_bind,Sem.run_bind,k1,Result.andThen_ok,Sem.run_pure]
 rw[dif_neg]
 simp only[List.size_toArray,k2]
 exact h1
theorem res_rep(hr:Rep N G σ ow w a Γ)(he:Ext (fun _=>none) w0 ow w){fn:Func}{vs:List RV}{r:RA}(hm:rvsM P N vs fn.results.toList=true)(h:rx Γ vs=some r):
  ∃u,(results fn a.tmps).run P w= .ok u w∧∃ow',ResR G ow' w r u∧Ext (fun _=>none) w0 ow' w:=by
 unfold rx at h
 split at h
 ·cases h
  have h0:fn.results= #[]:=by
   cases hq:fn.results.toList with
   |nil=>simpa using hq
   |cons x xs=>rw[hq]at hm;simp[rvsM]at hm
  refine⟨_,results_none h0 _ _ _,fun _=>none,⟨fun _=>undef,?_,fun l q h=>by simp[RA.intro,introL,lo]at h⟩,ext_own he fun _ _=>rfl⟩
  simp[RA.intro,introL,RepV,RepUs]
 ·rename_i v
  simp only[Option.bind_eq_some_iff]at h
  obtain⟨y,hv,hx⟩:=h
  obtain⟨x,h0⟩:∃x,fn.results.toList=[x]:=by
   cases hq:fn.results.toList with
   |nil=>rw[hq]at hm;simp[rvsM]at hm
   |cons x xs=>cases xs with
    |nil=>exact⟨x,rfl⟩
    |cons x' xs=>rw[hq]at hm;simp[rvsM]at hm
  rw[h0]at hm
  simp only[rvsM,Bool.and_true]at hm
  obtain⟨u,hu,hrep⟩:=res_val (w:=w) hr hm hv
  refine⟨u,?_,rx1_rep hr he hx hrep⟩
  have h1:fn.results= #[x]:=by
   apply Array.toList_inj.1
   simpa using h0
  cases x with
  |tmp t=>
   have:u=a.tmps.getD t undef:=by simpa using hu.symm
   subst this
   exact results_tmp h1 _ _ _
  |cell b t=>
   dsimp only at hu
   simp[results,h1]
   simp at hu
   rw[hu]
 ·rename_i h1 h2
  simp only[Option.bind_eq_some_iff]at h
  obtain⟨⟨rs,L⟩,hl,h⟩:=h
  simp only at h
  split at h
  rotate_left
  ·cases h
  rename_i hn
  cases h
  obtain⟨us,p,k1,k2,k3,k4⟩:=rxl_rep hr hm hl (nodL_nodup hn)
  have hlen:fn.results.toList.length≠1:=by
   intro h0
   have:vs.length=1:=by
    have:∀ {vs:List RV} {xs:List ResultVar},rvsM P N vs xs=true->vs.length=xs.length:=by
     intro vs
     induction vs with
     |nil=>intro xs h;cases xs with|nil=>rfl|cons x xs=>simp[rvsM]at h
     |cons v vs ih=>intro xs h;cases xs with
      |nil=>simp[rvsM]at h
      |cons x xs=>simp only[rvsM,Bool.and_eq_true]at h;simp[ih h.2]
    rw[this hm,h0]
   obtain⟨v,hv⟩:=List.length_eq_one_iff.1 this
   exact h2 v hv
  obtain⟨ow',g1,g2⟩:=ResR_of hr (r:=.t rs) (u:=.tuple us.toArray) (by simp only[PcR];exact⟨us,rfl,k2⟩) k3 k4
  refine⟨_,run_results k1 hlen,ow',g2,ext_own he fun b hb=>g1 b fun hb'=> ?_⟩
  obtain⟨l,_,hl⟩:=k4 b hb'
  have:=own_new he hl
  omega
end
end Go.Q
namespace Go.Q
section
variable {P:Program} {N:Nat} {F:Nat->Prop} {w:World}
theorem entry_rep{σ:Lab->Value}{F':Nat->Prop}(hF:∀b,F b->F' b):∀ {as:List SA} {us:List Value} {i t:Nat} {x:AV},ArgsR F w as us->lk (entry i as) t=some x->∃j,t=i+j∧∃u,us[j]? =some u∧RepV σ F' w x u
 | [],us,i,t,x,_,h=>by simp[entry,lk]at h
 |s::ss,us,i,t,x,⟨u,r,e,hs,hr⟩,h=>by
  subst e
  have tail:lk (entry (i+1) ss) t=some x->∃j,t=i+j∧∃v,(u::r)[j]? =some v∧RepV σ F' w x v:=fun h=>by
   obtain⟨j,e,v,hv,hx⟩:=entry_rep hF hr h
   exact⟨j+1,by omega,v,by simpa using hv,hx⟩
  cases s with
  |v c y=>
   simp only[entry,lk]at h
   split at h
   ·rename_i e
    cases h
    refine⟨0,e.symm,u,rfl,?_⟩
    exact RepV.keep (σ:=fun _=>undef) (p:=fun _=>true) (fun _ h=>by cases h) (fun b hb=>⟨hF b hb,rfl⟩) rfl hs
   ·exact tail h
  |fn f=>
   simp only[entry,lk]at h
   split at h
   ·rename_i e
    cases h
    exact⟨0,e.symm,u,rfl,RepV.keep (σ:=fun _=>undef) (p:=fun _=>true) (fun _ h=>by cases h) (fun b hb=>⟨hF b hb,rfl⟩) (capV_refs _) hs⟩
   ·exact tail h
  |_=>exact hs.elim
theorem ArgsR.length:∀ {as:List SA} {us:List Value},ArgsR F w as us->us.length=as.length
 | [],_,h=>by cases h;rfl
 |s::ss,us,⟨u,r,e,_,hr⟩=>by subst e;simp[hr.length]
theorem Sp.intro{S:FuncId->List SA->RA->Prop}(hS:∀f as r,S f as r->Sp P f as r){f:FuncId}{fn:Func}{c:C}{vs:List RV}{as:List SA}{r:RA}(hfn:P.funcs[f]? =some fn)(hm:fnM P fn N c vs=true)(hn:Nat.ble as.length N=true)
  (h:vc S (Lq P N) c ⟨entry 0 as,[]⟩ (Fin vs r)) (hw:r.isX=false):Sp P f as r:=by
 simp only[fnM,Bool.and_eq_true,beq_iff_eq]at hm
 obtain⟨⟨⟨hname,hN⟩,hb⟩,hv⟩:=hm
 refine⟨?_,fun F w us hF hL hA=> ?_,(fun _ _ _ _ h=>by rw[isW_of hw]at h;cases h),fun _ _ r0 os' _ _ h=>by subst h;cases hw⟩
 ·unfold callOk
  rw[hfn]
  simp only[hname,Bool.true_and]
  cases hbody:fn.body with
  |none=>rw[hbody]at hb;cases hb
  |some x=>rfl
 cases hbody:fn.body with
 |none=>rw[hbody]at hb;cases hb
 |some x=>
  rw[hbody]at hb
  have hlen:=hA.length
  have hn':as.length<=N:=Nat.le_of_ble_eq_true hn
  refine calls_of_wp hfn hbody (wp_mono (snd_c ⟨hS,rfl⟩ (σ:=fun _=>undef) (ow:=fun _=>none) (G:=gdT (tabs P) fun b=>F b∨w.heap.size<=b) hb ?_ h) fun e a' w' hq=> ?_)
  ·refine⟨?_,rfl,fun t y hy=> ?_,fun l q hq=>(by simp[lo]at hq),fun b l hb=>(by cases hb),⟨fun b hb=>.inr hb,hL.keep fun b hb=>⟨⟨rfl,hF b hb,.inl hb⟩,rfl⟩⟩,fun l q hq=>(by simp[lo]at hq),fun _ _ _=>rfl⟩
   ·simp only[Array.size_append,List.size_toArray,Array.size_replicate,hN]
    omega
   ·obtain⟨j,e,u,hu,hx⟩:=entry_rep (F':=fz (gd fun b=>F b∨w.heap.size<=b) (fun _=>none) w) (σ:=fun _=>undef) (fun b hb=>⟨rfl,hF b hb,.inl hb⟩) hA hy
    have:t=j:=by omega
    subst this
    have hlt:t<us.length:=(List.getElem?_eq_some_iff.1 hu).1
    have e1:(us.toArray++Array.replicate (fn.ntmps-us.toArray.size) undef).getD t undef=u:=by
     rw[Array.getD_eq_getD_getElem?,Array.getElem?_append_left (by simpa using hlt)]
     simp[hu]
    rw[e1]
    exact hx
  ·cases e with
   |normal=>
    obtain⟨Γ',σ',ow',hk,hr,he⟩:=hq
    obtain⟨u,hu,o2,h1,h2⟩:=res_rep hr he hv hk
    exact⟨hr.defers,u,hu,u,o2,rfl,h1,h2⟩
   |ret=>
    obtain⟨Γ',σ',ow',hk,hr,he⟩:=hq
    obtain⟨u,hu,o2,h1,h2⟩:=res_rep hr he hv hk
    exact⟨hr.defers,u,hu,u,o2,rfl,h1,h2⟩
   |exit id=>obtain⟨Γ',σ',ow',hk,_⟩:=hq;exact hk.elim
   |_=>exact hq.elim
end
end Go.Q
namespace Go.Q
section
variable {P:Program} {N:Nat} {w:World}
theorem callOk_of{f:FuncId}{fn:Func}{c:C}{vs:List RV}(hfn:P.funcs[f]? =some fn)(hm:fnM P fn N c vs=true):callOk P f=true:=by
 simp only[fnM,Bool.and_eq_true,beq_iff_eq]at hm
 obtain⟨⟨⟨hname,hN⟩,hb⟩,hv⟩:=hm
 unfold callOk
 rw[hfn]
 simp only[hname,Bool.true_and]
 cases hbody:fn.body with
 |none=>rw[hbody]at hb;cases hb
 |some x=>rfl
end
end Go.Q
namespace Go.Q
def isB:Lab->Bool
 | [n]=>Nat.ble 1000 n
 |_=>false
mutual
def SA.av:SA->AV
 | .v c x=>.v c x
 | .fn f cs=>.fn f (capV cs)
 | .pt i off=>.pt [1000+i] off
 | .sl i=>.sl [1000+i]
 | .mp i=>.mp [1000+i]
 | .ag n ls=>.ag n (avL ls)
 | .fb f cs=>.fn f (avL cs)
 | .io _ _=>.no
 | .lo _=>.no
def avL:List SA->List AV
 | []=>[]
 |s::ss=>s.av::avL ss
end
def entryQ:Nat->List SA->List (Nat×AV)
 |_,[]=>[]
 |i,s::r=>(i,s.av)::entryQ (i+1) r
def obsE:Nat->List LO->List LO->List (Lab×Ob)
 |i,o::os,o'::os'=>o.obs [1000+i] (!o'.isGone)++obsE (i+1) os os'
 |_,_,_=>[]
def lvx(ob:List (Lab×Ob)):LV->AV->Option (LV×List Lab)
 | .v c _,a=>if a.refs (fun _=>true)||c.isSt then none else(pkL ob c a).map fun x=>(.v c x,[])
 | .o c _,.sl l=>(match lo ob l with
  |some (.row true false c' xs)=>(Ob.as c (.row true false c' xs)).map fun xs=>(.o c xs,[l])
  |_=>none)
 | .o c _,.nl _=>some (.o c [],[])
 | .s c _,.sl l=>(match lo ob l with
  |some (.row false false c' xs)=>(Ob.as c (.row false false c' xs)).map fun xs=>(.s c xs,[l])
  |_=>none)
 | .s c _,.nl _=>some (.s c [],[])
 |_,_=>none
def lvxs(ob:List (Lab×Ob)):List LV->List AV->Option (List LV×List Lab)
 | [],[]=>some ([],[])
 |v::vs,a::as=>(lvx ob v a).bind fun q=>(lvxs ob vs as).map fun p=>(q.1::p.1,q.2++p.2)
 |_,_=>none
def lox1(ob:List (Lab×Ob))(l:Lab):LO->Option (LO×List Lab)
 | .gone=>some (.gone,[])
 | .box ls=>(match lo ob l with
  |some (.box as)=>(lvxs ob ls as).map fun q=>(.box q.1,l::q.2)
  |_=>none)
 | .row dp c _=>(match lo ob l with
  |some (.row dp' true c' xs)=>if dp'=dp then(Ob.as c (.row dp' true c' xs)).map fun xs=>(.row dp c xs,[l])else none
  |_=>none)
 | .mp kk vk _=>(match lo ob l with
  |some (.mp kk' vk' es)=>(mpAs kk vk (.mp kk' vk' es)).map fun es=>(.mp kk vk es,[l])
  |_=>none)
def loxs(ob:List (Lab×Ob)):Nat->List LO->Option (List LO×List Lab)
 |_,[]=>some ([],[])
 |i,o::os=>(lox1 ob [1000+i] o).bind fun q=>(loxs ob (i+1) os).map fun p=>(q.1::p.1,q.2++p.2)
def FinQ(vs:List RV)(r:RA)(os':List LO):Xt->Env->Prop
 | .ex _,_=>False
 |_,Γ=>need (rxQ Γ vs) fun q=>q.1=r∧need (loxs Γ.ob 0 os') fun p=>p.1=os'∧nodB (q.2++p.2)=true
def SA.noLo:SA->Bool
 | .lo _=>false
 |_=>true
section
variable {P:Program} {N:Nat} {G:Gd} {σ:Lab->Value} {ow:Own} {w:World} {a:Act} {Γ:Env} {F:Nat->Prop}
mutual
theorem av_rep{vs:List Value}(hσ:∀i v,vs[i]? =some v->σ [1000+i]=v):∀ {s:SA} {u:Value},ArgQ F w vs s u->RepV σ F w s.av u
 | .v c x,u,h=>by
  simp only[ArgQ]at h
  simp only[SA.av]
  exact RepV.keep (σ:=fun _=>undef) (p:=fun _=>true) (fun _ h=>by cases h) (fun b hb=>⟨hb,rfl⟩) rfl h
 | .fn f cs,u,h=>by
  simp only[ArgQ]at h
  simp only[SA.av]
  exact RepV.keep (σ:=fun _=>undef) (p:=fun _=>true) (fun _ h=>by cases h) (fun b hb=>⟨hb,rfl⟩) (capV_refs _) h
 | .pt i off,u,h=>by
  simp only[ArgQ]at h
  simp only[SA.av]
  obtain⟨b,h1,h2⟩:=h
  exact RepV_pt.2 ⟨b,hσ i _ h1,h2⟩
 | .sl i,u,h=>by
  simp only[ArgQ]at h
  simp only[SA.av]
  obtain⟨h1,A,n,c,h2⟩:=h
  exact RepV_sl.2 ⟨A,n,c,(hσ i _ h1).trans h2,h2⟩
 | .mp i,u,h=>by
  simp only[ArgQ]at h
  simp only[SA.av]
  obtain⟨h1,g,h2⟩:=h
  exact RepV_mp.2 ⟨g,(hσ i _ h1).trans h2,h2⟩
 | .ag n ls,u,h=>by
  simp only[ArgQ]at h
  obtain⟨h0,hn,cs,rfl,h2⟩:=h
  obtain⟨k1,k2⟩:=avL_rep hσ hn h2
  simp only[SA.av,RepV,RepU,AV.isS,if_true,RepC]
  exact⟨cs,rfl,by rw[k2];exact h0,k1⟩
 | .fb f cs,u,h=>by
  simp only[ArgQ]at h
  obtain⟨hn,us,rfl,h2⟩:=h
  obtain⟨k1,_⟩:=avL_rep hσ hn h2
  simp only[SA.av,RepV,RepU,AV.isS,Bool.false_eq_true,if_false,RepC]
  exact⟨us,rfl,k1⟩
 | .io _ _,_,h=>by simp[ArgQ]at h
 | .lo _,_,h=>by simp[ArgQ]at h
theorem avL_rep{vs:List Value}(hσ:∀i v,vs[i]? =some v->σ [1000+i]=v):∀ {ss:List SA} {us:List Value},nsL ss=true->ArgQs F w vs ss us->RepCs σ F w (avL ss) us∧(avL ss).length=ss.length
 | [],us,_,h=>by
  simp only[ArgQs]at h
  subst h
  exact⟨by simp[avL,RepCs],rfl⟩
 |s::ss,us,hn,h=>by
  simp only[ArgQs]at h
  obtain⟨u,r,rfl,h1,h2⟩:=h
  simp only[nsL,Bool.and_eq_true,Bool.not_eq_true']at hn
  obtain⟨k1,k2⟩:=avL_rep hσ hn.2 h2
  have hv:=av_rep hσ h1
  refine⟨?_,by simp[avL,k2]⟩
  simp only[avL,RepCs]
  refine⟨u,r,rfl,?_,k1⟩
  have h3:s.av.isS=false:=by
   cases s<;>simp only[SA.av]<;>first|rfl|skip
   ·rename_i c x;have:=hn.1;cases c<;>simp_all[SA.isS,AV.isS]
   ·have:=hn.1;simp[SA.isS]at this
  have h4:∀vs,s.av≠ .tu vs:=by
   intro vs e
   cases s<;>simp[SA.av]at e
  cases hq:s.av with
  |tu vs=>exact absurd hq (h4 vs)
  |_=>
   rw[hq]at hv h3
   simpa only[RepV,RepU,h3,Bool.false_eq_true,if_false]using hv
end
theorem lvx_spec(hob:∀l q,lo Γ.ob l=some q->ObR G σ ow w l q){v v':LV}{x:AV}{L:List Lab}{u:Value}(h:lvx Γ.ob v x=some (v',L))(hx:RepC σ (fz G ow w) w x [u]):∃p,LvR (fz G ow w) w v' u p∧p.Nodup∧OB ow L p:=by
 have nil:∀ {dp:Bool} {c:Ki} {c':Ki},x= .nl c'->RowO w (fz G ow w) dp c [] u []:=by
  intro dp c c' e
  subst e
  simp only[RepC,List.cons.injEq,and_true]at hx
  obtain⟨A,rfl⟩:=hx
  unfold RowO
  split<;>exact .inl ⟨⟨A,rfl⟩,rfl,rfl⟩
 have row:∀ {l:Lab} {dp:Bool} {c:Ki} {xs:List c.T},x= .sl l->lo Γ.ob l=some (.row dp false c xs)->∃p,RowO w (fz G ow w) dp c xs u p∧p.Nodup∧OB ow [l] p:=by
  intro l dp c xs e hl
  subst e
  obtain⟨bs,r1,r2,r3⟩:=hob _ _ hl
  simp only[RepC]at hx
  obtain⟨A,n,cp,e1,e2⟩:=hx
  simp only[List.cons.injEq,and_true]at e2
  rw[e1,<-e2]at r1
  exact⟨bs,r1,r2,fun b hb=>⟨l,by simp,r3 b hb⟩⟩
 cases v with
 |v c y=>
  simp only[lvx]at h
  split at h
  ·cases h
  rename_i hc
  simp only[Option.map_eq_some_iff,Prod.mk.injEq]at h
  obtain⟨z,hz,rfl,rfl⟩:=h
  simp only[Bool.or_eq_true,not_or,Bool.not_eq_true]at hc
  have hk:=pkL_rep (F':=fz G ow w) hob (fun _ h=>h) hz hx (fun h=>by rw[hc.1]at h;cases h)
  refine⟨[],⟨?_,hk,rfl⟩,List.nodup_nil,fun b hb=>by cases hb⟩
  have:=hc.2
  cases c<;>simp_all[Ki.isSt,Ki.isS]
 |o c y=>
  cases x<;>simp only[lvx,reduceCtorEq]at h
  ·rename_i l
   split at h
   ·rename_i c' xs hl
    simp only[Option.map_eq_some_iff,Prod.mk.injEq]at h
    obtain⟨z,hz,rfl,rfl⟩:=h
    have e:=oas_eq hz
    cases e
    obtain⟨p,k1,k2,k3⟩:=row rfl hl
    exact⟨p,k1,k2,k3⟩
   ·cases h
  ·simp only[Option.some.injEq,Prod.mk.injEq]at h
   obtain⟨rfl,rfl⟩:=h
   exact⟨[],nil rfl,List.nodup_nil,fun b hb=>by cases hb⟩
 |s c y=>
  cases x<;>simp only[lvx,reduceCtorEq]at h
  ·rename_i l
   split at h
   ·rename_i c' xs hl
    simp only[Option.map_eq_some_iff,Prod.mk.injEq]at h
    obtain⟨z,hz,rfl,rfl⟩:=h
    have e:=oas_eq hz
    cases e
    obtain⟨p,k1,k2,k3⟩:=row rfl hl
    exact⟨p,k1,k2,k3⟩
   ·cases h
  ·simp only[Option.some.injEq,Prod.mk.injEq]at h
   obtain⟨rfl,rfl⟩:=h
   exact⟨[],nil rfl,List.nodup_nil,fun b hb=>by cases hb⟩
theorem lvxs_spec(hob:∀l q,lo Γ.ob l=some q->ObR G σ ow w l q):∀ {vs vs':List LV} {xs:List AV} {L:List Lab} {us:List Value},lvxs Γ.ob vs xs=some (vs',L)->RepCs σ (fz G ow w) w xs us->L.Nodup->∃p,LvsR (fz G ow w) w vs' us p∧p.Nodup∧OB ow L p
 | [],vs',[],L,us,h,hx,hn=>by
  simp only[lvxs,Option.some.injEq,Prod.mk.injEq]at h
  obtain⟨rfl,rfl⟩:=h
  simp only[RepCs]at hx
  exact⟨[],⟨hx,rfl⟩,List.nodup_nil,fun b hb=>by cases hb⟩
 | [],_,_::_,_,_,h,_,_=>by simp[lvxs]at h
 |_::_,_,[],_,_,h,_,_=>by simp[lvxs]at h
 |v::vs,vs',x::xs,L,us,h,hx,hn=>by
  simp only[lvxs,Option.bind_eq_some_iff,Option.map_eq_some_iff,Prod.mk.injEq]at h
  obtain⟨⟨v1,L1⟩,h1,⟨vs1,L2⟩,h2,rfl,rfl⟩:=h
  simp only[RepCs]at hx
  obtain⟨u,us',rfl,k1,k2⟩:=hx
  obtain⟨p1,a1,a2,a3⟩:=lvx_spec hob h1 k1
  obtain⟨p2,b1,b2,b3⟩:=lvxs_spec hob h2 k2 (List.nodup_append.1 hn).2.1
  exact⟨p1++p2,⟨u,us',p1,p2,rfl,rfl,a1,b1⟩,a3.nodup b3 hn a2 b2,a3.append b3⟩
theorem lox1_spec(hob:∀l q,lo Γ.ob l=some q->ObR G σ ow w l q){l:Lab}{o o':LO}{L:List Lab}(h:lox1 Γ.ob l o=some (o',L))(hn:L.Nodup)(v:Value):∃p,p.Nodup∧OB ow L p∧((o'= .gone∧LoR (fz G ow w) w o' v p)∨(∃q,lo Γ.ob l=some q∧((∃ls,q= .box ls)∨(∃d c xs,q= .row d true c xs)∨∃kk vk es,q= .mp kk vk es))∧LoR (fz G ow w) w o' (σ l) p):=by
 cases o with
 |gone=>
  simp only[lox1,Option.some.injEq,Prod.mk.injEq]at h
  obtain⟨rfl,rfl⟩:=h
  exact⟨[],List.nodup_nil,fun b hb=>(by cases hb),.inl ⟨rfl,rfl⟩⟩
 |box ls=>
  simp only[lox1]at h
  split at h
  ·rename_i as hl
   simp only[Option.map_eq_some_iff,Prod.mk.injEq]at h
   obtain⟨⟨ls',L'⟩,hq,rfl,rfl⟩:=h
   obtain⟨b,e,cs,e1,e2,e3,e4⟩:=hob _ _ hl
   have hnc:=List.nodup_cons.1 hn
   obtain⟨p,k1,k2,k3⟩:=lvxs_spec hob hq e4 hnc.2
   refine⟨b::p,List.nodup_cons.2 ⟨fun hb=> ?_,k2⟩,fun b' hb'=> ?_,.inr ⟨⟨_,hl,.inl ⟨_,rfl⟩⟩,b,e,cs,p,e1,e2,rfl,k1⟩⟩
   ·obtain⟨m,hm,ho⟩:=k3 b hb
    rw[e3]at ho;cases ho
    exact hnc.1 hm
   ·rcases List.mem_cons.1 hb' with rfl|hb'
    ·exact⟨l,by simp,e3⟩
    ·obtain⟨m,hm,ho⟩:=k3 b' hb'
     exact⟨m,List.mem_cons_of_mem _ hm,ho⟩
  ·cases h
 |row dp c xs=>
  simp only[lox1]at h
  split at h
  ·rename_i dp' c' xs' hl
   split at h
   rotate_left
   ·cases h
   rename_i hd
   subst hd
   simp only[Option.map_eq_some_iff,Prod.mk.injEq]at h
   obtain⟨z,hz,rfl,rfl⟩:=h
   have e:=oas_eq hz
   cases e
   obtain⟨bs,r1,r2,r3⟩:=hob _ _ hl
   exact⟨bs,r2,fun b hb=>⟨l,by simp,r3 b hb⟩,.inr ⟨⟨_,hl,.inr (.inl ⟨_,_,_,rfl⟩)⟩,r1⟩⟩
  ·cases h
 |mp kk vk es=>
  simp only[lox1]at h
  split at h
  ·rename_i kk' vk' es' hl
   simp only[Option.map_eq_some_iff,Prod.mk.injEq]at h
   obtain⟨z,hz,rfl,rfl⟩:=h
   have e:=mpAs_eq hz
   cases e
   obtain⟨g,ms,clk,r1,r2,r3,r4⟩:=hob _ _ hl
   exact⟨[g],by simp,fun b hb=>(by rw[List.mem_singleton]at hb;subst hb;exact⟨l,by simp,r3⟩),.inr ⟨⟨_,hl,.inr (.inr ⟨_,_,_,rfl⟩)⟩,g,ms,clk,r1,r2,rfl,r4⟩⟩
  ·cases h
theorem loxs_spec(hr:Rep N G σ ow w a Γ)(hpb:G.pb=isB):∀ {os os':List LO} {i:Nat} {L:List Lab} {vs:List Value},loxs Γ.ob i os=some (os',L)->L.Nodup->vs.length=os.length->(∀j v,vs[j]? =some v->G.pin [1000+(i+j)]=v)->
  ∃q,LosR (fz G ow w) w os' vs q∧q.Nodup∧OB ow L q
 | [],os',i,L,vs,h,hn,hl,hv=>by
  simp only[loxs,Option.some.injEq,Prod.mk.injEq]at h
  obtain⟨rfl,rfl⟩:=h
  have:vs=[]:=List.eq_nil_of_length_eq_zero hl
  subst this
  exact⟨[],⟨rfl,rfl⟩,List.nodup_nil,fun b hb=>by cases hb⟩
 |o::os,os',i,L,vs,h,hn,hl,hv=>by
  simp only[loxs,Option.bind_eq_some_iff,Option.map_eq_some_iff,Prod.mk.injEq]at h
  obtain⟨⟨o1,L1⟩,h1,⟨os1,L2⟩,h2,rfl,rfl⟩:=h
  cases vs with
  |nil=>simp at hl
  |cons v vs=>
   obtain⟨p1,a1,a2,a3⟩:=lox1_spec hr.ob h1 (List.nodup_append.1 hn).1 v
   obtain⟨p2,b1,b2,b3⟩:=loxs_spec hr hpb h2 (List.nodup_append.1 hn).2.1 (by simpa using hl) (fun j u hu=>by
    have:=hv (j+1) u (by simpa using hu)
    rwa[show i+(j+1)=i+1+j by omega]at this)
   have hv0:G.pin [1000+i]=v:=hv 0 v rfl
   refine⟨p1++p2,⟨v,vs,p1,p2,rfl,rfl,?_,b1⟩,a2.nodup b3 hn a1 b2,a2.append b3⟩
   rcases a3 with⟨rfl,h⟩|⟨⟨q,hq,hk⟩,h⟩
   ·exact h
   ·have hB:isB [1000+i]=true:=by simp only[isB];exact Nat.ble_eq_true_of_le (by omega)
    have hpin:σ [1000+i]=v:=by
     rw[hr.pin _ q hq ?_,hv0]
     rcases hk with⟨ls,rfl⟩|⟨d,c,xs,rfl⟩|⟨kk,vk,es,rfl⟩
     ·simp only[Ob.pnd,hpb,hB]
     ·rfl
     ·simp only[Ob.pnd,hpb,hB]
    rw[hpin]at h
    exact h
def kE:Nat->List LO->List (Option (Lab×Bool))
 |_,[]=>[]
 |i,o'::os'=>some ([1000+i],!o'.isGone)::kE (i+1) os'
theorem obsG_kE:∀(i:Nat) (os os':List LO),os.length=os'.length->obsG (kE i os') os=obsE i os os'
 |i,[],[],_=>by simp[kE,obsG,obsE]
 |i,[],_::_,h=>by simp at h
 |i,_::_,[],h=>by simp at h
 |i,o::os,o'::os',h=>by
  simp only[kE,obsG,obsE]
  rw[obsG_kE (i+1) os os' (by simpa using h)]
theorem lkG_kE:∀(i:Nat) (os':List LO),(∀l∈lkG (kE i os'),∃j,l=[1000+(i+j)])∧(lkG (kE i os')).Nodup
 |i,[]=>⟨fun l hl=>by simp[kE,lkG]at hl,by simp[kE,lkG]⟩
 |i,o::os=>by
  obtain⟨h1,h2⟩:=lkG_kE (i+1) os
  simp only[kE,lkG]
  refine⟨fun l hl=> ?_,List.nodup_cons.2 ⟨fun hl=> ?_,h2⟩⟩
  ·rcases List.mem_cons.1 hl with rfl|hl
   ·exact⟨0,rfl⟩
   ·obtain⟨j,rfl⟩:=h1 l hl
    exact⟨j+1,by rw[show i+(j+1)=i+1+j by omega]⟩
  ·obtain⟨j,hj⟩:=h1 _ hl
   simp at hj
   omega
theorem KsB_kE:∀(i:Nat) (os os':List LO),os.length=os'.length->KsB (kE i os') os
 |i,[],[],_=>trivial
 |i,[],_::_,h=>by simp at h
 |i,_::_,[],h=>by simp at h
 |i,o::os,o'::os',h=>⟨fun _=>⟨_,rfl⟩,KsB_kE (i+1) os os' (by simpa using h)⟩
theorem KsV_kE{σ:Lab->Value}:∀(i:Nat) (os':List LO) (vs:List Value),vs.length=os'.length->(∀j v,vs[j]? =some v->σ [1000+(i+j)]=v)->KsV σ (kE i os') vs
 |i,[],[],_,_=>trivial
 |i,[],_::_,h,_=>by simp at h
 |i,_::_,[],h,_=>by simp at h
 |i,o'::os',v::vs,h,hv=>⟨hv 0 v rfl,KsV_kE (i+1) os' vs (by simpa using h) fun j u hu=>by
   have:=hv (j+1) u (by simpa using hu)
   rwa[show i+(j+1)=i+1+j by omega]at this⟩
theorem LosR.length:∀ {os:List LO} {vs:List Value} {bs:List Nat},LosR F w os vs bs->vs.length=os.length
 | [],_,_,⟨h,_⟩=>by subst h;rfl
 |_::os,_,_,⟨u,us',p,q,rfl,_,_,h⟩=>by simp[h.length]
theorem likes_len:∀ {os os':List LO},likes os os'=true->os.length=os'.length
 | [],[],_=>rfl
 | [],_::_,h=>by simp[likes]at h
 |_::_,[],h=>by simp[likes]at h
 |_::_,_::_,h=>by
  simp only[likes,Bool.and_eq_true]at h
  simp[likes_len h.2]
theorem ArgQs_noLo{vs:List Value}:∀ {ss:List SA} {us:List Value},ArgQs F w vs ss us->∀s∈ss,∀o,s≠ .lo o
 | [],_,_,s,hs,_=>by cases hs
 |s::ss,us,h,s',hs,o=>by
  simp only[ArgQs]at h
  obtain⟨u,r,rfl,h1,h2⟩:=h
  rcases List.mem_cons.1 hs with rfl|hs
  ·intro e;subst e;simp[ArgQ]at h1
  ·exact ArgQs_noLo h2 s' hs o
theorem ArgQs.length{vs:List Value}:∀ {ss:List SA} {us:List Value},ArgQs F w vs ss us->us.length=ss.length
 | [],us,h=>by simp only[ArgQs]at h;subst h;rfl
 |s::ss,us,h=>by
  simp only[ArgQs]at h
  obtain⟨u,r,rfl,h1,h2⟩:=h
  simp[h2.length]
theorem ArgQs.get{vs:List Value}:∀ {ss:List SA} {us:List Value} {i t:Nat} {x:AV},ArgQs F w vs ss us->lk (entryQ i ss) t=some x->∃j s u,t=i+j∧us[j]? =some u∧ArgQ F w vs s u∧x=s.av
 | [],us,i,t,x,h,hx=>by simp[entryQ,lk]at hx
 |s::ss,us,i,t,x,h,hx=>by
  simp only[ArgQs]at h
  obtain⟨u,r,rfl,h1,h2⟩:=h
  simp only[entryQ,lk]at hx
  split at hx
  ·rename_i e
   cases hx
   exact⟨0,s,u,e.symm,rfl,h1,rfl⟩
  ·obtain⟨j,s',u',e,k1,k2,k3⟩:=h2.get hx
   exact⟨j+1,s',u',by omega,by simpa using k1,k2,k3⟩
theorem ArgsR_lo:∀ {as:List SA} {os:List LO} {us:List Value},os≠ []->¬ArgsR F w (as++os.map SA.lo) us
 | [],o::os,us,_,⟨u,r,_,h,_⟩=>h
 | [],[],_,h,_=>h rfl
 |s::as,os,us,h,⟨u,r,_,_,k⟩=>ArgsR_lo h k
theorem rxQ_rep(hr:Rep N G σ ow w a Γ){fn:Func}{vs:List RV}{r:RA}{L:List Lab}(hm:rvsM P N vs fn.results.toList=true)(h:rxQ Γ vs=some (r,L))(hn:L.Nodup):
  ∃u p,(results fn a.tmps).run P w= .ok u w∧PcR (fz G ow w) w r u p∧p.Nodup∧OB ow L p:=by
 have hlen:vs.length=fn.results.toList.length:=by
  have:∀ {vs:List RV} {xs:List ResultVar},rvsM P N vs xs=true->vs.length=xs.length:=by
   intro vs
   induction vs with
   |nil=>intro xs h;cases xs with|nil=>rfl|cons x xs=>simp[rvsM]at h
   |cons v vs ih=>intro xs h;cases xs with
    |nil=>simp[rvsM]at h
    |cons x xs=>simp only[rvsM,Bool.and_eq_true]at h;simp[ih h.2]
  exact this hm
 unfold rxQ at h
 split at h
 ·simp only[Option.some.injEq,Prod.mk.injEq]at h
  obtain⟨rfl,rfl⟩:=h
  have h0:fn.results= #[]:=by
   have:fn.results.toList=[]:=List.eq_nil_of_length_eq_zero (by simpa using hlen.symm)
   simpa using this
  exact⟨_,[],results_none h0 _ _ _,by simp only[PcR];exact⟨[],rfl,by simp[PcsR]⟩,List.nodup_nil,fun b hb=>by cases hb⟩
 ·rename_i v
  simp only[Option.bind_eq_some_iff]at h
  obtain⟨y,hv,hx⟩:=h
  obtain⟨x,h0⟩:=List.length_eq_one_iff.1 (hlen.symm.trans rfl)
  rw[h0]at hm
  simp only[rvsM,Bool.and_true]at hm
  obtain⟨u,hu,hrep⟩:=res_val (w:=w) hr hm hv
  obtain⟨p,k1,k2,k3,_⟩:=rxq_rep hr hx hrep hn
  refine⟨u,p,?_,k1,k2,k3⟩
  have h1:fn.results= #[x]:=by
   apply Array.toList_inj.1
   simpa using h0
  cases x with
  |tmp t=>
   have:u=a.tmps.getD t undef:=by simpa using hu.symm
   subst this
   exact results_tmp h1 _ _ _
  |cell b t=>
   dsimp only at hu
   simp[results,h1]
   simp at hu
   rw[hu]
 ·rename_i h1 h2
  simp only[Option.map_eq_some_iff,Prod.mk.injEq]at h
  obtain⟨⟨rs,L'⟩,hl,rfl,rfl⟩:=h
  obtain⟨us,p,k1,k2,k3,k4⟩:=rxl_rep hr hm hl hn
  refine⟨_,p,run_results k1 (fun h0=> ?_),by simp only[PcR];exact⟨us,rfl,k2⟩,k3,k4⟩
  obtain⟨v,hv⟩:=List.length_eq_one_iff.1 (hlen.trans h0)
  exact h2 v hv
theorem LvR.mono{F':Nat->Prop}(h:∀b,F b->F' b):∀ {v:LV} {u:Value} {p:List Nat},LvR F w v u p->LvR F' w v u p
 | .v c x,_,_,⟨h1,h2,h3⟩=>⟨h1,h2.keep fun b hb=>⟨h b hb,rfl⟩,h3⟩
 | .o c xs,_,_,hr=>RowO.mono hr h
 | .s c xs,_,_,hr=>RowO.mono hr h
theorem LvsR.mono{F':Nat->Prop}(h:∀b,F b->F' b):∀ {vs:List LV} {us:List Value} {p:List Nat},LvsR F w vs us p->LvsR F' w vs us p
 | [],_,_,hr=>hr
 |_::vs,_,_,⟨u,us',p,q,e1,e2,h1,h2⟩=>⟨u,us',p,q,e1,e2,h1.mono h,LvsR.mono h h2⟩
theorem LosR.mono{F':Nat->Prop}(h:∀b,F b->F' b):∀ {os:List LO} {vs:List Value} {p:List Nat},LosR F w os vs p->LosR F' w os vs p
 | [],_,_,hr=>hr
 |o::os,_,_,⟨u,us',p,q,e1,e2,h1,h2⟩=>by
  refine⟨u,us',p,q,e1,e2,?_,LosR.mono h h2⟩
  cases o with
  |gone=>exact h1
  |row dp c xs=>exact RowO.mono h1 h
  |box ls=>
   obtain⟨b,e,cs,rest,r1,r2,r3,r4⟩:=h1
   exact⟨b,e,cs,rest,r1,r2,r3,r4.mono h⟩
  |mp kk vk es=>
   obtain⟨g,ms,clk,r1,r2,r3,r4⟩:=h1
   exact⟨g,ms,clk,r1,r2,r3,r4.keep fun b hb=>⟨h b hb,rfl⟩⟩
theorem PcR1.mono{F':Nat->Prop}(h:∀b,F b->F' b){r:RA}{u:Value}{p:List Nat}(hT:r.isT=false)(hr:PcR F w r u p):PcR F' w r u p:=by
 cases r with
 |v c x=>exact⟨hr.1.keep fun b hb=>⟨h b hb,rfl⟩,hr.2⟩
 |o c x=>exact hr
 |s c xs=>exact RowO.mono hr h
 |cl c xs=>exact⟨hr.1.keep fun b hb=>⟨h b hb,rfl⟩,hr.2⟩
 |t rs=>simp[RA.isT]at hT
 |w c y n=>exact hr.elim
 |q r os=>exact hr.elim
 |m kk vk es=>
  obtain⟨g,ms,clk,r1,r2,r3,r4⟩:=hr
  exact⟨g,ms,clk,r1,r2,r3,r4.keep fun b hb=>⟨h b hb,rfl⟩⟩
 |b n x=>
  obtain⟨g,e,cs,r1,r2,r3,r4⟩:=hr
  exact⟨g,e,cs,r1,r2,r3,r4.keep fun b hb=>⟨h b hb,rfl⟩⟩
theorem PcsR.mono{F':Nat->Prop}(h:∀b,F b->F' b):∀ {rs:List RA} {us:List Value} {p:List Nat},PcsR F w rs us p->PcsR F' w rs us p
 | [],_,_,hr=>by simp only[PcsR]at hr⊢;exact hr
 |r::rs,_,_,hr=>by
  simp only[PcsR]at hr⊢
  obtain⟨u,us',p,q,e1,e2,h1,hT,h2⟩:=hr
  exact⟨u,us',p,q,e1,e2,PcR1.mono h hT h1,hT,PcsR.mono h h2⟩
theorem PcR.mono{F':Nat->Prop}(h:∀b,F b->F' b){r:RA}{u:Value}{p:List Nat}(hr:PcR F w r u p):PcR F' w r u p:=by
 cases r with
 |t rs=>
  simp only[PcR]at hr⊢
  obtain⟨us,e,hr⟩:=hr
  exact⟨us,e,hr.mono h⟩
 |_=>exact PcR1.mono h rfl hr
theorem LvR.lt:∀ {v:LV} {u:Value} {p:List Nat},LvR F w v u p->∀b∈p,b<w.heap.size
 | .v c x,_,_,⟨_,_,h3⟩,b,hb=>by subst h3;cases hb
 | .o c xs,_,_,hr,b,hb=>RowO.lt hr b hb
 | .s c xs,_,_,hr,b,hb=>RowO.lt hr b hb
theorem LvsR.lt:∀ {vs:List LV} {us:List Value} {p:List Nat},LvsR F w vs us p->∀b∈p,b<w.heap.size
 | [],_,_,⟨_,e⟩,b,hb=>by subst e;cases hb
 |_::vs,_,_,⟨u,us',p,q,e1,e2,h1,h2⟩,b,hb=>by
  subst e2
  rcases List.mem_append.1 hb with h|h
  ·exact h1.lt b h
  ·exact h2.lt b h
theorem LosR.lt:∀ {os:List LO} {vs:List Value} {p:List Nat},LosR F w os vs p->∀b∈p,b<w.heap.size
 | [],_,_,⟨_,e⟩,b,hb=>by subst e;cases hb
 |o::os,_,_,⟨u,us',p,q,e1,e2,h1,h2⟩,b,hb=>by
  subst e2
  rcases List.mem_append.1 hb with hb|hb
  ·cases o with
   |gone=>have e:p=[]:=h1;subst e;cases hb
   |row dp c xs=>exact RowO.lt h1 b hb
   |box ls=>
    obtain⟨b0,e,cs,rest,r1,r2,rfl,r4⟩:=h1
    rcases List.mem_cons.1 hb with rfl|hb
    ·exact(Array.getElem?_eq_some_iff.1 r2).1
    ·exact r4.lt b hb
   |mp kk vk es=>
    obtain⟨g,ms,clk,r1,r2,rfl,r4⟩:=h1
    rw[List.mem_singleton]at hb
    subst hb
    exact(Array.getElem?_eq_some_iff.1 r2).1
  ·exact h2.lt b hb
theorem PcR1.lt{r:RA}{u:Value}{p:List Nat}(hT:r.isT=false)(hr:PcR F w r u p):∀b∈p,b<w.heap.size:=by
 intro b hb
 cases r with
 |v c x=>obtain⟨_,_,e⟩:=hr;subst e;cases hb
 |o c x=>exact hr.1.lt b hb
 |s c xs=>exact RowO.lt hr b hb
 |cl c xs=>obtain⟨_,_,e⟩:=hr;subst e;cases hb
 |t rs=>simp[RA.isT]at hT
 |w c y n=>exact hr.elim
 |q r os=>exact hr.elim
 |m kk vk es=>
  obtain⟨g,ms,clk,r1,r2,rfl,r4⟩:=hr
  rw[List.mem_singleton]at hb
  subst hb
  exact(Array.getElem?_eq_some_iff.1 r2).1
 |b n x=>
  obtain⟨g,e,cs,r1,r2,rfl,r4⟩:=hr
  rw[List.mem_singleton]at hb
  subst hb
  exact(Array.getElem?_eq_some_iff.1 r2).1
theorem PcsR.lt:∀ {rs:List RA} {us:List Value} {p:List Nat},PcsR F w rs us p->∀b∈p,b<w.heap.size
 | [],_,_,hr,b,hb=>by simp only[PcsR]at hr;rw[hr.2]at hb;cases hb
 |r::rs,_,_,hr,b,hb=>by
  simp only[PcsR]at hr
  obtain⟨u,us',p,q,e1,rfl,h1,hT,h2⟩:=hr
  rcases List.mem_append.1 hb with h|h
  ·exact PcR1.lt hT h1 b h
  ·exact h2.lt b h
theorem PcR.lt{r:RA}{u:Value}{p:List Nat}(hr:PcR F w r u p):∀b∈p,b<w.heap.size:=by
 cases r with
 |t rs=>
  simp only[PcR]at hr
  obtain⟨us,e,hr⟩:=hr
  exact hr.lt
 |_=>exact PcR1.lt rfl hr
theorem Sp.introQ{S:FuncId->List SA->RA->Prop}(hS:∀f as r,S f as r->Sp P f as r){f:FuncId}{fn:Func}{c:C}{vs:List RV}{as:List SA}{os os':List LO}{r:RA}(hfn:P.funcs[f]? =some fn)(hm:fnM P fn N c vs=true)
  (hn:Nat.ble as.length N=true) (hN2:Nat.ble N 1000=true) (hlk:likes os os'=true) (hne:os.isEmpty=false) (hlo:as.all SA.noLo=true) (h:vc S (Lq P N) c ⟨entryQ 0 as,obsE 0 os os'⟩ (FinQ vs r os')):Sp P f (as++os.map SA.lo) (.q r os'):=by
 have hne':os≠ []:=by cases os<;>simp_all
 refine⟨callOk_of hfn hm,fun F w us _ _ hA=>absurd hA (ArgsR_lo hne'),fun _ _ _ _ h=>(by cases h),fun as0 os0 r0 os0' e he0 hr0=> ?_⟩
 cases hr0
 intro F w us ws bs hF hLd hA hL hbn
 have hsame:as0=as∧os0=os:=by
  have hno:=ArgQs_noLo hA
  have inj:∀ {a b:List LO},a.map SA.lo=b.map SA.lo->a=b:=by
   intro a
   induction a with
   |nil=>intro b h;cases b with|nil=>rfl|cons x b=>simp at h
   |cons x a ih=>intro b h;cases b with
    |nil=>simp at h
    |cons y b=>simp only[List.map_cons,List.cons.injEq,SA.lo.injEq]at h;rw[h.1,ih h.2]
  rcases List.append_eq_append_iff.1 e with⟨a',h1,h2⟩|⟨c',h1,h2⟩
  ·cases a' with
   |nil=>
    simp only[List.append_nil,List.nil_append]at h1 h2
    exact⟨h1,(inj h2).symm⟩
   |cons x a'=>
    exfalso
    have hx:x∈os.map SA.lo:=by rw[h2];simp
    obtain⟨o,_,rfl⟩:=List.mem_map.1 hx
    exact hno (.lo o) (by rw[h1];simp) o rfl
  ·cases c' with
   |nil=>
    simp only[List.append_nil,List.nil_append]at h1 h2
    exact⟨h1.symm,inj h2⟩
   |cons x c'=>
    exfalso
    have hx:x∈os0.map SA.lo:=by rw[h2];simp
    obtain⟨o,_,rfl⟩:=List.mem_map.1 hx
    have:=List.all_eq_true.1 hlo (.lo o) (by rw[h1];simp)
    simp[SA.noLo]at this
 obtain⟨rfl,rfl⟩:=hsame
 simp only[fnM,Bool.and_eq_true,beq_iff_eq]at hm
 obtain⟨⟨⟨hname,hN⟩,hb⟩,hv⟩:=hm
 have hlen:=likes_len hlk
 have hvl:=hL.length
 have hN':N<=1000:=Nat.le_of_ble_eq_true hN2
 obtain⟨hk1,hk2⟩:=lkG_kE 0 os'
 obtain⟨σ1,ow1,k1,k2,k3⟩:=obsG_root (ks:=kE 0 os') hL hbn (fun b hb=>⟨(hF b hb).2,(hF b hb).1⟩) hk2 (KsB_kE 0 os0 os' hlen)
 rw[obsG_kE 0 os0 os' hlen]at k3
 let σ:Lab->Value:=fun l=>match l with
  | [n]=>ws.getD (n-1000) undef
  |_=>σ1 l
 have hσ:∀j v,ws[j]? =some v->σ [1000+(0+j)]=v:=fun j v hv=>by
  simp only[σ,Nat.zero_add]
  rw[show 1000+j-1000=j by omega]
  simp[List.getD_eq_getElem?_getD,hv]
 let G:Gd:=⟨fun b=>F b∨b∈bs∨w.heap.size<=b,σ,isB,tabs P⟩
 have hfz:∀b,F b->fz G ow1 w b:=fun b hb=>⟨k1 b (hF b hb).2,(hF b hb).1,.inl hb⟩
 have hobs:∀l q,lo (obsE 0 os0 os') l=some q->ObR G σ ow1 w l q:=k3 G σ ow1 (KsV_kE 0 os' ws (hvl.trans hlen) hσ) (fun l hl=>by
  cases l with
  |nil=>simp[subL]at hl
  |cons n l=>cases l with
   |nil=>simp[subL]at hl
   |cons j l=>rfl) (fun _ _ h=>h) hfz
 cases hbody:fn.body with
 |none=>rw[hbody]at hb;cases hb
 |some x=>
  rw[hbody]at hb
  have hfin:∀(Γ':Env) (σ':Lab->Value) (ow':Own) (a':Act) (w':World),(need (rxQ Γ' vs) fun q=>q.1=r∧need (loxs Γ'.ob 0 os') fun p=>p.1=os'∧nodB (q.2++p.2)=true)->Rep N G σ' ow' w' a' Γ'->Ext ow1 w ow' w'->
    ∃u,(results fn a'.tmps).run P w'= .ok u w'∧∃p q,PcR (FQ F w w' bs (p++q)) w' r u p∧LosR (FQ F w w' bs (p++q)) w' os' ws q∧(p++q).Nodup∧(∀b∈p++q,(b∈bs∨w.heap.size<=b)∧b<w'.heap.size)∧
     w'.os=w.os∧w'.tape=w.tape∧w'.output=w.output∧w.heap.size<=w'.heap.size∧∀b,b<w.heap.size->b∉bs->w'.heap[b]? =w.heap[b]? :=by
   intro Γ' σ' ow' a' w' hk hr he
   obtain⟨⟨r1,L1⟩,h1,e1,hk⟩:=need_iff hk
   obtain⟨⟨o1,L2⟩,h2,e2,hnd⟩:=need_iff hk
   simp only at e1 e2 hnd
   subst e1 e2
   have hnd':=List.nodup_append.1 (nodB_nodup hnd)
   obtain⟨u,p,hu,a1,a2,a3⟩:=rxQ_rep hr hv h1 hnd'.1
   obtain⟨q,b1,b2,b3⟩:=loxs_spec (vs:=ws) hr rfl h2 hnd'.2.1 (hvl.trans hlen) hσ
   have hOB:=a3.append b3
   have hpq:(p++q).Nodup:=a3.nodup b3 (nodB_nodup hnd) a2 b2
   have hown:∀b∈p++q,∃l,ow' b=some l:=fun b hb=>by
    obtain⟨l,_,ho⟩:=hOB b hb
    exact⟨l,ho⟩
   have hmono:∀b,fz G ow' w' b->FQ F w w' bs (p++q) b:=fun b hb=>⟨fun hh=>(by
    obtain⟨l,ho⟩:=hown b hh
    rw[hb.1]at ho;cases ho),hb.2.1,(by
    rcases hb.2.2 with h|h|h
    ·exact .inl h
    ·exact .inr (.inr h)
    ·exact .inr (.inl h))⟩
   refine⟨u,hu,p,q,a1.mono hmono,b1.mono hmono,hpq,fun b hb=> ?_,he.os,he.tape,he.output,he.size,fun b hb hbb=>(he.block b hb (k1 b hbb)).2⟩
   refine⟨?_,?_⟩
   ·rcases Nat.lt_or_ge b w.heap.size with hlt|hge
    ·left
     refine Classical.byContradiction fun hbb=> ?_
     obtain⟨l,ho⟩:=hown b hb
     rw[(he.block b hlt (k1 b hbb)).1]at ho;cases ho
    ·exact .inr hge
   ·rcases List.mem_append.1 hb with h|h
    ·exact a1.lt b h
    ·exact b1.lt b h
  refine calls_of_wp hfn hbody (wp_mono (snd_c ⟨hS,rfl⟩ (σ:=σ) (ow:=ow1) (G:=G) hb ?_ h) fun e a' w' hq=> ?_)
  ·have hul:=hA.length
   have hn':as0.length<=N:=Nat.le_of_ble_eq_true hn
   refine⟨?_,rfl,fun t y hy=> ?_,hobs,fun b l hb=> ?_,⟨fun b hb=>.inr (.inr hb),hLd.keep fun b hb=>⟨hfz b hb,rfl⟩⟩,fun l q hq hp=>rfl,fun d l hd=> ?_⟩
   ·simp only[Array.size_append,List.size_toArray,Array.size_replicate,hN]
    omega
   ·obtain⟨j,s,u,e,hu,hq,rfl⟩:=hA.get hy
    have:t=j:=by omega
    subst this
    have hlt:t<us.length:=(List.getElem?_eq_some_iff.1 hu).1
    have e1:(us.toArray++Array.replicate (fn.ntmps-us.toArray.size) undef).getD t undef=u:=by
     rw[Array.getD_eq_getD_getElem?,Array.getElem?_append_left (by simpa using hlt)]
     simp[hu]
    rw[e1]
    have hrep:=av_rep (F:=F) (σ:=σ) (fun i v hv=>by have:=hσ i v hv;rwa[Nat.zero_add]at this) hq
    exact RepV.keep (p:=fun _=>false) (fun _ _=>rfl) (fun b hb=>⟨hfz b hb,rfl⟩) (refs_false _) hrep
   ·show F b∨b∈bs∨w.heap.size<=b
    exact .inr (.inl (Classical.byContradiction fun hbb=>by rw[k1 b hbb]at hb;cases hb))
   ·show isB (d::l)=false
    cases l with
    |cons=>rfl
    |nil=>
    simp only[isB]
    cases hq:Nat.ble 1000 d with
    |false=>rfl
    |true=>have:=Nat.le_of_ble_eq_true hq;omega
  ·cases e with
   |normal=>
    obtain⟨Γ',σ',ow',hk,hr,he⟩:=hq
    obtain⟨u,hu,p,q,g⟩:=hfin Γ' σ' ow' a' w' hk hr he
    exact⟨hr.defers,u,hu,u,p,q,rfl,g⟩
   |ret=>
    obtain⟨Γ',σ',ow',hk,hr,he⟩:=hq
    obtain⟨u,hu,p,q,g⟩:=hfin Γ' σ' ow' a' w' hk hr he
    exact⟨hr.defers,u,hu,u,p,q,rfl,g⟩
   |exit id=>obtain⟨Γ',σ',ow',hk,_⟩:=hq;exact hk.elim
   |_=>exact hq.elim
end
end Go.Q
