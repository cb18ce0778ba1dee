/- Base terms, contexts of generators and plans in plain data. -/
import Derived.Test.YtmkelbchboiliaaGreatV8p
set_option linter.unusedVariables false
set_option linter.unusedSimpArgs false
set_option maxHeartbeats 1000000
namespace Go.Q
def hd12:List Tm->Bool
 | []=>false
 |a::_=>a.kind==12
mutual
def bT:Bool->Tm->Bool
 |f,.mk k _ _ _ _ es=>cond (k==1) f (cond ((k==13)||(k==14)) false ((cond (k==10) (hd12 es) true)&&bTL (k==6) es))
def bTL:Bool->List Tm->Bool
 |_,[]=>true
 |f,t::ts=>bT f t&&bTL f ts
end
theorem bTL_all(f:Bool):∀ts:List Tm,bTL f ts=ts.all (bT f)
 | []=>rfl
 |t::ts=>by simp[bTL,bTL_all f ts]
theorem bT_eq(f:Bool)(e:Tm):bT f e=cond (e.kind==1) f (cond ((e.kind==13)||(e.kind==14)) false ((cond (e.kind==10) (hd12 e.args) true)&&e.args.all (bT (e.kind==6)))):=by
 cases e;simp only[bT,bTL_all,Tm.kind_mk,Tm.args_mk]
def inC(name:Str)(ctx:List Typing):Bool:=(lookN name ctx ctx.length).2
theorem lookN_iff(name:Str)(ctx:List Typing):∀k,k<=ctx.length->((lookN name ctx k).2=true↔ ∃i,i<k∧(gt ctx (i:Int) Typing.zero).name=name)
 |0,_=>by
  constructor
  ·intro h;cases h
  ·rintro⟨i,h,_⟩;omega
 |k+1,hk=>by
  have ih:=lookN_iff name ctx k (by omega)
  simp only[lookN]
  split
  ·rename_i h
   exact⟨fun _=>⟨k,by omega,h⟩,fun _=>rfl⟩
  ·rename_i h
   rw[ih]
   exact⟨fun⟨i,h1,h2⟩=>⟨i,by omega,h2⟩,fun⟨i,h1,h2⟩=>⟨i,by
    rcases Nat.lt_or_ge i k with h3|h3
    ·exact h3
    ·have:i=k:=by omega
     subst this
     exact absurd h2 h,h2⟩⟩
theorem inC_iff(name:Str)(ctx:List Typing):inC name ctx=true↔ ∃x∈ctx,x.name=name:=by
 unfold inC
 rw[lookN_iff name ctx ctx.length (Nat.le_refl _)]
 constructor
 ·rintro⟨i,h1,h2⟩
  exact⟨_,gt_mem ctx h1 Typing.zero,h2⟩
 ·rintro⟨x,hx,rfl⟩
  obtain⟨i,hi,rfl⟩:=List.getElem_of_mem hx
  exact⟨i,hi,by rw[gt_at ctx i hi]⟩
def gC(s:Schema):List Typing->List Gen->Option (List Typing)
 |ctx,[]=>some ctx
 |ctx,g::gs=>(rowO g.table s.tables).bind fun row=>cond (inC g.var ctx|| !nNm g.var) none (gC s (ctx++[⟨g.var,row⟩]) gs)
theorem gC_mono(s:Schema):∀(gs:List Gen) (ctx ctx' c:List Typing),gC s ctx gs=some c->(∀n,inC n ctx'=true->inC n ctx=true)->∃c',gC s ctx' gs=some c'
 | [],ctx,ctx',c,h,hm=>⟨ctx',rfl⟩
 |g::gs,ctx,ctx',c,h,hm=>by
  simp only[gC,Option.bind_eq_some_iff]at h⊢
  obtain⟨row,h1,h2⟩:=h
  cases hb:(inC g.var ctx|| !nNm g.var)with
  |true=>rw[hb]at h2;cases h2
  |false=>
   rw[hb]at h2
   have hb':(inC g.var ctx'|| !nNm g.var)=false:=by
    rw[Bool.or_eq_false_iff]at hb⊢
    refine⟨?_,hb.2⟩
    cases hc:inC g.var ctx' with
    |false=>rfl
    |true=>rw[hm _ hc]at hb;exact absurd hb.1 (by simp)
   simp only[cond]at h2
   obtain⟨c',hc'⟩:=gC_mono s gs (ctx++[⟨g.var,row⟩]) (ctx'++[⟨g.var,row⟩]) c h2 fun n hn=>by
    rw[inC_iff]at hn⊢
    obtain⟨x,hx,he⟩:=hn
    rcases List.mem_append.1 hx with hx|hx
    ·obtain⟨y,hy,hy2⟩:=(inC_iff n ctx).1 (hm n ((inC_iff n ctx').2 ⟨x,hx,he⟩))
     exact⟨y,List.mem_append_left _ hy,hy2⟩
    ·exact⟨x,List.mem_append_right _ hx,he⟩
   exact⟨c',row,h1,by rw[hb'];exact hc'⟩
theorem gC_app(s:Schema):∀(a b:List Gen) (ctx:List Typing),gC s ctx (a++b)=(gC s ctx a).bind fun c=>gC s c b
 | [],b,ctx=>rfl
 |g::a,b,ctx=>by
  simp only[List.cons_append,gC]
  cases rowO g.table s.tables with
  |none=>rfl
  |some row=>
   simp only[Option.bind_some]
   cases(inC g.var ctx|| !nNm g.var)with
   |true=>rfl
   |false=>exact gC_app s a b _
theorem gC_infix{s:Schema}{a b c:List Gen}(h:(gC s [] (a++b++c)).isSome=true):∃x,gC s [] b=some x:=by
 rw[gC_app,gC_app]at h
 cases h1:gC s [] a with
 |none=>rw[h1]at h;cases h
 |some c1=>
  rw[h1]at h
  simp only[Option.bind_some]at h
  cases h2:gC s c1 b with
  |none=>rw[h2]at h;cases h
  |some c2=>exact gC_mono s b c1 [] c2 h2 fun n hn=>by rw[inC_iff]at hn;obtain⟨x,hx,_⟩:=hn;cases hx
theorem gC_val{s:Schema}(hR:∀x∈s.tables,nVal x.row=true):∀ {gs:List Gen} {ctx c:List Typing},gC s ctx gs=some c->(∀x∈ctx,nVal x.type=true)->(∀x∈c,nVal x.type=true)∧c.length=ctx.length+gs.length
 | [],ctx,c,h,hv=>by cases h;exact⟨hv,by simp⟩
 |g::gs,ctx,c,h,hv=>by
  simp only[gC,Option.bind_eq_some_iff]at h
  obtain⟨row,h1,h2⟩:=h
  cases hb:(inC g.var ctx|| !nNm g.var)with
  |true=>rw[hb]at h2;cases h2
  |false=>
   rw[hb]at h2
   obtain⟨x,hx,hr⟩:=rowO_some h1
   have:=gC_val hR (gs:=gs) h2 fun y hy=>by
    rcases List.mem_append.1 hy with hy|hy
    ·exact hv y hy
    ·rw[List.mem_singleton]at hy
     subst hy
     rw[<-hr];exact hR x hx
   refine⟨this.1,?_⟩
   rw[this.2];simp;omega
def hB(s:Schema)(ctx:List Typing)(e:Tm)(k:Int):Bool:=(nFormT e&&bT false e)&&match nT s (nDepT e) ctx e with
 |some t=>t.kind==k
 |none=>false
def zeroT(e:Tm):Bool:=(e.kind==0)&&((e.name==([]:Str))&&((e.n==0)&&(tyNo e.type&&(((e.labels.length:Int)==0)&&((e.args.length:Int)==0)))))
theorem eqSs_nil(a:List Str):eqSs a []=((a.length:Int)==0):=by
 unfold eqSs
 cases a with
 |nil=>rfl
 |cons x a=>
  have:(((x::a).length:Int)==(([]:List Str).length:Int))=false:=by simp;omega
  rw[this]
  have h2:(((x::a).length:Int)==0)=false:=by simp;omega
  rw[h2];rfl
theorem eqT_no(t:Ty):eqT t (Ty.mk 0 [] [])=tyNo t:=by
 rw[eqT_eq,Ty.kind_mk,Ty.labels_mk,Ty.args_mk,eqSs_nil]
 unfold tyNo
 have h0:((([]:List Ty).length:Nat):Int)=0:=rfl
 rw[h0]
 cases h:((t.args.length:Int)==0)with
 |false=>rfl
 |true=>
  have h1:(t.args.length:Int)=0:=by simpa using h
  have:t.args=[]:=List.eq_nil_of_length_eq_zero (by omega)
  rw[this]
  simp[eqTL]
theorem eqT_base{t:Ty}(hv:nVal t=true)(k:Int)(hk:k=1∨k=2):eqT t (Ty.mk k [] [])=(t.kind==k):=by
 rw[eqT_eq,Ty.kind_mk,Ty.labels_mk,Ty.args_mk,eqSs_nil]
 cases h:(t.kind==k)with
 |false=>rfl
 |true=>
  have h1:t.kind=k:=by simpa using h
  have hf:=val_form hv
  rw[nForm_eq]at hf
  simp only[Bool.and_eq_true]at hf
  have h3:¬t.kind=3:=by omega
  rw[if_neg h3]at hf
  simp only[Bool.and_eq_true,decide_eq_true_eq]at hf
  have h4:want t.kind=0:=by unfold want;rw[if_pos (by omega)]
  rw[h4]at hf
  have hl:t.labels=[]:=List.eq_nil_of_length_eq_zero hf.2.2.1
  have ha:t.args=[]:=List.eq_nil_of_length_eq_zero (by have:=hf.2.2.2;omega)
  rw[hl,ha];rfl
mutual
def plVars:Plan->List Gen
 | .mk k v t _ _ us=>(if k=2 then [Gen.mk v t]else [])++plVarsL us
def plVarsL:List Plan->List Gen
 | []=>[]
 |x::xs=>plVars x++plVarsL xs
end
theorem plVarsL_eq:∀a,plVarsL a=a.flatMap plVars
 | []=>by simp[plVarsL]
 |x::a=>by simp[plVarsL,plVarsL_eq a]
theorem plVars_f(p:Plan):plVars p=(if p.kind=2 then [Gen.mk p.var p.table]else [])++p.args.flatMap plVars:=by
 cases p;simp only[plVars,plVarsL_eq];rfl
mutual
theorem plVars_le:∀p,(plVars p).length<=1+zPlan p
 | .mk k v t c ks us=>by
  have h:=plVarsL_le us
  have hz:=zPlan_f (.mk k v t c ks us)
  dsimp only[Plan.kind,Plan.var,Plan.table,Plan.cond,Plan.keys,Plan.args]at hz
  simp only[plVars,List.length_append]
  split<;>simp<;>omega
theorem plVarsL_le:∀a,(plVarsL a).length<=szL zPlan a
 | []=>by simp[plVarsL]
 |x::a=>by
  have h1:=plVars_le x
  have h2:=plVarsL_le a
  simp only[plVarsL,szL,List.length_cons,List.length_append,List.map_cons,List.sum_cons]at h2⊢
  omega
end
theorem fm_take{α β:Type}(f:α->List β)(a:List α){i:Nat}(h:i<a.length)(z:α):(a.take i).flatMap f++f (gt a (i:Int) z)=(a.take (i+1)).flatMap f:=by
 rw[<-take_gt a h z,List.flatMap_append]
 simp
theorem fm_take_le{α β:Type}(f:α->List β)(a:List α)(i:Nat):((a.take i).flatMap f).length<=(a.flatMap f).length:=by
 have:=congrArg List.length (congrArg (List.flatMap f) (List.take_append_drop i a))
 rw[List.flatMap_append,List.length_append]at this
 omega
theorem zPlan_args(p:Plan):p.args.length<=zPlan p∧szL zPlan p.args<=zPlan p:=by
 have:=zPlan_f p
 have h2:p.args.length<=szL zPlan p.args:=by unfold szL;omega
 omega
theorem fm_take2{α β:Type}(f:α->List β)(a:List α){i:Nat}(h:i<a.length)(z:α)(o:List β):o++(a.take i).flatMap f++f (gt a (i:Int) z)=o++(a.take (i+1)).flatMap f:=by
 rw[List.append_assoc,fm_take f a h z]
def plA(k:Int):Int:=if k=1∨k=2 then 0 else if k=3∨k=5 then 2 else if k=4 then 1 else-1
def plK(k:Int):Int:=if k=1∨k=2∨k=3∨k=4 then 0 else if k=5 then 2 else-1
def ctxO(s:Schema)(p:Plan):List Typing:=(gC s [] (plVars p)).getD []
def bodyP(s:Schema)(p:Plan):Bool:=
 if p.kind=4 then hB s (ctxO s (gt p.args (0:Int) Plan.zero)) p.cond 2
 else if p.kind=5 then hB s (ctxO s (gt p.args (0:Int) Plan.zero)) (gt p.keys (0:Int) Tm.zero) 1&&hB s (ctxO s (gt p.args (1:Int) Plan.zero)) (gt p.keys (1:Int) Tm.zero) 1
 else true
def nodeP(s:Schema)(p:Plan):Bool:=
 ((p.args.length:Int)==plA p.kind)&&(((p.keys.length:Int)==plK p.kind)&&(((p.kind==2)||((p.var==([]:Str))&&(p.table==([]:Str))))&&(((p.kind==4)||zeroT p.cond)&&bodyP s p)))
mutual
def pForm(s:Schema):Plan->Bool
 | .mk k v t c ks us=>nodeP s (.mk k v t c ks us)&&pFormL s us
def pFormL(s:Schema):List Plan->Bool
 | []=>true
 |p::ps=>pForm s p&&pFormL s ps
end
theorem pFormL_all(s:Schema):∀ps:List Plan,pFormL s ps=ps.all (pForm s)
 | []=>rfl
 |p::ps=>by simp[pFormL,pFormL_all s ps]
theorem pForm_eq(s:Schema)(p:Plan):pForm s p=(nodeP s p&&p.args.all (pForm s)):=by cases p;simp[pForm,Plan.args,pFormL_all]
def isPlan(s:Schema)(p:Plan):Bool:=nSchema s&&((gC s [] (plVars p)).isSome&&pForm s p)
theorem fm_at{α β:Type}(f:α->List β)(a:List α){i:Nat}(h:i<a.length)(z:α):a.flatMap f=(a.take i).flatMap f++f (gt a (i:Int) z)++(a.drop (i+1)).flatMap f:=by
 conv=>lhs;rw[<-List.take_append_drop (i+1) a]
 rw[List.flatMap_append,<-fm_take f a h z]
theorem part_ok{s:Schema}{p:Plan}(h:(gC s [] (plVars p)).isSome=true){i:Nat}(hi:i<p.args.length):(gC s [] (plVars (gt p.args (i:Int) Plan.zero))).isSome=true:=by
 rw[plVars_f,fm_at plVars p.args hi Plan.zero,<-List.append_assoc,<-List.append_assoc]at h
 obtain⟨x,hx⟩:=gC_infix h
 rw[hx];rfl
end Go.Q
