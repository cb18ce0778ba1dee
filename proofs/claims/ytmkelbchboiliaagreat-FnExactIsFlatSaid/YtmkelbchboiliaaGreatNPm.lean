/- Base terms, contexts of generators and plans in plain data. -/
import Derived.Test.YtmkelbchboiliaaGreatV8p
set_option linter.unusedVariables false
set_option linter.unusedSimpArgs false
set_option maxHeartbeats 1000000
namespace Go.Q
def hd12:List Tm->Bool
 | []=>false
 |a::_=>a.kind==12
mutual
def bT:Bool->Tm->Bool
 |f,.mk k _ _ _ _ es=>cond (k==1) f (cond ((k==13)||(k==14)) false ((cond (k==10) (hd12 es) true)&&bTL (k==6) es))
def bTL:Bool->List Tm->Bool
 |_,[]=>true
 |f,t::ts=>bT f t&&bTL f ts
end
theorem bTL_all(f:Bool):∀ts:List Tm,bTL f ts=ts.all (bT f)
 | []=>rfl
 |t::ts=>by simp[bTL,bTL_all f ts]
theorem bT_eq(f:Bool)(e:Tm):bT f e=cond (e.kind==1) f (cond ((e.kind==13)||(e.kind==14)) false ((cond (e.kind==10) (hd12 e.args) true)&&e.args.all (bT (e.kind==6)))):=by
 cases e;simp only[bT,bTL_all,Tm.kind_mk,Tm.args_mk]
def inC(name:Str)(ctx:List Typing):Bool:=(lookN name ctx ctx.length).2
def gC(s:Schema):List Typing->List Gen->Option (List Typing)
 |ctx,[]=>some ctx
 |ctx,g::gs=>(rowO g.table s.tables).bind fun row=>cond (inC g.var ctx|| !nNm g.var) none (gC s (ctx++[⟨g.var,row⟩]) gs)
theorem gC_val{s:Schema}(hR:∀x∈s.tables,nVal x.row=true):∀ {gs:List Gen} {ctx c:List Typing},gC s ctx gs=some c->(∀x∈ctx,nVal x.type=true)->(∀x∈c,nVal x.type=true)∧c.length=ctx.length+gs.length
 | [],ctx,c,h,hv=>by cases h;exact⟨hv,by simp⟩
 |g::gs,ctx,c,h,hv=>by
  simp only[gC,Option.bind_eq_some_iff]at h
  obtain⟨row,h1,h2⟩:=h
  cases hb:(inC g.var ctx|| !nNm g.var)with
  |true=>rw[hb]at h2;cases h2
  |false=>
   rw[hb]at h2
   obtain⟨x,hx,hr⟩:=rowO_some h1
   have:=gC_val hR (gs:=gs) h2 fun y hy=>by
    rcases List.mem_append.1 hy with hy|hy
    ·exact hv y hy
    ·rw[List.mem_singleton]at hy
     subst hy
     rw[<-hr];exact hR x hx
   refine⟨this.1,?_⟩
   rw[this.2];simp;omega
def hB(s:Schema)(ctx:List Typing)(e:Tm)(k:Int):Bool:=(nFormT e&&bT false e)&&match nT s (nDepT e) ctx e with
 |some t=>t.kind==k
 |none=>false
def zeroT(e:Tm):Bool:=(e.kind==0)&&((e.name==([]:Str))&&((e.n==0)&&(tyNo e.type&&(((e.labels.length:Int)==0)&&((e.args.length:Int)==0)))))
theorem eqSs_nil(a:List Str):eqSs a []=((a.length:Int)==0):=by
 unfold eqSs
 cases a with
 |nil=>rfl
 |cons x a=>
  have:(((x::a).length:Int)==(([]:List Str).length:Int))=false:=by simp;omega
  rw[this]
  have h2:(((x::a).length:Int)==0)=false:=by simp;omega
  rw[h2];rfl
theorem eqT_no(t:Ty):eqT t (Ty.mk 0 [] [])=tyNo t:=by
 rw[eqT_eq,Ty.kind_mk,Ty.labels_mk,Ty.args_mk,eqSs_nil]
 unfold tyNo
 have h0:((([]:List Ty).length:Nat):Int)=0:=rfl
 rw[h0]
 cases h:((t.args.length:Int)==0)with
 |false=>rfl
 |true=>
  have h1:(t.args.length:Int)=0:=by simpa using h
  have:t.args=[]:=List.eq_nil_of_length_eq_zero (by omega)
  rw[this]
  simp[eqTL]
theorem eqT_base{t:Ty}(hv:nVal t=true)(k:Int)(hk:k=1∨k=2):eqT t (Ty.mk k [] [])=(t.kind==k):=by
 rw[eqT_eq,Ty.kind_mk,Ty.labels_mk,Ty.args_mk,eqSs_nil]
 cases h:(t.kind==k)with
 |false=>rfl
 |true=>
  have h1:t.kind=k:=by simpa using h
  have hf:=val_form hv
  rw[nForm_eq]at hf
  simp only[Bool.and_eq_true]at hf
  have h3:¬t.kind=3:=by omega
  rw[if_neg h3]at hf
  simp only[Bool.and_eq_true,decide_eq_true_eq]at hf
  have h4:want t.kind=0:=by unfold want;rw[if_pos (by omega)]
  rw[h4]at hf
  have hl:t.labels=[]:=List.eq_nil_of_length_eq_zero hf.2.2.1
  have ha:t.args=[]:=List.eq_nil_of_length_eq_zero (by have:=hf.2.2.2;omega)
  rw[hl,ha];rfl
end Go.Q
