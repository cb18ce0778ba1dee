/- Terms and their types in plain data: what is valid, what has a type. -/
import Derived.Test.YtmkelbchboiliaaGreatNTy
import Derived.Test.YtmkelbchboiliaaGreatInE
set_option linter.unusedVariables false
set_option linter.unusedSimpArgs false
set_option maxHeartbeats 1000000
namespace Go.Q
mutual
def nSzT:Tm->Nat
 | .mk _ _ _ _ _ c=>nSzTL c+1
def nSzTL:List Tm->Nat
 | []=>0
 |t::ts=>nSzT t+nSzTL ts
end
mutual
def nDepT:Tm->Nat
 | .mk _ _ _ _ _ c=>nDepTL c+1
def nDepTL:List Tm->Nat
 | []=>0
 |t::ts=>max (nDepT t) (nDepTL ts)
end
theorem nSzT_eq(t:Tm):nSzT t=nSzTL t.args+1:=by cases t;simp[nSzT,Tm.args_mk]
theorem nDepT_eq(t:Tm):nDepT t=nDepTL t.args+1:=by cases t;simp[nDepT,Tm.args_mk]
theorem nDepTL_at:∀(ts:List Tm) {i:Nat} (h:i<ts.length),nDepT (gt ts (i:Int) Tm.zero)<=nDepTL ts:=by
 intro ts
 induction ts with
 |nil=>intro i h;simp at h
 |cons t ts ih=>
  intro i h
  cases i with
  |zero=>simp only[nDepTL,gt];simp;omega
  |succ i=>
   have e:gt (t::ts) ((i+1:Nat):Int) Tm.zero=gt ts (i:Int) Tm.zero:=by simp[gt]
   have:=ih (i:=i) (by simpa using h)
   rw[e];simp only[nDepTL];omega
mutual
theorem nSzT_le:∀t:Tm,nSzT t<=zTm t+1
 | .mk a b c d e f=>by
  rw[nSzT_eq,zTm_f]
  simp only[Tm.args_mk]
  have:=nSzTL_le2 f
  omega
theorem nSzTL_le2:∀ts:List Tm,nSzTL ts<=szL zTm ts
 | []=>by simp[nSzTL,szL]
 |t::ts=>by
  have h1:=nSzT_le t
  have h2:=nSzTL_le2 ts
  simp only[nSzTL,szL,List.length_cons,List.map_cons,List.sum_cons]at*
  omega
end
mutual
theorem nDepT_le:∀t:Tm,nDepT t<=nSzT t
 | .mk a b c d e f=>by
  rw[nDepT_eq,nSzT_eq]
  simp only[Tm.args_mk]
  have:=nDepTL_le f
  omega
theorem nDepTL_le:∀ts:List Tm,nDepTL ts<=nSzTL ts
 | []=>by simp[nSzTL,nDepTL]
 |t::ts=>by
  have h1:=nDepT_le t
  have h2:=nDepTL_le ts
  simp only[nSzTL,nDepTL]at*
  omega
end
def arity(op:Str):Int:=if op=[43]∨op=[45]∨op=[61]∨op=[60]∨op=[38]∨op=[124]then 2 else if op=[33]then 1 else 0
def shp(e:Tm):Int×Bool×Bool×Bool:=
 if e.kind=1∨e.kind=12 then(0,true,false,true)
 else if e.kind=2∨e.kind=3 then(0,false,false,true)
 else if e.kind=4 then(arity e.name,true,false,decide (0<arity e.name))
 else if e.kind=5 then((e.labels.length:Int),false,false,nLab e.labels)
 else if e.kind=6 then(1,true,false,true)
 else if e.kind=7 then(0,false,true,true)
 else if e.kind=8∨e.kind=15∨e.kind=16 then(1,false,false,true)
 else if e.kind=9∨e.kind=14 then(2,false,false,true)
 else if e.kind=10 then(2,true,false,true)
 else if e.kind=11 then(3,false,false,true)
 else if e.kind=13 then(1,true,true,true)
 else(0,false,false,false)
def tyNo(t:Ty):Bool:=(t.kind==0)&&(((t.labels.length:Int)==0)&&((t.args.length:Int)==0))
def numOk(e:Tm):Bool:=if e.kind=2 then decide (0<=e.n)&&decide (e.n<=999)else if e.kind=3 then(e.n==0)||(e.n==1)else e.n==0
def nodeOk(e:Tm):Bool:=
 (shp e).2.2.2&&(((e.args.length:Int)==(shp e).1)&&(((e.kind==5)|| !decide (0<(e.labels.length:Int)))&&(numOk e&&
  ((if(shp e).2.1=true then((e.kind==4)||nNm e.name)else(e.name==([]:Str)))&&(if(shp e).2.2.1=true then nVal e.type else tyNo e.type)))))
mutual
def nFormT:Tm->Bool
 | .mk a b c d e f=>nodeOk (.mk a b c d e f)&&nFormTL f
def nFormTL:List Tm->Bool
 | []=>true
 |t::ts=>nFormT t&&nFormTL ts
end
theorem nFormTL_all:∀ts:List Tm,nFormTL ts=ts.all nFormT
 | []=>rfl
 |t::ts=>by simp[nFormTL,nFormTL_all ts]
theorem nFormT_eq(t:Tm):nFormT t=(nodeOk t&&t.args.all nFormT):=by cases t;simp[nFormT,Tm.args_mk,nFormTL_all]
theorem tyNo_val{t:Ty}(h:tyNo t=true):nVal t=false:=by
 simp only[tyNo,Bool.and_eq_true,beq_iff_eq]at h
 obtain⟨h1,h2,h3⟩:=h
 unfold nVal
 rw[nForm_eq]
 have:¬((t.args.length:Int)=want 0):=by simp[want]
 simp[h1,this]
theorem nNm_nil:nNm []=false:=by decide
def isBase(t:Ty):Bool:=(t.kind==1)||(t.kind==2)
def nRow(t:Ty):Bool:=nVal t&&((t.kind==3)&&t.args.all isBase)
def nSchema(s:Schema):Bool:=s.tables.all (fun t=>nNm t.name&&nRow t.row)&&(decide (s.tables.length<=4)&&nAsc (s.tables.map (·.name)))
def eqSs(a b:List Str):Bool:=((a.length:Int)==(b.length:Int))&&allF (fun i=>gt a (i:Int) ([]:Str)==gt b (i:Int) ([]:Str)) 0 a.length
mutual
def eqT:Ty->Ty->Bool
 | .mk k l c,u=>(k==u.kind)&&(eqSs l u.labels&&(((c.length:Int)==(u.args.length:Int))&&eqTL c u.args 0))
def eqTL:List Ty->List Ty->Nat->Bool
 | [],_,_=>true
 |t::ts,us,i=>eqT t (gt us (i:Int) Ty.zero)&&eqTL ts us (i+1)
end
theorem eqT_eq(t u:Ty):eqT t u=((t.kind==u.kind)&&(eqSs t.labels u.labels&&(((t.args.length:Int)==(u.args.length:Int))&&eqTL t.args u.args 0))):=by
 cases t;simp only[eqT,Ty.kind_mk,Ty.labels_mk,Ty.args_mk]
theorem eqTL_all(us:List Ty):∀(ts:List Ty) (j:Nat),eqTL ts us j=allF (fun i=>eqT (gt ts (i:Int) Ty.zero) (gt us ((i+j:Nat):Int) Ty.zero)) 0 ts.length
 | [],j=>rfl
 |t::ts,j=>by
  simp only[eqTL,List.length_cons,allF,allF_shift]
  rw[eqTL_all us ts (j+1)]
  have e0:gt (t::ts) ((0:Nat):Int) Ty.zero=t:=by simp[gt]
  rw[e0,Nat.zero_add]
  congr 1
  refine allF_congr fun i _ _=> ?_
  have:gt (t::ts) ((i+1:Nat):Int) Ty.zero=gt ts (i:Int) Ty.zero:=by simp[gt]
  rw[this,show i+(j+1)=i+1+j by omega]
def tInt:Ty:=.mk 1 [] []
def tBool:Ty:=.mk 2 [] []
def tBag(t:Ty):Ty:=.mk 4 [] [t]
def rowO(name:Str):List TDecl->Option Ty
 | []=>none
 |t::ts=>if t.name=name then some t.row else rowO name ts
def okO(r:Ty×Bool):Option Ty:=if r.2=true then some r.1 else none
def opAsk(op:Str):Int:=if op=[38]∨op=[124]∨op=[33]then 2 else 1
def opGive(op:Str):Int:=if op=[61]∨op=[60]∨op=[38]∨op=[124]∨op=[33]then 2 else 1
def whenO(b:Bool)(t:Ty):Option Ty:=if b=true then some t else none
def fieldO(t:Ty)(l:Str):Option Ty:=if nVal t=true∧t.kind=3∧0<=findI (fun i=>gt t.labels (i:Int) ([]:Str)==l) 0 t.labels.length then some (gt t.args (findI (fun i=>gt t.labels (i:Int) ([]:Str)==l) 0 t.labels.length) Ty.zero)else none
def nPlain(e:Tm)(t:List Ty):Option Ty:=
 let a:=gt t (0:Int) Ty.zero
 let b:=gt t (1:Int) Ty.zero
 if e.kind=4 then whenO (t.all fun x=>x.kind==opAsk e.name) (.mk (opGive e.name) [] [])
 else if e.kind=5 then some (.mk 3 e.labels t)
 else if e.kind=6 then fieldO a e.name
 else if e.kind=8 then some (tBag a)
 else if e.kind=9 then whenO ((a.kind==4)&&eqT a b) a
 else if e.kind=11 then whenO ((a.kind==2)&&eqT b (gt t (2:Int) Ty.zero)) b
 else if e.kind=14 then whenO ((a.kind==5)&&eqT (gt a.args (0:Int) Ty.zero) b) (gt a.args (1:Int) Ty.zero)
 else if e.kind=15 then whenO (a.kind==4) tBool
 else if e.kind=16 then whenO (a.kind==4) tInt
 else none
def vO(o:Option Ty):Option Ty:=o.bind fun t=>whenO (nVal t) t
def mapO(f:Tm->Option Ty):List Tm->Option (List Ty)
 | []=>some []
 |t::ts=>(f t).bind fun x=>(mapO f ts).map fun xs=>x::xs
def nT(s:Schema):Nat->List Typing->Tm->Option Ty
 |0,_,_=>none
 |d+1,ctx,e=>vO (
  if e.kind=1 then okO (lookN e.name ctx ctx.length)
  else if e.kind=2 then some tInt
  else if e.kind=3 then some tBool
  else if e.kind=12 then(rowO e.name s.tables).map tBag
  else if e.kind=7 then some (tBag e.type)
  else if e.kind=10 then(nT s d ctx (gt e.args (0:Int) Tm.zero)).bind fun a=>if a.kind=4 then(nT s d (ctx++[⟨e.name,gt a.args (0:Int) Ty.zero⟩]) (gt e.args (1:Int) Tm.zero)).bind fun b=>whenO (b.kind==4) b else none
  else if e.kind=13 then(nT s d (ctx++[⟨e.name,e.type⟩]) (gt e.args (0:Int) Tm.zero)).map fun b=>.mk 5 [] [e.type,b]
  else(mapO (nT s d ctx) e.args).bind (nPlain e))
theorem nT_val{s:Schema}{d:Nat}{ctx:List Typing}{e:Tm}{t:Ty}(h:nT s d ctx e=some t):nVal t=true:=by
 cases d with
 |zero=>cases h
 |succ d=>
  simp only[nT,vO,Option.bind_eq_some_iff]at h
  obtain⟨u,_,h⟩:=h
  unfold whenO at h
  split at h
  ·rename_i hv
   cases h
   exact hv
  ·cases h
theorem lab_z{xs:List Str}(h:nLab xs=true):szL List.length xs<=20:=by
 simp only[nLab,Bool.and_eq_true,decide_eq_true_eq]at h
 have h1:=h.1
 have h2:=h.2.1
 have key:∀ys:List Str,ys.all nNm=true->szL List.length ys<=5*ys.length:=by
  intro ys
  induction ys with
  |nil=>intro _;simp[szL]
  |cons y ys ih=>
   intro h
   simp only[List.all_cons,Bool.and_eq_true]at h
   have h4:=ih h.2
   have h5:y.length<=4:=by
    have:=h.1
    simp only[nNm,Bool.and_eq_true,decide_eq_true_eq]at this
    omega
   simp only[szL,List.length_cons,List.map_cons,List.sum_cons]at*
   omega
 have:=key xs h1
 omega
theorem form_lab{t:Ty}(h:nForm t=true):szL List.length t.labels<=20:=by
 rw[nForm_eq]at h
 simp only[Bool.and_eq_true]at h
 have h:=h.2
 by_cases h3:t.kind=3
 ·rw[if_pos h3]at h
  simp only[Bool.and_eq_true]at h
  exact lab_z h.2.1
 ·rw[if_neg h3]at h
  simp only[Bool.and_eq_true,decide_eq_true_eq]at h
  have:t.labels=[]:=List.eq_nil_of_length_eq_zero h.2.1
  rw[this]
  simp[szL]
theorem form_args{t:Ty}(h:nForm t=true):nFormL t.args=true:=by
 rw[nForm_eq]at h
 simp only[Bool.and_eq_true]at h
 exact h.1
mutual
theorem form_z:∀t:Ty,nForm t=true->zTy t+1<=22*nSz t
 | .mk k l c,h=>by
  have h1:=form_zL c (form_args h)
  have h2:=form_lab h
  rw[zTy_f,nSz_eq]
  simp only[Ty.labels_mk,Ty.args_mk]at*
  omega
theorem form_zL:∀ts:List Ty,nFormL ts=true->szL zTy ts<=22*nSzL ts
 | [],_=>by simp[szL]
 |t::ts,h=>by
  simp only[nFormL,Bool.and_eq_true]at h
  have h1:=form_z t h.1
  have h2:=form_zL ts h.2
  have h3:1<=nSz t:=by rw[nSz_eq];omega
  simp only[szL,nSzL,List.length_cons,List.map_cons,List.sum_cons]at*
  omega
end
theorem val_z{t:Ty}(h:nVal t=true):zTy t<=527:=by
 simp only[nVal,Bool.and_eq_true,decide_eq_true_eq]at h
 have:=form_z t h.2.2
 omega
theorem val_form{t:Ty}(h:nVal t=true):nForm t=true:=by
 simp only[nVal,Bool.and_eq_true]at h
 exact h.2.2
theorem nDepL_at:∀(ts:List Ty) {i:Nat} (h:i<ts.length),nDep (gt ts (i:Int) Ty.zero)<=nDepL ts:=by
 intro ts
 induction ts with
 |nil=>intro i h;simp at h
 |cons t ts ih=>
  intro i h
  cases i with
  |zero=>simp only[nDepL,gt];simp;omega
  |succ i=>
   have e:gt (t::ts) ((i+1:Nat):Int) Ty.zero=gt ts (i:Int) Ty.zero:=by simp[gt]
   have:=ih (i:=i) (by simpa using h)
   rw[e];simp only[nDepL];omega
theorem val_at{t:Ty}(h:nVal t=true){i:Nat}(hi:i<t.args.length):nVal (gt t.args (i:Int) Ty.zero)=true:=by
 have hF:=form_at (val_form h) hi
 simp only[nVal,Bool.and_eq_true,decide_eq_true_eq]at h⊢
 have h1:=nSz_at t.args hi
 have h2:=nDepL_at t.args hi
 have h3:=nSz_eq t
 have h4:=nDep_eq t
 exact⟨by omega,by omega,hF⟩
theorem form_fun{t:Ty}(h:nForm t=true)(hk:t.kind=5):t.args.length=2:=by
 rw[nForm_eq]at h
 simp only[Bool.and_eq_true]at h
 obtain⟨_,h⟩:=h
 simp only[hk]at h
 simp[want]at h
 omega
end Go.Q
