/- Types in plain data: what is valid, and both ways to say so. -/
import Derived.Test.YteidofmblfglkaaQe
set_option linter.unusedVariables false
set_option linter.unusedSimpArgs false
set_option maxHeartbeats 1000000
namespace Go.Q
def allF(ok:Nat->Bool):Nat->Nat->Bool
 |_,0=>true
 |i,k+1=>ok i&&allF ok (i+1) k
theorem for_all{R:Type}(L:Nat->Int->Option R)(n:Nat)(ok:Nat->Bool)(r bad:Option R)(a0:Nat)(hs:∀m i,a0<=i->i<n->L (m+1) (i:Int)=if ok i=true then L m ((i+1:Nat):Int)else bad)(he:∀m i,n<=i->L (m+1) ((i:Nat):Int)=r):
  ∀f,n<f+a0->0<f->L f (a0:Int)=if allF ok a0 (n-a0)=true then r else bad:=by
 have key:∀f a,a0<=a->n<f+a->0<f->L f (a:Int)=if allF ok a (n-a)=true then r else bad:=by
  intro f
  induction f with
  |zero=>intro a _ _ h;omega
  |succ f ih=>
   intro a h0 h _
   by_cases hn:n<=a
   ·rw[he f a hn,show n-a=0 by omega];simp[allF]
   ·rw[hs f a h0 (by omega),show n-a=(n-(a+1))+1 by omega]
    rw[ih (a+1) (by omega) (by omega) (by omega)]
    by_cases h2:ok a=true
    ·rw[if_pos h2,show allF ok a (n-(a+1)+1)=allF ok (a+1) (n-(a+1)) by simp[allF,h2]]
    ·rw[if_neg h2,show allF ok a (n-(a+1)+1)=false by simp[allF,h2]];simp
 intro f h1 h2
 exact key f a0 (Nat.le_refl _) h1 h2
theorem allF_shift(ok:Nat->Bool):∀(k i:Nat),allF ok (i+1) k=allF (fun j=>ok (j+1)) i k
 |0,_=>rfl
 |k+1,i=>by simp only[allF,allF_shift ok k (i+1)]
theorem allF_all{α:Type}(P:α->Bool)(z:α):∀(xs:List α),allF (fun i=>P (gt xs (i:Int) z)) 0 xs.length=xs.all P
 | []=>rfl
 |x::xs=>by
  have ih:=allF_all P z xs
  simp only[List.length_cons,allF,List.all_cons,allF_shift]
  have e:(fun j:Nat=>P (gt (x::xs) ((j+1:Nat):Int) z))=fun j:Nat=>P (gt xs (j:Int) z):=by
   funext j
   simp[gt]
  rw[e,ih]
  simp[gt]
theorem allF_congr{ok ok':Nat->Bool}:∀ {k i:Nat},(∀j,i<=j->j<i+k->ok j=ok' j)->allF ok i k=allF ok' i k
 |0,_,_=>rfl
 |k+1,i,h=>by
  simp only[allF]
  rw[h i (by omega) (by omega),allF_congr (k:=k) (i:=i+1) fun j h1 h2=>h j (by omega) (by omega)]
def chr(s:Str)(i:Int):Int:=((List.getD s (Int.toNat i) 0).toNat:Int)
def sml(c:Int):Bool:=decide ((97:Int)<=c)&&decide (c<=(122:Int))
def dig(c:Int):Bool:=decide ((48:Int)<=c)&&decide (c<=(57:Int))
def nNm(s:Str):Bool:=allF (fun i=>sml (chr s i)||(i !=0&&dig (chr s i))) 0 s.length&&(decide (1<=s.length)&&decide (s.length<=4)&& !(s==([105,102]:Str))&& !(s==([102,111,114]:Str)))
def nAsc(xs:List Str):Bool:=allF (fun i=>Op.bytesLess (gt xs ((i:Int)-1) ([]:Str)) (gt xs (i:Int) ([]:Str))) 1 (xs.length-1)
def nLab(xs:List Str):Bool:=xs.all nNm&&(decide (1<=xs.length)&&decide (xs.length<=4)&&nAsc xs)
mutual
def nHas(k:Int):Ty->Bool
 | .mk a _ c=>nHasL k c||a==k
def nHasL(k:Int):List Ty->Bool
 | []=>false
 |t::ts=>nHas k t||nHasL k ts
end
mutual
def nDep:Ty->Nat
 | .mk _ _ c=>nDepL c+1
def nDepL:List Ty->Nat
 | []=>0
 |t::ts=>max (nDep t) (nDepL ts)
end
mutual
def nSz:Ty->Nat
 | .mk _ _ c=>nSzL c+1
def nSzL:List Ty->Nat
 | []=>0
 |t::ts=>nSz t+nSzL ts
end
def want(k:Int):Int:=if k=1∨k=2 then 0 else if k=4 then 1 else if k=5 then 2 else-1
mutual
def nForm:Ty->Bool
 | .mk k ls c=>nFormL c&&(if k=3 then decide (c.length=ls.length)&&(nLab ls&& !(nHasL 5 c||k==5))else !(decide (k=4)&&decide (c.length=1)&&nHasL 5 c)&&(decide (ls.length=0)&&decide ((c.length:Int)=want k)))
def nFormL:List Ty->Bool
 | []=>true
 |t::ts=>nForm t&&nFormL ts
end
theorem nHas_eq(k:Int)(t:Ty):nHas k t=(nHasL k t.args||t.kind==k):=by cases t;simp[nHas,Ty.args_mk,Ty.kind_mk]
theorem nHasL_any(k:Int):∀ts:List Ty,nHasL k ts=ts.any (nHas k)
 | []=>rfl
 |t::ts=>by simp[nHasL,nHasL_any k ts]
theorem nDep_eq(t:Ty):nDep t=nDepL t.args+1:=by cases t;simp[nDep,Ty.args_mk]
theorem nSz_eq(t:Ty):nSz t=nSzL t.args+1:=by cases t;simp[nSz,Ty.args_mk]
theorem nFormL_all:∀ts:List Ty,nFormL ts=ts.all nForm
 | []=>rfl
 |t::ts=>by simp[nFormL,nFormL_all ts]
theorem nForm_eq(t:Ty):nForm t=(nFormL t.args&&(if t.kind=3 then decide (t.args.length=t.labels.length)&&(nLab t.labels&& !nHas 5 t)else !(decide (t.kind=4)&&decide (t.args.length=1)&&nHasL 5 t.args)&&(decide (t.labels.length=0)&&decide ((t.args.length:Int)=want t.kind)))):=by
 cases t;simp only[nForm,Ty.args_mk,Ty.kind_mk,Ty.labels_mk,nHas];rfl
theorem nSzL_sum:∀ts:List Ty,nSzL ts=(ts.map nSz).sum
 | []=>rfl
 |t::ts=>by simp[nSzL,nSzL_sum ts]
theorem nSzL_take(ts:List Ty){i:Nat}(h:i<ts.length):nSzL (ts.take (i+1))=nSzL (ts.take i)+nSz (gt ts (i:Int) Ty.zero):=by
 rw[<-take_gt ts h Ty.zero,nSzL_sum,nSzL_sum]
 simp
theorem nSzL_le(ts:List Ty)(i:Nat):nSzL (ts.take i)<=nSzL ts:=by
 rw[nSzL_sum,nSzL_sum]
 conv=>rhs;rw[<-List.take_append_drop i ts]
 rw[List.map_append,List.sum_append]
 omega
theorem nDepL_take(ts:List Ty){i:Nat}(h:i<ts.length):nDepL (ts.take (i+1))=max (nDepL (ts.take i)) (nDep (gt ts (i:Int) Ty.zero)):=by
 rw[<-take_gt ts h Ty.zero]
 generalize ts.take i=a
 induction a with
 |nil=>simp[nDepL]
 |cons x a ih=>simp[nDepL,ih];try omega
mutual
theorem nSz_le:∀t:Ty,nSz t<=zTy t+1
 | .mk a b c=>by
  rw[nSz_eq,zTy_f]
  simp only[Ty.args_mk]
  have:=nSzL_le2 c
  omega
theorem nSzL_le2:∀ts:List Ty,nSzL ts<=szL zTy ts
 | []=>by simp[nSzL,szL]
 |t::ts=>by
  have h1:=nSz_le t
  have h2:=nSzL_le2 ts
  simp only[nSzL,szL,List.length_cons,List.map_cons,List.sum_cons]at*
  omega
end
mutual
theorem nDep_le:∀t:Ty,nDep t<=nSz t
 | .mk a b c=>by
  rw[nDep_eq,nSz_eq]
  simp only[Ty.args_mk]
  have:=nDepL_le c
  omega
theorem nDepL_le:∀ts:List Ty,nDepL ts<=nSzL ts
 | []=>by simp[nSzL,nDepL]
 |t::ts=>by
  have h1:=nDep_le t
  have h2:=nDepL_le ts
  simp only[nSzL,nDepL]at*
  omega
end
def nVal(t:Ty):Bool:=decide (nSz t<=24)&&(decide (nDep t<=7)&&nForm t)
theorem dec_not{p q:Prop}[Decidable p][Decidable q](h:p↔ ¬q):decide p= !decide q:=by by_cases hq:q<;>simp[h,hq]
def many(k:Int)(n:Nat):Int:=if k=4 then 1 else if k=5 then 2 else if k=3 then n else 0
def labOk(xs:List Str):Bool:= !(decide (xs.length<1)||decide (4<xs.length)|| !nAsc xs)&& !xs.any (fun s=> !nNm s)
theorem labOk_eq(xs:List Str):labOk xs=nLab xs:=by
 unfold labOk nLab
 have e:xs.any (fun s=> !nNm s)= !xs.all nNm:=by rw[List.all_eq_not_any_not];simp
 rw[e]
 have e1:decide (xs.length<1)= !decide (1<=xs.length):=dec_not (by omega)
 have e2:decide (4<xs.length)= !decide (xs.length<=4):=dec_not (by omega)
 rw[e1,e2]
 cases decide (1<=xs.length)<;>cases decide (xs.length<=4)<;>cases nAsc xs<;>cases xs.all nNm<;>rfl
mutual
def tForm(plain:Bool)(deep:Nat):Ty->Bool
 | .mk k ls c=> !(decide (k<1)||decide (5<k)||decide (7<deep)|| !decide ((c.length:Int)=many k ls.length))&& !((decide (k=5)&&plain)||(decide (k=3)&& !labOk ls)||(!decide (k=3)&&decide (0<ls.length)))&&tFormL (plain||decide (k=3)||decide (k=4)) (deep+1) c
def tFormL(plain:Bool)(deep:Nat):List Ty->Bool
 | []=>true
 |t::ts=>tForm plain deep t&&tFormL plain deep ts
end
theorem tFormL_all(plain:Bool)(deep:Nat):∀ts:List Ty,tFormL plain deep ts=ts.all (tForm plain deep)
 | []=>rfl
 |t::ts=>by simp[tFormL,tFormL_all plain deep ts]
mutual
theorem tForm_eq:∀(t:Ty) (plain:Bool) (deep:Nat),tForm plain deep t=(decide (nDep t+deep<=8)&&(nForm t&&(!plain|| !nHas 5 t)))
 | .mk k ls c,plain,deep=>by
  change tForm plain deep (.mk k ls c)=(decide (nDepL c+1+deep<=8)&&(nForm (.mk k ls c)&&(!plain|| !nHas 5 (.mk k ls c))))
  simp only[tForm,nForm,nHas,labOk_eq]
  by_cases hd:7<deep
  ·have:¬nDepL c+1+deep<=8:=by omega
   simp[hd,this]
  ·rw[tFormL_eq c _ (deep+1) (by omega),show nDepL c+(deep+1)=nDepL c+1+deep by omega]
   have hd':decide (7<deep)=false:=decide_eq_false hd
   rw[hd']
   have e2:decide (0<ls.length)= !decide (ls.length=0):=dec_not (by omega)
   have dM:∀n:Int,many k ls.length=n->decide ((c.length:Int)=many k ls.length)=decide ((c.length:Int)=n):=fun n e=>by simp only[e]
   have dW:∀n:Int,want k=n->decide ((c.length:Int)=want k)=decide ((c.length:Int)=n):=fun n e=>by simp only[e]
   by_cases h1:k=1
   ·rw[dM 0 (by simp[many,h1]),dW 0 (by simp[want,h1]),e2]
    subst h1
    by_cases h0:c=[]
    ·subst h0
     cases decide (ls.length=0)<;>cases plain<;>simp[nHasL,nFormL]
    ·have:¬(c.length:Int)=0:=fun e=>h0 (List.eq_nil_of_length_eq_zero (by omega))
     rw[decide_eq_false this];simp
   ·by_cases h2:k=2
    ·rw[dM 0 (by simp[many,h2]),dW 0 (by simp[want,h2]),e2]
     subst h2
     by_cases h0:c=[]
     ·subst h0
      cases decide (ls.length=0)<;>cases plain<;>simp[nHasL,nFormL]
     ·have:¬(c.length:Int)=0:=fun e=>h0 (List.eq_nil_of_length_eq_zero (by omega))
      rw[decide_eq_false this];simp
    ·by_cases h3:k=3
     ·have e:decide ((c.length:Int)=(ls.length:Int))=decide (c.length=ls.length):=decide_eq_decide.2 (by omega)
      rw[dM ls.length (by simp[many,h3]),e,e2]
      subst h3
      generalize decide (nDepL c+1+deep<=8)=z
      simp only[if_true]
      cases decide (c.length=ls.length)<;>cases nLab ls<;>cases nHasL 5 c<;>cases nFormL c<;>cases plain<;>cases z<;>simp
     ·by_cases h4:k=4
      ·have e:decide ((c.length:Int)=1)=decide (c.length=1):=decide_eq_decide.2 (by omega)
       rw[dM 1 (by simp[many,h4]),dW 1 (by simp[want,h4]),e,e2]
       subst h4
       generalize decide (nDepL c+1+deep<=8)=z
       cases decide (c.length=1)<;>cases decide (ls.length=0)<;>cases nHasL 5 c<;>cases nFormL c<;>cases plain<;>cases z<;>simp
      ·by_cases h5:k=5
       ·rw[dM 2 (by simp[many,h5]),dW 2 (by simp[want,h5]),e2]
        subst h5
        generalize decide (nDepL c+1+deep<=8)=z
        cases decide ((c.length:Int)=2)<;>cases decide (ls.length=0)<;>cases nHasL 5 c<;>cases nFormL c<;>cases plain<;>cases z<;>simp
       ·have e:k<1∨5<k:=by omega
        have e4:¬((c.length:Int)= -1):=by omega
        have e3:(decide (k<1)||decide (5<k))=true:=by simp[e]
        rw[dW (-1) (by simp[want,h1,h2,h4,h5]),decide_eq_false e4]
        simp[e3,h3]
theorem tFormL_eq:∀(ts:List Ty) (plain:Bool) (deep:Nat),deep<=8->tFormL plain deep ts=(decide (nDepL ts+deep<=8)&&(nFormL ts&&(!plain|| !nHasL 5 ts)))
 | [],plain,deep,h=>by simp[tFormL,nDepL,nFormL,nHasL,h]
 |t::ts,plain,deep,h=>by
  simp only[tFormL,nDepL,nFormL,nHasL,tForm_eq t,tFormL_eq ts plain deep h]
  by_cases h1:nDep t+deep<=8<;>by_cases h2:nDepL ts+deep<=8
  ·have h3:max (nDep t) (nDepL ts)+deep<=8:=by omega
   simp only[h1,h2,h3,decide_true,Bool.true_and]
   cases nForm t<;>cases nFormL ts<;>cases plain<;>cases nHas 5 t<;>cases nHasL 5 ts<;>rfl
  ·have h3:¬max (nDep t) (nDepL ts)+deep<=8:=by omega
   simp[h2,h3]
  ·have h3:¬max (nDep t) (nDepL ts)+deep<=8:=by omega
   simp[h1,h3]
  ·have h3:¬max (nDep t) (nDepL ts)+deep<=8:=by omega
   simp[h1,h3]
end
theorem tForm_val(t:Ty):(tForm false 1 t&&decide (nSz t<=24))=nVal t:=by
 rw[tForm_eq]
 unfold nVal
 by_cases h:nDep t<=7
 ·have h2:nDep t+1<=8:=by omega
  simp only[h,h2,decide_true,Bool.true_and,Bool.not_false,Bool.true_or,Bool.and_true]
  rw[Bool.and_comm]
 ·have h2:¬nDep t+1<=8:=by omega
  simp[h,h2]
theorem nSz_at(ts:List Ty){i:Nat}(h:i<ts.length):nSz (gt ts (i:Int) Ty.zero)<=nSzL ts:=by
 have:=nSzL_take ts h
 have:=nSzL_le ts (i+1)
 omega
theorem all_at{α:Type}{P:α->Bool}{xs:List α}(h:xs.all P=true){i:Nat}(hi:i<xs.length)(z:α):P (gt xs (i:Int) z)=true:=by
 rw[gt_at xs i hi]
 exact List.all_eq_true.1 h _ (List.getElem_mem hi)
theorem form_at{t:Ty}(h:nForm t=true){i:Nat}(hi:i<t.args.length):nForm (gt t.args (i:Int) Ty.zero)=true:=by
 rw[nForm_eq]at h
 simp only[Bool.and_eq_true]at h
 have h1:=h.1
 rw[nFormL_all]at h1
 exact all_at h1 hi _
theorem form_rec{t:Ty}(h:nForm t=true)(hk:t.kind=3):t.args.length=t.labels.length:=by
 rw[nForm_eq,if_pos hk]at h
 simp only[Bool.and_eq_true,decide_eq_true_eq]at h
 exact h.2.1
theorem form_bag{t:Ty}(h:nForm t=true)(hk:t.kind=4):t.args.length=1:=by
 rw[nForm_eq,if_neg (by omega)]at h
 simp only[Bool.and_eq_true,decide_eq_true_eq,want,hk]at h
 have:=h.2.2.2
 simp at this
 omega
def findI(ok:Nat->Bool):Nat->Nat->Int
 |_,0=> -1
 |i,k+1=>if ok i=true then(i:Int)else findI ok (i+1) k
theorem for_find(L:Nat->Int->Option Int)(n:Nat)(ok:Nat->Bool)(a0:Nat)(hs:∀m i,a0<=i->i<n->L (m+1) (i:Int)=if ok i=true then some (i:Int)else L m ((i+1:Nat):Int))(he:∀m i,n<=i->L (m+1) ((i:Nat):Int)=some (-1)):
  ∀f,n<f+a0->0<f->L f (a0:Int)=some (findI ok a0 (n-a0)):=by
 have key:∀f a,a0<=a->n<f+a->0<f->L f (a:Int)=some (findI ok a (n-a)):=by
  intro f
  induction f with
  |zero=>intro a _ _ h;omega
  |succ f ih=>
   intro a h0 h _
   by_cases hn:n<=a
   ·rw[he f a hn,show n-a=0 by omega];rfl
   ·rw[hs f a h0 (by omega),show n-a=(n-(a+1))+1 by omega]
    by_cases h2:ok a=true
    ·rw[if_pos h2];simp[findI,h2]
    ·rw[if_neg h2,ih (a+1) (by omega) (by omega) (by omega)];simp[findI,h2]
 intro f h1 h2
 exact key f a0 (Nat.le_refl _) h1 h2
theorem findI_all(ok:Nat->Bool):∀(k i:Nat),decide (0<=findI ok i k)= !allF (fun j=> !ok j) i k
 |0,i=>rfl
 |k+1,i=>by
  by_cases h:ok i=true
  ·have e:findI ok i (k+1)=(i:Int):=by simp[findI,h]
   have e2:allF (fun j=> !ok j) i (k+1)=false:=by simp[allF,h]
   rw[e,e2,decide_eq_true (by omega)];rfl
  ·have e:findI ok i (k+1)=findI ok (i+1) k:=by simp[findI,h]
   have e2:allF (fun j=> !ok j) i (k+1)=allF (fun j=> !ok j) (i+1) k:=by simp[allF,h]
   rw[e,e2];exact findI_all ok k (i+1)
theorem tForm_un(plain:Bool)(deep:Nat)(t:Ty):tForm plain deep t=(!(decide (t.kind<1)||decide (5<t.kind)||decide (7<deep)|| !decide ((t.args.length:Int)=many t.kind t.labels.length))&& !((decide (t.kind=5)&&plain)||(decide (t.kind=3)&& !labOk t.labels)||(!decide (t.kind=3)&&decide (0<t.labels.length)))&&tFormL (plain||decide (t.kind=3)||decide (t.kind=4)) (deep+1) t.args):=by
 cases t;simp only[tForm,Ty.kind_mk,Ty.labels_mk,Ty.args_mk];rfl
theorem nNm_eq(s:Str):nNm s=(decide (1<=s.length)&&decide (s.length<=4)&&sml (chr s 0)&& !(s==([105,102]:Str))&& !(s==([102,111,114]:Str))&&allF (fun i=>sml (chr s i)||dig (chr s i)) 0 s.length):=by
 unfold nNm
 cases hl:s.length with
 |zero=>simp
 |succ n=>
  simp only[allF]
  rw[allF_congr (k:=n) (i:=0+1) (ok':=fun i:Nat=>sml (chr s (i:Int))||dig (chr s (i:Int))) fun j h1 h2=> ?_]
  ·have e:((0:Nat):Int)=0:=rfl
   rw[e]
   have key:∀a b c d x y z:Bool,((a||(0 !=0&&b))&&c&&(d&&x&&y&&z))=(d&&x&&a&&y&&z&&((a||b)&&c)):=by
    intro a b c d x y z
    cases a<;>cases b<;>cases c<;>cases d<;>cases x<;>cases y<;>cases z<;>rfl
   exact key _ _ _ _ _ _ _
  ·have:(j !=0)=true:=by simp;omega
   rw[this,Bool.true_and]
end Go.Q
