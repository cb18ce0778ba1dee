/- The text of a type: plain data. -/
import Derived.Test.YteidofmblfglkaaQe
import Derived.Test.YteidofmblfglkaaNTy
import Derived.Lib.Join
set_option linter.unusedVariables false
set_option linter.unusedSimpArgs false
set_option maxHeartbeats 1000000
namespace Go.Q
theorem szL_cons{α:Type}(f:α->Nat)(x:α)(xs:List α):szL f (x::xs)=1+f x+szL f xs:=by
 simp only[szL,List.length_cons,List.map_cons,List.sum_cons];omega
theorem szL_snoc'{α:Type}(f:α->Nat)(a:List α)(x:α):szL f (a++[x])=szL f a+1+f x:=by simp[szL];omega
theorem join_len(sep:Str)(h:sep.length<=1):∀xs:List Str,(Lib.join xs sep).length<=szL List.length xs
 | []=>by simp[Lib.join_nil]
 |x::xs=>by
  have key:∀ys:List Str,(Lib.joinTail sep ys).length<=szL List.length ys:=by
   intro ys
   induction ys with
   |nil=>simp[Lib.joinTail]
   |cons y ys ih=>
    simp only[Lib.joinTail,List.map_cons,List.flatten_cons,List.length_append]at ih⊢
    rw[szL_cons]
    omega
  rw[Lib.join_cons,List.length_append,szL_cons]
  have:=key xs
  omega
theorem join_snoc(sep x:Str):∀xs:List Str,Lib.join (xs++[x]) sep=if xs=[]then x else Lib.join xs sep++sep++x
 | []=>by simp[Lib.join_one]
 |y::xs=>by
  rw[List.cons_append,Lib.join_cons,Lib.join_cons,if_neg (by simp)]
  simp[Lib.joinTail]
theorem join_take(sep:Str)(xs:List Str){i:Nat}(h:i<xs.length)(z:Str):Lib.join (xs.take (i+1)) sep=if i=0 then gt xs (i:Int) z else Lib.join (xs.take i) sep++sep++gt xs (i:Int) z:=by
 rw[<-take_gt xs h z,join_snoc]
 by_cases h0:i=0
 ·subst h0;simp
 ·rw[if_neg h0,if_neg]
  intro e
  have:=congrArg List.length e
  rw[List.length_take]at this
  simp only[List.length_nil]at this
  omega
theorem tail_cons(sep x:Str)(xs:List Str):Lib.joinTail sep (x::xs)=sep++x++Lib.joinTail sep xs:=by
 simp[Lib.joinTail]
theorem intsOf_append(s t:Str):intsOf (s++t)=intsOf s++intsOf t:=by simp[intsOf]
theorem ints_len(s:Str):(intsOf s).length=s.length:=by simp[intsOf]
theorem szL_take{α:Type}(f:α->Nat)(a:List α)(i:Nat):szL f (a.take i)<=szL f a:=by
 have:=pfx_le f a i
 simp only[szL,pfx,List.length_take]at this⊢
 omega
mutual
def nText:Ty->Str
 | .mk k ls c=>if k=1 then [73]else if k=2 then [66]else if k=3 then [123]++Lib.join (nTexts k ls c 0) [44]++[125]else if k=4 then [91]++gt (nTexts k ls c 0) (0:Int) ([]:Str)++[93]else [40]++Lib.join (nTexts k ls c 0) [62]++[41]
def nTexts(k:Int)(ls:List Str):List Ty->Nat->List Str
 | [],_=>[]
 |u::us,i=>(if k=3 then gt ls (i:Int) ([]:Str)++[58]++nText u else nText u)::nTexts k ls us (i+1)
end
theorem nText_eq(t:Ty):nText t=if t.kind=1 then [73]else if t.kind=2 then [66]else if t.kind=3 then [123]++Lib.join (nTexts t.kind t.labels t.args 0) [44]++[125]else if t.kind=4 then [91]++gt (nTexts t.kind t.labels t.args 0) (0:Int) ([]:Str)++[93]else [40]++Lib.join (nTexts t.kind t.labels t.args 0) [62]++[41]:=by
 cases t;simp only[nText,Ty.kind_mk,Ty.labels_mk,Ty.args_mk];rfl
def itm(k:Int)(ls:List Str)(i:Nat)(u:Ty):Str:=if k=3 then gt ls (i:Int) ([]:Str)++[58]++nText u else nText u
theorem nTexts_cons(k:Int)(ls:List Str)(u:Ty)(us:List Ty)(i:Nat):nTexts k ls (u::us) i=itm k ls i u::nTexts k ls us (i+1):=by
 simp only[nTexts];rfl
theorem nTexts_nil(k:Int)(ls:List Str)(i:Nat):nTexts k ls [] i=[]:=by simp only[nTexts]
theorem nTexts_app(k:Int)(ls:List Str)(x:Ty):∀(a:List Ty) (j:Nat),nTexts k ls (a++[x]) j=nTexts k ls a j++[itm k ls (j+a.length) x]
 | [],j=>by simp[nTexts_cons,nTexts_nil]
 |t::a,j=>by
  rw[List.cons_append,nTexts_cons,nTexts_cons,nTexts_app k ls x a (j+1),List.cons_append,List.length_cons]
  rw[show j+1+a.length=j+(a.length+1) by omega]
theorem nTexts_take(k:Int)(ls:List Str)(c:List Ty){i:Nat}(h:i<c.length):nTexts k ls (c.take (i+1)) 0=nTexts k ls (c.take i) 0++[itm k ls i (gt c (i:Int) Ty.zero)]:=by
 rw[<-take_gt c h Ty.zero,nTexts_app,List.length_take,Nat.min_eq_left (by omega),Nat.zero_add]
theorem nTexts_length(k:Int)(ls:List Str):∀(us:List Ty) (i:Nat),(nTexts k ls us i).length=us.length
 | [],_=>by simp[nTexts_nil]
 |u::us,i=>by rw[nTexts_cons,List.length_cons,List.length_cons,nTexts_length k ls us (i+1)]
theorem form_kind{t:Ty}(h:nForm t=true):t.kind=1∨t.kind=2∨t.kind=3∨t.kind=4∨t.kind=5:=by
 rw[nForm_eq]at h
 by_cases h3:t.kind=3
 ·exact .inr (.inr (.inl h3))
 ·rw[if_neg h3]at h
  simp only[Bool.and_eq_true,decide_eq_true_eq]at h
  have hw:=h.2.2.2
  unfold want at hw
  split at hw
  ·omega
  ·split at hw
   ·omega
   ·split at hw
    ·omega
    ·omega
theorem form_args{t:Ty}(h:nForm t=true)(h3:t.kind≠3):t.labels=[]∧(t.args.length:Int)=want t.kind:=by
 rw[nForm_eq]at h
 rw[if_neg h3]at h
 simp only[Bool.and_eq_true,decide_eq_true_eq]at h
 exact⟨List.eq_nil_of_length_eq_zero h.2.2.1,h.2.2.2⟩
theorem form_lab{t:Ty}(h:nForm t=true)(h3:t.kind=3):nLab t.labels=true:=by
 rw[nForm_eq,if_pos h3]at h
 simp only[Bool.and_eq_true]at h
 exact h.2.2.1
theorem lab_name{xs:List Str}(h:nLab xs=true){i:Nat}(hi:i<xs.length):nNm (gt xs (i:Int) ([]:Str))=true:=by
 unfold nLab at h
 simp only[Bool.and_eq_true]at h
 rw[gt_at xs i hi]
 exact List.all_eq_true.1 h.1 _ (List.getElem_mem hi)
theorem name_len{s:Str}(h:nNm s=true):s.length<=4:=by
 unfold nNm at h
 simp only[Bool.and_eq_true,decide_eq_true_eq]at h
 exact h.2.1.1.2
theorem lab_len{xs:List Str}(h:nLab xs=true)(i:Nat):(gt xs (i:Int) ([]:Str)).length<=4:=by
 by_cases hi:i<xs.length
 ·exact name_len (lab_name h hi)
 ·have:gt xs (i:Int) ([]:Str)=[]:=by simp[gt,List.getElem?_eq_none (Nat.le_of_not_lt hi)]
  rw[this];simp
theorem nText_len1(t:Ty)(hn:szL List.length (nTexts t.kind t.labels t.args 0)+2*t.args.length<=16*nSzL t.args):(nText t).length+8<=16*nSz t:=by
 have h1:=join_len [44] (by decide) (nTexts t.kind t.labels t.args 0)
 have h2:=join_len [62] (by decide) (nTexts t.kind t.labels t.args 0)
 rw[nText_eq,nSz_eq]
 by_cases k1:t.kind=1
 ·rw[if_pos k1];simp;omega
 rw[if_neg k1]
 by_cases k2:t.kind=2
 ·rw[if_pos k2];simp;omega
 rw[if_neg k2]
 by_cases k3:t.kind=3
 ·rw[if_pos k3];simp;omega
 rw[if_neg k3]
 by_cases k4:t.kind=4
 ·rw[if_pos k4]
  have hg:(gt (nTexts t.kind t.labels t.args 0) (0:Int) ([]:Str)).length<=szL List.length (nTexts t.kind t.labels t.args 0):=by
   by_cases hi:0<(nTexts t.kind t.labels t.args 0).length
   ·have:=szL_at List.length (nTexts t.kind t.labels t.args 0) hi ([]:Str)
    have e:((0:Nat):Int)=0:=rfl
    rw[e]at this
    omega
   ·have:nTexts t.kind t.labels t.args 0=[]:=List.eq_nil_of_length_eq_zero (by omega)
    rw[this];simp[gt]
  simp
  omega
 ·rw[if_neg k4];simp;omega
mutual
theorem nText_len:∀t:Ty,nForm t=true->(nText t).length+8<=16*nSz t
 | .mk k ls c,h=>by
  have hc:∀u∈c,nForm u=true:=fun u hu=>by
   have h2:=h
   rw[nForm_eq]at h2
   simp only[Bool.and_eq_true]at h2
   have h3:=h2.1
   rw[nFormL_all]at h3
   exact List.all_eq_true.1 h3 u hu
  have hl:∀i:Nat,k=3->(gt ls (i:Int) ([]:Str)).length<=4:=fun i h3=>lab_len (form_lab h h3) i
  have hn:=nTexts_len k ls hl c 0 hc
  exact nText_len1 (.mk k ls c) hn
theorem nTexts_len(k:Int)(ls:List Str)(hl:∀i:Nat,k=3->(gt ls (i:Int) ([]:Str)).length<=4):∀(us:List Ty) (i:Nat),(∀u∈us,nForm u=true)->szL List.length (nTexts k ls us i)+2*us.length<=16*nSzL us
 | [],i,_=>by simp[nTexts_nil,szL,nSzL]
 |u::us,i,h=>by
  have h1:=nText_len u (h u (List.mem_cons_self ..))
  have h2:=nTexts_len k ls hl us (i+1) fun v hv=>h v (List.mem_cons_of_mem _ hv)
  rw[nTexts_cons,szL_cons,List.length_cons]
  simp only[nSzL]
  have h3:(itm k ls i u).length<=5+(nText u).length:=by
   unfold itm
   split
   ·have:=hl i (by assumption)
    simp;omega
   ·omega
  omega
end
def tkn(s:Str)(at':Nat)(bad:Bool)(a:UInt8):Bool:= !bad&&decide (s[at']? =some a)
theorem take_one(s:Str){i:Nat}(h:i<s.length):List.drop i (List.take (i+1) s)=[s[i]]:=by
 rw[List.drop_take,show i+1-i=1 by omega,List.drop_eq_getElem_cons h]
 rfl
theorem drop_hd{s:Str}{i:Nat}{a:UInt8}{w:Str}(h:s.drop i=a::w):s[i]? =some a∧i<s.length∧s.drop (i+1)=w:=by
 have hi:i<s.length:=by
  rcases Nat.lt_or_ge i s.length with h1|h1
  ·exact h1
  ·rw[List.drop_of_length_le h1]at h;cases h
 rw[List.drop_eq_getElem_cons hi]at h
 simp only[List.cons.injEq]at h
 exact⟨by rw[List.getElem?_eq_getElem hi,h.1],hi,h.2⟩
theorem tkn_yes{s:Str}{i:Nat}{a:UInt8}{w:Str}(h:s.drop i=a::w):tkn s i false a=true:=by
 simp[tkn,(drop_hd h).1]
theorem tkn_no{s:Str}{i:Nat}{a b:UInt8}{w:Str}(h:s.drop i=b::w)(hne:b≠a):tkn s i false a=false:=by
 simp[tkn,(drop_hd h).1,hne]
theorem tkn_lt{s:Str}{i:Nat}{bad:Bool}{a:UInt8}(h:tkn s i bad a=true):i<s.length∧bad=false:=by
 unfold tkn at h
 simp only[Bool.and_eq_true,decide_eq_true_eq,Bool.not_eq_true']at h
 refine⟨?_,h.1⟩
 rcases Nat.lt_or_ge i s.length with h1|h1
 ·exact h1
 ·rw[List.getElem?_eq_none h1]at h;cases h.2
def nx(i:Nat)(b:Bool):Nat:=if b=true then i+1 else i
theorem nx_t(i:Nat):nx i true=i+1:=rfl
theorem nx_f(i:Nat):nx i false=i:=rfl
def wc(b:UInt8):Bool:=dig (b.toNat:Int)||sml (b.toNat:Int)
theorem tw_len(w:Str):(w.takeWhile wc).length<=w.length:=List.Sublist.length_le (List.takeWhile_sublist _)
theorem tw_take(w:Str):w.take (w.takeWhile wc).length=w.takeWhile wc:=by
 have:=List.takeWhile_prefix (p:=wc) (l:=w)
 exact(List.prefix_iff_eq_take.1 this).symm
theorem name_wc{s:Str}(h:nNm s=true):∀b∈s,wc b=true:=by
 unfold nNm at h
 simp only[Bool.and_eq_true]at h
 have h1:=h.1
 intro b hb
 obtain⟨i,hi,rfl⟩:=List.getElem_of_mem hb
 have key:∀(k a:Nat),allF (fun i=>sml (chr s i)||(i !=0&&dig (chr s i))) a k=true->∀j,a<=j->j<a+k->(sml (chr s j)||(j !=0&&dig (chr s j)))=true:=by
  intro k
  induction k with
  |zero=>intro a _ j _ _;omega
  |succ k ih=>
   intro a h j hj hj2
   simp only[allF,Bool.and_eq_true]at h
   by_cases e:j=a
   ·subst e;exact h.1
   ·exact ih (a+1) h.2 j (by omega) (by omega)
 have h2:=key _ _ h1 i (by omega) (by omega)
 have hch:chr s (i:Int)=((s[i]).toNat:Int):=by
  unfold chr
  rw[Int.toNat_natCast,List.getD_eq_getElem?_getD,List.getElem?_eq_getElem hi]
  rfl
 rw[hch]at h2
 unfold wc
 cases hs:sml ((s[i]).toNat:Int)with
 |true=>simp
 |false=>
  rw[hs]at h2
  simp only[Bool.false_or,Bool.and_eq_true]at h2
  rw[h2.2];rfl
theorem tw_name{l w:Str}(h:nNm l=true):(l++58::w).takeWhile wc=l:=by
 rw[List.takeWhile_append_of_pos (name_wc h)]
 have:wc 58=false:=by decide
 rw[List.takeWhile_cons,this]
 simp
end Go.Q
