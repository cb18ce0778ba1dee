/- The laws of paths: counted bags, leaves, drawn paths, their texts. -/
import Derived.Test.YteidofmblfglkaaD30
import Derived.Test.YteidofmblfglkaaD31
import Derived.Test.YteidofmblfglkaaD5
import Derived.Test.YteidofmblfglkaaJn
set_option linter.unusedVariables false
set_option linter.unusedSimpArgs false
set_option maxHeartbeats 1000000
namespace Go.Q
open Go.Proofs Go.RowKit
mutual
theorem nCnt_le:∀t:Ty,nCnt t<=nSz t
 | .mk k ls c=>by
  have h:=nCntL_le c
  simp only[nCnt,nSz,bagBit1]
  split<;>omega
theorem nCntL_le:∀ts:List Ty,nCntL ts<=nSzL ts
 | []=>by simp[nCntL,nSzL]
 |t::ts=>by
  have h1:=nCnt_le t
  have h2:=nCntL_le ts
  simp only[nCntL,nSzL];omega
end
theorem p_bit(nf:Nat)(k:Int):m_Zaa nf (k==(4:Int))=some ((bagBit1 k:Nat):Int):=by
 have b4:(k==(4:Int))=decide (k=4):=rfl
 rw[m_Zaa_eq,b4]
 unfold bagBit1
 by_cases h4:k=4
 ·rw[br_pos h4,if_pos h4];rfl
 ·rw[br_neg h4,if_neg h4];rfl
theorem p_count(nf:Nat):∀(kf:Nat) (t:Ty),8*zTy t+1<kf->8*zTy t+1<nf->zTy t<=16777216->m_ZI nf kf t=some (nCnt t:Int)
 |0,t,h,_,_=>absurd h (Nat.not_lt_zero _)
 |kf+1,t,h,h',hb=>by
  have hz:=zTy_f t
  have l2:t.args.length<=szL zTy t.args:=by unfold szL;omega
  have hc:=nCnt_eq t
  have hn:=nSz_le t
  have hns:=nSz_eq t
  have hb1:bagBit1 t.kind<=1:=by unfold bagBit1;split<;>omega
  have e0:((bagBit1 t.kind+nCntL (t.args.take 0):Nat):Int)=(bagBit1 t.kind:Int):=by simp[nCntL]
  rw[m_ZI_eq,p_bit,cb_some,mark_eq,hc,<-e0]
  refine for_loop (fun m i s=>l8_ZI nf (kf+1) m t s i) t.args.length (fun i=>((bagBit1 t.kind+nCntL (t.args.take i):Nat):Int)) (some ((bagBit1 t.kind+nCntL t.args:Nat):Int)) (fun m i hi=> ?_) (fun m=> ?_) nf (by omega)
  ·have c0:(i:Int)<(t.args.length:Int):=by omega
   have c1:0<=(i:Int)∧(i:Int)<(t.args.length:Int):=by omega
   have hs:=szL_at zTy t.args hi Ty.zero
   have e:=p_count nf kf (gt t.args (i:Int) Ty.zero) (by omega) (by omega) (by omega)
   have htk:=nCntL_take t.args hi
   have hle:=nSzL_le t.args (i+1)
   have hcl:=nCntL_le (t.args.take (i+1))
   rw[l8_ZI_eq,br_pos c0,gg_pos c1,e,cb_some,mark_eq,w64_nat (n:=i) (by omega),w64_id (by omega) (by omega)]
   congr 1
   omega
  ·have c0:¬(t.args.length:Int)<(t.args.length:Int):=by omega
   rw[l8_ZI_eq,br_neg c0,List.take_length]
def bgs(t:Ty):List (List Str):=if(nVal t&& !nHas 5 t)=true then nBags t []else []
def lfp(t:Ty):List (List Str):=if(nVal t&& !nHas 5 t)=true then(nLv t []).map (·.1)else []
theorem val_sz{t:Ty}(h:nVal t=true):nSz t<=24:=by simp only[nVal,Bool.and_eq_true,decide_eq_true_eq]at h;exact h.1
theorem p_implLeaves(nf:Nat)(t:Ty)(h:8*zTy t+1<nf)(hb:zTy t<=16777216)(hn:1000<nf):m_Zj nf t=some (lfp t):=by
 rw[m_Zj_eq,p_implData nf t h hb,cb_some]
 unfold lfp
 cases hv:(nVal t&& !nHas 5 t)with
 |false=>rfl
 |true=>
  have hv1:nVal t=true:=by simp only[Bool.and_eq_true]at hv;exact hv.1
  have hs:=val_sz hv1
  have hl:=nLv_len t []
  rw[Bool.not_true,br_false,p_leavesOf nf nf t [] [] h h hb (val_form hv1) (by simp;omega) (by simp;omega),cb_some,mark_eq,if_pos rfl]
  rw[List.nil_append]
  have hm:((nLv t []).map lf).length=(nLv t []).length:=List.length_map ..
  have e1:(nLv t []).map (·.1)=((nLv t []).map lf).map (·.path):=by rw[List.map_map];rfl
  rw[e1]
  generalize hq:(nLv t []).map lf=ms at*
  refine for_loop (fun m i s=>l16_Zj nf m (ms,()) i s) ms.length (fun i=>(ms.take i).map (·.path)) (some (ms.map (·.path))) (fun m i hi=> ?_) (fun m=> ?_) nf (by omega)
  ·have c0:(i:Int)<(ms.length:Int):=by omega
   have c1:0<=(i:Int)∧(i:Int)<(ms.length:Int):=by omega
   rw[l16_Zj_eq]
   dsimp only
   rw[br_pos c0,gg_pos c1,gg_pos (by simp;omega),mark_eq,w64_nat (n:=i) (by omega),<-take_gt ms hi Leaf.zero,List.map_append]
   rfl
  ·have c0:¬(ms.length:Int)<(ms.length:Int):=by omega
   rw[l16_Zj_eq]
   dsimp only
   rw[br_neg c0,List.take_length]
theorem p_specLeaves'(nf:Nat)(t:Ty)(h:8*zTy t+1<nf)(hb:zTy t<=16777216):m_ZT nf t=some (lfp t):=by
 unfold lfp
 cases hv:(nVal t&& !nHas 5 t)with
 |false=>
  rw[m_ZT_eq,Ty.h_eq,p_specData nf t h hb,cb_some,hv]
  rfl
 |true=>
  simp only[Bool.and_eq_true,Bool.not_eq_true']at hv
  rw[if_pos rfl]
  exact p_specLeaves nf t h hb hv.1 hv.2
theorem gt_len(ls:List Str)(i:Nat):(gt ls (i:Int) ([]:Str)).length<=szL List.length ls:=by
 by_cases h:i<ls.length
 ·have:=szL_at List.length ls h ([]:Str)
  omega
 ·have:gt ls (i:Int) ([]:Str)=[]:=by simp[gt,List.getElem?_eq_none (Nat.le_of_not_lt h)]
  rw[this];simp
theorem bag_z:∀(n:Nat) (t:Ty) (p x:List Str),nSz t<=n->x∈nBags t p->szL List.length x<=szL List.length p+2*zTy t
 |0,t,p,x,hn,_=>by
  have:=nSz_eq t
  omega
 |n+1,t,p,x,hn,hx=>by
  rw[nBags_eq,List.mem_append]at hx
  rcases hx with hx|hx
  ·split at hx
   ·rw[List.mem_singleton]at hx
    subst hx
    omega
   ·cases hx
  ·obtain⟨i,hi,h2⟩:=nBagsL_mem _ _ _ _ _ _ hx
   rw[Nat.zero_add]at h2
   have hs:=nSz_at t.args hi
   have he:=nSz_eq t
   have ih:=bag_z n _ _ x (by omega) h2
   have hz:=szL_at zTy t.args hi Ty.zero
   have hf:=zTy_f t
   have hst:(stp t.kind t.labels i).length<=1+szL List.length t.labels:=by
    by_cases h3:t.kind=3
    ·rw[stp_rec h3]
     have:=gt_len t.labels i
     omega
    ·rw[stp_bag h3];simp
   rw[szL_snoc]at ih
   omega
theorem lv_z:∀(n:Nat) (t:Ty) (p:List Str) (x:List Str×Ty),nSz t<=n->x∈nLv t p->szL List.length x.1<=szL List.length p+2*zTy t
 |0,t,p,x,hn,_=>by
  have:=nSz_eq t
  omega
 |n+1,t,p,x,hn,hx=>by
  rw[nLv_eq]at hx
  by_cases h3:t.kind=3
  ·rw[if_pos h3]at hx
   obtain⟨i,hi,h2⟩:=nLvL_mem _ _ _ _ _ hx
   rw[Nat.zero_add]at h2
   have hs:=nSz_at t.args hi
   have he:=nSz_eq t
   have ih:=lv_z n _ _ x (by omega) h2
   have hz:=szL_at zTy t.args hi Ty.zero
   have hf:=zTy_f t
   have hst:=gt_len t.labels i
   rw[szL_snoc]at ih
   omega
  ·rw[if_neg h3,List.mem_singleton]at hx
   subst hx
   dsimp only
   omega
theorem all_z(t:Ty)(x:List Str)(h:x∈bgs t++lfp t):szL List.length x<=2*zTy t:=by
 rw[List.mem_append]at h
 rcases h with h|h
 ·unfold bgs at h
  split at h
  ·have:=bag_z _ t [] x (Nat.le_refl _) h
   simpa[szL]using this
  ·cases h
 ·unfold lfp at h
  split at h
  ·obtain⟨y,hy,rfl⟩:=List.mem_map.1 h
   have:=lv_z _ t [] y (Nat.le_refl _) hy
   simpa[szL]using this
  ·cases h
theorem bgs_len(t:Ty):(bgs t).length<=24:=by
 unfold bgs
 split
 ·rename_i h
  simp only[Bool.and_eq_true]at h
  have h1:=val_sz h.1
  have h2:=nBags_cnt t []
  have h3:=nCnt_le t
  omega
 ·simp
theorem lfp_len(t:Ty):(lfp t).length<=24:=by
 unfold lfp
 split
 ·rename_i h
  simp only[Bool.and_eq_true]at h
  have h1:=val_sz h.1
  have h2:=nLv_len t []
  rw[List.length_map]
  omega
 ·simp
theorem p_drawAt(nf:Nat)(hn:1048577<nf)(code:List Int)(hb:code.length<=1048576):∃t p,m_ZM nf code=some (t,p)∧zTy t<=200∧szL List.length p<=400:=by
 obtain⟨x,e⟩:=p_l1New nf code (by omega) hb
 obtain⟨t,i1,h1,e1,ei1,ht⟩:=p_l3Bent nf (by omega) hb 0 x (by decide)
 have l1:=bgs_len t
 have l2:=lfp_len t
 have eb:m_ZH nf t=some (bgs t):=p_specBagPaths nf t (by omega) (by omega)
 have base:∀i h,0<=i->∃t' p,j11_ZM nf (t,(code,i1,h1,())) (bgs t) (lfp t) true code i h=some (t',p)∧zTy t'<=200∧szL List.length p<=400:=by
  intro i h hi
  obtain⟨s,i2,h2,e2,ei2,hs⟩:=p_l1Pick nf hb [[33],[97],[113]] i h (by decide) (by decide) hi
  have hl:s.length<=2:=by
   simp only[List.mem_cons,List.not_mem_nil,or_false]at hs
   rcases hs with rfl|rfl|rfl<;>decide
  refine⟨t,[s],?_,ht,by rw[szL_one];omega⟩
  rw[j11_ZM_eq,br_true,e2,cb_some]
  dsimp only
  rw[Ty.h_eq]
 rw[m_ZM_eq,e,cb_some]
 dsimp only
 rw[e1,cb_some]
 dsimp only
 rw[Ty.h_eq,eb,cb_some,p_specLeaves' nf t (by omega) (by omega),cb_some,gg_pos (by omega)]
 by_cases c:((bgs t++lfp t).length:Int)=0
 ·have e0:((((bgs t++lfp t).length:Int)==(0:Int))==false)=false:=by rw[beq_iff_eq.2 c];rfl
  rw[e0,br_false,mark_eq]
  exact base i1 h1 ei1
 ·have e0:((((bgs t++lfp t).length:Int)==(0:Int))==false)=true:=by rw[beq_eq_false_iff_ne.2 c];rfl
  obtain⟨q,i2,h2,e2,ei2,_⟩:=p_l1Once nf hb 4 i1 h1 (by decide) (by decide) ei1
  rw[e0,br_true,e2,cb_some,mark_eq]
  dsimp only
  cases q with
  |true=>exact base i2 h2 ei2
  |false=>
   have la:(bgs t++lfp t).length<=48:=by rw[List.length_append];omega
   obtain⟨r,i3,h3,e3,ei3,r0,r1⟩:=p_l1Below nf hb ((bgs t++lfp t).length:Int) i2 h2 (by omega) (by omega) ei2
   refine⟨t,gt (bgs t++lfp t) r ([]:List Str),?_,ht,?_⟩
   ·rw[j11_ZM_eq,br_false,e3,cb_some,gg_pos ⟨r0,r1⟩]
    dsimp only
    rw[Ty.h_eq]
   ·obtain⟨k,rfl⟩:=Int.eq_ofNat_of_zero_le r0
    have hk:k<(bgs t++lfp t).length:=by omega
    rw[gt_at _ k hk]
    have:=all_z t _ (List.getElem_mem hk)
    omega
theorem p_drawEq(nf:Nat)(hn:1048577<nf)(code:List Int)(hb:code.length<=1048576):∃a b,m_ZL nf code=some (a,b)∧szL List.length a<=400∧szL List.length b<=400:=by
 obtain⟨t,p,e,ht,hp⟩:=p_drawAt nf hn code hb
 obtain⟨x,e1⟩:=p_l1New nf code (by omega) hb
 obtain⟨q,i2,h2,e2,ei2,_⟩:=p_l1Once nf hb 2 0 x (by decide) (by decide) (by decide)
 have hl:p.length<=szL List.length p:=by unfold szL;omega
 rw[m_ZL_eq,e,cb_some,e1,cb_some]
 dsimp only
 rw[e2,cb_some]
 dsimp only
 cases q with
 |true=>
  rw[br_true,gg_pos (by omega)]
  exact⟨p,p,rfl,hp,hp⟩
 |false=>
  obtain⟨xs,i3,h3,e3,ei3,hx⟩:=p_l2List nf (by omega) hb i2 h2 ei2
  rw[br_false,e3,cb_some]
  exact⟨p,xs,rfl,hp,by omega⟩
theorem szL_cons{α:Type}(f:α->Nat)(x:α)(xs:List α):szL f (x::xs)=1+f x+szL f xs:=by
 simp only[szL,List.length_cons,List.map_cons,List.sum_cons];omega
theorem join_len(sep:Str)(h:sep.length<=1):∀xs:List Str,(Lib.join xs sep).length<=szL List.length xs
 | []=>by simp[Lib.join_nil]
 |x::xs=>by
  have key:∀ys:List Str,(Lib.joinTail sep ys).length<=szL List.length ys:=by
   intro ys
   induction ys with
   |nil=>simp[Lib.joinTail]
   |cons y ys ih=>
    simp only[Lib.joinTail,List.map_cons,List.flatten_cons,List.length_append]at ih⊢
    rw[szL_cons]
    omega
  rw[Lib.join_cons,List.length_append,szL_cons]
  have:=key xs
  omega
theorem join_snoc(sep x:Str):∀xs:List Str,Lib.join (xs++[x]) sep=if xs=[]then x else Lib.join xs sep++sep++x
 | []=>by simp[Lib.join_one]
 |y::xs=>by
  rw[List.cons_append,Lib.join_cons,Lib.join_cons,if_neg (by simp)]
  simp[Lib.joinTail]
theorem join_take(sep:Str)(xs:List Str){i:Nat}(h:i<xs.length)(z:Str):Lib.join (xs.take (i+1)) sep=if i=0 then gt xs (i:Int) z else Lib.join (xs.take i) sep++sep++gt xs (i:Int) z:=by
 rw[<-take_gt xs h z,join_snoc]
 by_cases h0:i=0
 ·subst h0;simp
 ·rw[if_neg h0,if_neg]
  intro e
  have:=congrArg List.length e
  rw[List.length_take]at this
  simp only[List.length_nil]at this
  omega
theorem intsOf_append(s t:Str):intsOf (s++t)=intsOf s++intsOf t:=by simp[intsOf]
theorem ints_len(s:Str):(intsOf s).length=s.length:=by simp[intsOf]
theorem szL_take{α:Type}(f:α->Nat)(a:List α)(i:Nat):szL f (a.take i)<=szL f a:=by
 have:=pfx_le f a i
 simp only[szL,pfx,List.length_take]at this⊢
 omega
theorem p_specJoin(nf:Nat)(xs:List Str)(sep:Str)(hs:sep.length<=1)(h:szL List.length xs<=1000000)(hn:1000001<nf):m_ZS nf xs sep=some (Lib.join xs sep):=by
 have hl:xs.length<=szL List.length xs:=by unfold szL;omega
 rw[m_ZS_eq,mark_eq]
 have:=for_loop (fun m i s=>l8_ZS nf m xs sep i s) xs.length (fun i=>intsOf (Lib.join (xs.take i) sep)) (some (Lib.join xs sep)) (fun m i hi=> ?_) (fun m=> ?_) nf (by omega)
 ·simpa[Lib.join_nil,intsOf]using this
 ·have c0:(i:Int)<(xs.length:Int):=by omega
  have c1:0<=(i:Int)∧(i:Int)<(xs.length:Int):=by omega
  have hj:=join_len sep hs (xs.take i)
  have ht:=szL_take List.length xs i
  have hg:=szL_at List.length xs hi ([]:Str)
  have hil:=ints_len
  rw[l8_ZS_eq,br_pos c0,join_take sep xs hi ([]:Str)]
  by_cases h0:i=0
  ·subst h0
   rw[br_neg (by omega),mark_eq,j23_ZS_eq,gg_pos c1,gg_pos (by rw[hil];omega),mark_eq,w64_nat (n:=0) (by omega),if_pos rfl]
   simp[Lib.join_nil,intsOf]
  ·rw[br_pos (by omega),gg_pos (by rw[hil];omega),mark_eq,j23_ZS_eq,gg_pos c1,gg_pos (by rw[List.length_append,hil,hil];omega),mark_eq,w64_nat (n:=i) (by omega),if_neg h0,intsOf_append,intsOf_append]
 ·have c0:¬(xs.length:Int)<(xs.length:Int):=by omega
  rw[l8_ZS_eq,br_neg c0,List.take_length,bytes_ints]
theorem p_pathText(nf:Nat)(xs:List Str)(h:szL List.length xs<=1000000)(hn:1000001<nf):∃s,m_ZU nf xs=some s∧m_Zk nf xs=some s:=by
 have hl:xs.length<=szL List.length xs:=by unfold szL;omega
 have hj:=join_len [46] (by decide) xs
 by_cases c:((xs.length:Int)==(0:Int))=true
 ·exact⟨[45],by rw[m_ZU_eq,c,br_true],by rw[m_Zk_eq,c,br_true]⟩
 ·have c':((xs.length:Int)==(0:Int))=false:=by simpa using c
  refine⟨Lib.join xs [46],?_,?_⟩
  ·rw[m_ZU_eq,c',br_false,p_specJoin nf xs [46] (by decide) h hn,cb_some]
  ·have e:m_Zav nf xs [46]=some (Lib.join xs [46]):=gg_pos ⟨by omega,by omega⟩ _
   rw[m_Zk_eq,c',br_false,e,cb_some]
theorem p_eqPath(nf:Nat)(a b:List Str)(h:a.length+1<nf)(hb:a.length<=16777216):m_ZN nf a b=some (eqSs a b)∧m_Ze nf a b=some (eqSs a b):=
 ⟨by rw[m_ZN_eq,p_l3Texts nf a b h hb,cb_some],by rw[m_Ze_eq,p_slEqual nf a b h hb,cb_some]⟩
end Go.Q
