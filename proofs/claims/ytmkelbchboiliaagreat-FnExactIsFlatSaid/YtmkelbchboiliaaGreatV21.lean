/- Flat queries: both sides find the same ones right. -/
import Derived.Test.YtmkelbchboiliaaGreatV17
import Derived.Test.YtmkelbchboiliaaGreatV20
set_option linter.unusedVariables false
set_option linter.unusedSimpArgs false
set_option maxHeartbeats 2000000
namespace Go.Q
def colOk(s:Schema)(cx:List Typing)(e:Tm)(u:Ty):Bool:=if u.kind=4 then zeroT e else hB s cx e u.kind
theorem zCol_at(x:FComp){i:Nat}(hi:i<x.cols.length):1+zTm (gt x.cols (i:Int) Tm.zero)<=zFComp x:=by
 have:=szL_at zTm x.cols hi Tm.zero
 have:=zFComp_f x
 omega
theorem p_l19Gens(nf:Nat)(hn:200000000<nf)(s:Schema)(hS:8*zSchema s+1<nf)(hSb:zSchema s<=16777216)(hR:∀x∈s.tables,nVal x.row=true)(x:FComp)(t:Ty)(hg:∀g∈x.gens,g.var.length<=16777216)(hl:x.gens.length<=4000000):
  m_ZbA nf s x t=match gC s [] x.gens with
   |none=>some false
   |some c=>j31_ZbA nf c s x t:=by
 have key:∀k i m (ctx:List Typing),i+k=x.gens.length->k<m->ctx.length<=i->(∀x∈ctx,nVal x.type=true)->l8_ZbA nf m s x t ctx (i:Int)=match gC s ctx (x.gens.drop i)with
   |none=>some false
   |some c=>j31_ZbA nf c s x t:=by
  intro k
  induction k with
  |zero=>
   intro i m ctx hi hm _ _
   obtain⟨m,rfl⟩:∃m',m=m'+1:=⟨m-1,by omega⟩
   have c0:¬(i:Int)<(x.gens.length:Int):=by omega
   rw[l8_ZbA_eq,br_neg c0,List.drop_eq_nil_of_le (by omega),mark_eq]
   rfl
  |succ k ih=>
   intro i m ctx hi hm hc hx
   obtain⟨m,rfl⟩:∃m',m=m'+1:=⟨m-1,by omega⟩
   have hil:i<x.gens.length:=by omega
   have c0:(i:Int)<(x.gens.length:Int):=by omega
   have c1:0<=(i:Int)∧(i:Int)<(x.gens.length:Int):=by omega
   have hv:=hg _ (gt_mem x.gens hil Gen.zero)
   rw[l8_ZbA_eq,br_pos c0,gg_pos c1,p_specRowType nf s _ hS hSb,cb_some,gg_pos c1,p_specLook nf ctx _ (fun j hj=>by have:=val_z (hx _ (gt_mem ctx hj Typing.zero));omega) (by omega) hn,cb_some,gg_pos c1,p_specName nf _ (by omega) (by omega),cb_some,drop_gt x.gens hil Gen.zero]
   have h24t:∀r,j24_ZbA nf m ctx (i:Int) s x t r true=some false:=fun r=>by rw[j24_ZbA_eq,br_true]
   simp only[gC,mark_eq,h24t]
   cases hr:rowO (gt x.gens (i:Int) Gen.zero).table s.tables with
   |none=>rfl
   |some row=>
    simp only[Option.bind_some,ansO,Bool.not_true,br_ff2]
    change br (inC (gt x.gens (i:Int) Gen.zero).var ctx==false) _ _=_
    cases hb:inC (gt x.gens (i:Int) Gen.zero).var ctx with
    |true=>rfl
    |false=>
     cases hn2:nNm (gt x.gens (i:Int) Gen.zero).var with
     |false=>rw[Bool.not_false,br_ff2,h24t];rfl
     |true=>
      rw[Bool.not_true,br_ff2,j24_ZbA_eq,br_false,gg_pos c1,Ty.h_eq,p_l10With nf ctx _ _ (by omega),cb_some,mark_eq,w64_nat (n:=i) (by omega)]
      refine ih (i+1) m (ctx++[⟨(gt x.gens (i:Int) Gen.zero).var,row⟩]) (by omega) (by omega) (by simp;omega) fun y hym=> ?_
      rcases List.mem_append.1 hym with hym|hym
      ·exact hx y hym
      ·rw[List.mem_singleton]at hym
       subst hym
       obtain⟨z,hz,hzr⟩:=rowO_some hr
       rw[<-hzr];exact hR z hz
 rw[m_ZbA_eq,mark_eq]
 exact key x.gens.length 0 nf [] (by omega) (by omega) (by simp) (fun x hx=>by cases hx)
theorem gt_map2{α β:Type}(f:α->β)(xs:List α){i:Nat}(z:α)(d:β)(h:i<xs.length):gt (xs.map f) (i:Int) d=f (gt xs (i:Int) z):=by
 rw[gt_at xs i h,gt_at (xs.map f) i (by simpa using h),List.getElem_map]
theorem p_l19Col(nf:Nat)(hn:200000000<nf)(s:Schema)(hS:8*zSchema s+1<nf)(hSb:zSchema s<=16777216)(hR:∀x∈s.tables,nVal x.row=true)(cx:List Typing)(hc:∀x∈cx,nVal x.type=true)(hl:cx.length<=4000000)(e:Tm)(he:8*zTm e+3<nf)(heb:zTm e<=1048576)(u:Ty)(hv:nVal u=true)(h5:nHas 5 u=false)(h3:u.kind≠3):m_Zbz nf s cx e u=some (colOk s cx e u):=by
 have b4:(u.kind==(4:Int))=decide (u.kind=4):=rfl
 rw[m_Zbz_eq,b4,Tm.h_eq,Ty.h_eq]
 unfold colOk
 by_cases h4:u.kind=4
 ·rw[decide_eq_true h4,br_true,if_pos h4,p_specZero nf e (by omega) (by omega),cb_some]
 ·rw[decide_eq_false h4,br_false,if_neg h4]
  obtain⟨k,hk,rfl⟩:=base_is hv h3 h4 h5
  rw[p_specHas nf hn s hS hSb hR cx hc hl e k hk (by omega) (by omega),cb_some]
  rfl
theorem p_flatComp(nf:Nat)(hn:200000000<nf)(s:Schema)(hS:8*zSchema s+1<nf)(hSb:zSchema s<=16777216)(hR:∀x∈s.tables,nVal x.row=true)(x:FComp)(t:Ty)(hx:8*zFComp x+3<nf)(hxb:zFComp x<=1048576)(hv:nVal t=true)(h5:nHas 5 t=false):Agree (m_ZB nf s x t) (m_ZbA nf s x t):=by
 have hz:=zFComp_f x
 have hgl:x.gens.length<=szL zGen x.gens:=by unfold szL;omega
 have hcl:x.cols.length<=szL zTm x.cols:=by unfold szL;omega
 have hgv:∀g∈x.gens,g.var.length<=16777216:=fun g hgm=>by
  obtain⟨j,hj,rfl⟩:=List.getElem_of_mem hgm
  have:=szL_at zGen x.gens hj Gen.zero
  rw[gt_at x.gens j hj]at this
  have:=zGen_f x.gens[j]
  omega
 have hzt:=val_z hv
 have hsz:nSz t<=24:=by simp only[nVal,Bool.and_eq_true,decide_eq_true_eq]at hv;exact hv.1
 obtain⟨r,er,⟨g1,g2⟩,_⟩:=p_genCtx nf hn s hS hSb x.gens hgv (by omega)
 have el:=p_leavesOf nf nf t [] [] (by omega) (by omega) (by omega) (val_form hv) (by simp;omega) (by simp;omega)
 rw[List.nil_append]at el
 have es:=p_specLeaves nf t (by omega) (by omega) hv h5
 have hll:=nLv_len t []
 have i5t:j5_ZB nf x t s true=some false:=by rw[j5_ZB_eq,br_true]
 have i5f:=j5_ZB_eq nf x t s false
 rw[br_false,er,cb_some,el,cb_some]at i5f
 have im:=m_ZB_eq nf s x t
 have sm:=p_l19Gens nf hn s hS hSb hR x t hgv (by omega)
 cases hg:gC s [] x.gens with
 |none=>
  rw[hg]at sm g1
  refine⟨false,?_,sm⟩
  rw[g1]at i5f
  have i5:∀b,j5_ZB nf x t s b=some false:=fun b=>by
   cases b
   ·rw[i5f,show((!(none:Option (List Typing)).isSome)==false)=false from rfl,br_false,mark_eq,j17_ZB_eq,br_true]
   ·exact i5t
  rw[im]
  simp only[i5,mark_eq]
  cases decide (x.outer<0)<;>cases decide (x.tag<=x.outer)<;>cases decide (x.outerGens<0)<;>rfl
 |some cx=>
  have hr:r=(cx,true):=Prod.ext (g2 cx hg) (by rw[g1,hg];rfl)
  subst hr
  rw[hg]at sm
  have sm2:m_ZbA nf s x t=j31_ZbA nf cx s x t:=sm
  obtain⟨v1,v2⟩:=gC_val hR hg (fun y hy=>by cases hy)
  simp only[List.length_nil]at v2
  have e1:=p_implHas nf hn s hS hSb hR cx v1 (by omega) x.whr 2 (by omega) (by omega)
  have e2:=p_specHas nf hn s hS hSb hR cx v1 (by omega) x.whr 2 (.inr rfl) (by omega) (by omega)
  have lok:∀i,i<(nLv t []).length->atF t (gt (nLv t []) (i:Int) ([],Ty.zero)).1=((gt (nLv t []) (i:Int) ([],Ty.zero)).2,true)∧(gt (nLv t []) (i:Int) ([],Ty.zero)).1.length<=24∧nVal (gt (nLv t []) (i:Int) ([],Ty.zero)).2=true∧nHas 5 (gt (nLv t []) (i:Int) ([],Ty.zero)).2=false∧(gt (nLv t []) (i:Int) ([],Ty.zero)).2.kind≠3:=fun i hi=>by
   obtain⟨q,q1,q2,q3,q4,q5,q6⟩:=lv_ok 24 t [] _ hsz (gt_mem (nLv t []) hi ([],Ty.zero)) hv h5
   rw[List.nil_append]at q1
   refine⟨?_,by rw[q1];exact q2,q4,q5,q6⟩
   unfold atF
   rw[if_pos hv,q1,q3]
   rfl
  have hl:x.cols.length=(nLv t []).length->Agree (l26_ZB nf nf x (cx,true) ((nLv t []).map lf,()) s (0:Int)) (l45_ZbA nf nf cx ((nLv t []).map (·.1)) s x t (0:Int)):=fun hc=>by
   have hlen:((nLv t []).map lf).length=(nLv t []).length:=List.length_map _
   have hlen2:((nLv t []).map (·.1)).length=(nLv t []).length:=List.length_map _
   have:=agree_all (fun m i=>l26_ZB nf m x (cx,true) ((nLv t []).map lf,()) s i) (fun m i=>l45_ZbA nf m cx ((nLv t []).map (·.1)) s x t i) (nLv t []).length nf (fun i=>colOk s cx (gt x.cols (i:Int) Tm.zero) (gt (nLv t []) (i:Int) ([],Ty.zero)).2) true (fun m i hi=> ?_) (fun m i hi=> ?_) (fun m i hi=> ?_) (fun m i hi=> ?_) (by omega)
   ·exact⟨_,this.1,by rw[this.2,Bool.and_true]⟩
   ·obtain⟨_,_,k1,k2,k3⟩:=lok i hi
    have hzc:=zCol_at x (i:=i) (by omega)
    have c0:(i:Int)<(((nLv t []).map lf).length:Int):=by omega
    have c1:0<=(i:Int)∧(i:Int)<(((nLv t []).map lf).length:Int):=by omega
    have c2:0<=(i:Int)∧(i:Int)<(x.cols.length:Int):=by omega
    have i39:∀b,j39_ZB nf m x (cx,true) ((nLv t []).map lf,()) (i:Int) s b=br b (some false) (l26_ZB nf m x (cx,true) ((nLv t []).map lf,()) s ((i+1:Nat):Int)):=fun b=>by rw[j39_ZB_eq,mark_eq,w64_nat (n:=i) (by omega)]
    rw[l26_ZB_eq]
    dsimp only
    rw[br_pos c0,gg_pos c1,gt_map2 lf (nLv t []) ([],Ty.zero) Leaf.zero hi]
    dsimp only[lf]
    rw[Option.bind_some]
    generalize (gt (nLv t []) (i:Int) ([],Ty.zero)).2=u at k1 k2 k3⊢
    have b4:(u.kind==(4:Int))=decide (u.kind=4):=rfl
    simp only[Option.bind_some,b4]
    rw[gg_pos c2,gg_pos c2,p_implZero nf _ (by omega) (by omega),cb_some,p_implHas nf hn s hS hSb hR cx v1 (by omega) _ u.kind (by omega) (by omega),cb_some]
    simp only[i39,mark_eq]
    unfold colOk
    by_cases h4:u.kind=4
    ·rw[decide_eq_true h4,if_pos h4]
     cases zeroT (gt x.cols (i:Int) Tm.zero)<;>rfl
    ·rw[decide_eq_false h4,if_neg h4]
     cases hB s cx (gt x.cols (i:Int) Tm.zero) u.kind<;>rfl
   ·have c0:¬(i:Int)<(((nLv t []).map lf).length:Int):=by omega
    rw[l26_ZB_eq]
    dsimp only
    rw[br_neg c0]
   ·obtain⟨k0,kl,k1,k2,k3⟩:=lok i hi
    have hzc:=zCol_at x (i:=i) (by omega)
    have c0:(i:Int)<(((nLv t []).map (·.1)).length:Int):=by omega
    have c1:0<=(i:Int)∧(i:Int)<(((nLv t []).map (·.1)).length:Int):=by omega
    have c2:0<=(i:Int)∧(i:Int)<(x.cols.length:Int):=by omega
    rw[l45_ZbA_eq,br_pos c0,gg_pos c1,gt_map2 (·.1) (nLv t []) ([],Ty.zero) ([]:List Str) hi,Ty.h_eq,p_specTypeAt nf t _ (by omega) (by omega) (by omega) (by omega),cb_some,k0,gg_pos c2]
    dsimp only
    rw[Ty.h_eq,p_l19Col nf hn s hS hSb hR cx v1 (by omega) _ (by omega) (by omega) _ k1 k2 k3,cb_some,mark_eq,w64_nat (n:=i) (by omega)]
    cases colOk s cx (gt x.cols (i:Int) Tm.zero) (gt (nLv t []) (i:Int) ([],Ty.zero)).2<;>rfl
   ·have c0:¬(i:Int)<(((nLv t []).map (·.1)).length:Int):=by omega
    rw[l45_ZbA_eq,br_neg c0]
  have i17:∀b,j17_ZB nf x (cx,true) ((nLv t []).map lf,()) s b=br b (some false) (l26_ZB nf nf x (cx,true) ((nLv t []).map lf,()) s (0:Int)):=fun b=>by rw[j17_ZB_eq,mark_eq]
  have s36:∀b,j36_ZbA nf cx ((nLv t []).map (·.1)) s x t b=br b (some false) (l45_ZbA nf nf cx ((nLv t []).map (·.1)) s x t (0:Int)):=fun b=>by rw[j36_ZbA_eq,mark_eq]
  have s31:=j31_ZbA_eq nf cx s x t
  simp only[Ty.h_eq,Tm.h_eq,es,cb_some,p_l1In,m_ZbF_eq,e2,s36,mark_eq,List.length_map]at s31
  simp only[e1,cb_some,i17,mark_eq,List.length_map]at i5f
  rw[sm2,s31,im]
  have i5:∀b,j5_ZB nf x t s b=br b (some false) (j5_ZB nf x t s false):=fun b=>by
   cases b
   ·rw[br_false]
   ·rw[br_true,i5t]
  rw[i5 true,i5 (decide _),i5f]
  have d1:decide ((0:Int)<=x.outerGens)= !decide (x.outerGens<0):=dec_not (by omega)
  have d2:decide (x.outerGens<=(x.gens.length:Int))= !decide ((x.gens.length:Int)<x.outerGens):=dec_not (by omega)
  rw[d1,d2]
  have hl2:((x.cols.length:Int)==((nLv t []).length:Int))=true->Agree (l26_ZB nf nf x (cx,true) ((nLv t []).map lf,()) s (0:Int)) (l45_ZbA nf nf cx ((nLv t []).map (·.1)) s x t (0:Int)):=fun h=>hl (by
   have:(x.cols.length:Int)=((nLv t []).length:Int):=by simpa using h
   omega)
  generalize ((x.cols.length:Int)==((nLv t []).length:Int))=C at hl2⊢
  generalize decide (x.outer<0)=A
  generalize decide (x.tag<=x.outer)=B
  generalize decide (x.outerGens<0)=D
  generalize decide ((x.gens.length:Int)<x.outerGens)=E
  generalize hB s cx x.whr 2=H
  cases A
  ·cases B
   ·cases D
    ·cases E
     ·cases H
      ·exact⟨false,rfl,rfl⟩
      ·cases C
       ·exact⟨false,rfl,rfl⟩
       ·exact hl2 rfl
     ·exact⟨false,rfl,rfl⟩
    ·exact⟨false,rfl,rfl⟩
   ·exact⟨false,rfl,rfl⟩
  ·exact⟨false,rfl,rfl⟩
end Go.Q
