/- The law of paths. -/
import Derived.Test.YteidofmblfglkaaD32
import Derived.Test.YteidofmblfglkaaC4
set_option linter.unusedVariables false
set_option linter.unusedSimpArgs false
set_option maxHeartbeats 1000000
namespace Go.Q
open Go.Proofs Go.RowKit
theorem p_sameTexts(nf:Nat)(a:List Str)(h:a.length+1<nf)(hb:a.length<=16777216):m_Zz nf a a=some true:=by
 rw[m_Zz_eq,beq_self_eq_true,Bool.not_true,br_false,mark_eq]
 refine for_loop (fun m i (_:Unit)=>l14_Zz nf m a a i) a.length (fun _=>()) (some true) (fun m i hi=> ?_) (fun m=> ?_) nf (by omega)
 ·have c0:(i:Int)<(a.length:Int):=by omega
  have c1:0<=(i:Int)∧(i:Int)<(a.length:Int):=by omega
  rw[l14_Zz_eq,br_pos c0,gg_pos c1,gg_pos c1,beq_self_eq_true,Bool.not_true,br_false,mark_eq,w64_nat (n:=i) (by omega)]
 ·have c0:¬(a.length:Int)<(a.length:Int):=by omega
  rw[l14_Zz_eq,br_neg c0]
theorem p_samePaths(nf:Nat)(a:List (List Str))(h:a.length+1<nf)(hb:a.length<=16777216)(hx:∀x∈a,x.length+1<nf∧x.length<=16777216):m_Zy nf a a=some true:=by
 rw[m_Zy_eq,beq_self_eq_true,Bool.not_true,br_false,mark_eq]
 refine for_loop (fun m i (_:Unit)=>l14_Zy nf m a a i) a.length (fun _=>()) (some true) (fun m i hi=> ?_) (fun m=> ?_) nf (by omega)
 ·have c0:(i:Int)<(a.length:Int):=by omega
  have c1:0<=(i:Int)∧(i:Int)<(a.length:Int):=by omega
  have hm:gt a (i:Int) ([]:List Str)∈a:=by rw[gt_at a i hi];exact List.getElem_mem hi
  rw[l14_Zy_eq,br_pos c0,gg_pos c1,gg_pos c1,p_sameTexts nf _ (hx _ hm).1 (hx _ hm).2,cb_some,Bool.not_true,br_false,mark_eq,w64_nat (n:=i) (by omega)]
 ·have c0:¬(a.length:Int)<(a.length:Int):=by omega
  rw[l14_Zy_eq,br_neg c0]
theorem at_bag{t:Ty}{x:List Str}(h:x∈bgs t):∃u,atF t x=(u,true)∧u.kind=4:=by
 unfold bgs at h
 split at h
 ·rename_i hv
  simp only[Bool.and_eq_true,Bool.not_eq_true']at hv
  obtain⟨r,u,e1,_,e2,e3⟩:=bag_ok _ t [] x (Nat.le_refl _) h hv.1 hv.2
  rw[List.nil_append]at e1
  subst e1
  refine⟨u,?_,e3⟩
  unfold atF
  rw[if_pos hv.1,e2]
  rfl
 ·cases h
theorem at_leaf{t:Ty}{x:List Str}(h:x∈lfp t):∃u,atF t x=(u,true)∧u.kind≠3:=by
 unfold lfp at h
 split at h
 ·rename_i hv
  simp only[Bool.and_eq_true,Bool.not_eq_true']at hv
  obtain⟨y,hy,rfl⟩:=List.mem_map.1 h
  obtain⟨r,e1,_,e2,_,_,e3⟩:=lv_ok _ t [] y (Nat.le_refl _) hy hv.1 hv.2
  rw[List.nil_append]at e1
  rw[e1]
  refine⟨y.2,?_,e3⟩
  unfold atF
  rw[if_pos hv.1,e2]
  rfl
 ·cases h
theorem path_len{t:Ty}{x:List Str}(ht:zTy t<=200)(h:x∈bgs t∨x∈lfp t):x.length<=400:=by
 have h1:=all_z t x (List.mem_append.2 h)
 have h2:x.length<=szL List.length x:=by unfold szL;omega
 omega
theorem p_tail(nf:Nat)(hn:1048577<nf)(code:List Int)(hb:code.length<=1048576):j70_Zw nf code=some true:=by
 obtain⟨t,p,e,ht,hp⟩:=p_drawAt nf hn code hb
 obtain⟨a,b,e2,ha,hb2⟩:=p_drawEq nf hn code hb
 have lp:p.length<=szL List.length p:=by unfold szL;omega
 have la:a.length<=szL List.length a:=by unfold szL;omega
 obtain⟨s,s1,s2⟩:=p_pathText nf p (by omega) (by omega)
 obtain⟨q1,q2⟩:=p_eqPath nf a b (by omega) (by omega)
 have hz:=atF_z t p
 have hq:=p_implEq nf nf (atF t p).1 (atF t p).1 (by omega) (by omega) (by omega)
 rw[eqT_self _ _ (Nat.le_refl _)]at hq
 rw[j70_Zw_eq,e,cb_some]
 dsimp only
 rw[Ty.h_eq,p_implTypeAt nf t p (by omega) (by omega) (by omega) (by omega),cb_some,p_specTypeAt nf t p (by omega) (by omega) (by omega) (by omega),cb_some,e2,cb_some]
 dsimp only
 rw[beq_self_eq_true,beq_self_eq_true,br_true,Ty.h_eq,hq,cb_some,beq_self_eq_true,br_true,s2,cb_some,s1,cb_some,beq_self_eq_true,beq_self_eq_true,br_true,q2,cb_some,q1,cb_some,beq_self_eq_true]
theorem p_law(a:List Int)(hr:Rd (kL (.int .u8)) a):m_Zw 1073741824 a=some true:=by
 generalize hnf:(1073741824:Nat)=nf
 have hn:1048577<nf:=by omega
 clear hnf
 rw[m_Zw_eq,m_Zx_eq,cb_some]
 by_cases c:(1048576:Int)<(a.length:Int)
 ·rw[br_pos c]
 have hb:a.length<=1048576:=by omega
 obtain⟨t,e,ht⟩:=p_drawBag nf hn a hb
 have eb:m_Zd nf t=some (bgs t):=p_implBagPaths nf t (by omega) (by omega)
 have eb2:m_ZH nf t=some (bgs t):=p_specBagPaths nf t (by omega) (by omega)
 have l1:=bgs_len t
 have l2:=lfp_len t
 have n1:∀x∈bgs t,x.length+1<nf∧x.length<=16777216:=fun x hx=>by
  have:=path_len ht (.inl hx)
  omega
 have n2:∀x∈lfp t,x.length+1<nf∧x.length<=16777216:=fun x hx=>by
  have:=path_len ht (.inr hx)
  omega
 have h47:j47_Zw nf a (lfp t) t=some true:=by
  rw[j47_Zw_eq,mark_eq]
  refine for_loop (fun m i (_:Unit)=>l51_Zw nf m a (lfp t) t i) (lfp t).length (fun _=>()) (some true) (fun m i hi=> ?_) (fun m=> ?_) nf (by omega)
  ·have c0:(i:Int)<((lfp t).length:Int):=by omega
   have c1:0<=(i:Int)∧(i:Int)<((lfp t).length:Int):=by omega
   have hm:gt (lfp t) (i:Int) ([]:List Str)∈lfp t:=by rw[gt_at _ i hi];exact List.getElem_mem hi
   obtain⟨u,hu,hk⟩:=at_leaf hm
   rw[l51_Zw_eq,br_pos c0,gg_pos c1,Ty.h_eq,p_implTypeAt nf t _ (by omega) (by omega) (n2 _ hm).1 (n2 _ hm).2,cb_some,hu]
   dsimp only
   rw[Bool.not_true,beq_self_eq_true,br_true,mark_eq,j64_Zw_eq,beq_eq_false_iff_ne.2 hk,br_false,mark_eq,w64_nat (n:=i) (by omega)]
  ·have c0:¬((lfp t).length:Int)<((lfp t).length:Int):=by omega
   rw[l51_Zw_eq,br_neg c0,mark_eq]
   exact p_tail nf hn a hb
 have h19:j19_Zw nf a (bgs t) (lfp t) t false=some true:=by
  rw[j19_Zw_eq,br_false,mark_eq]
  refine for_loop (fun m i (_:Unit)=>l28_Zw nf m a (bgs t) (lfp t) t i) (bgs t).length (fun _=>()) (some true) (fun m i hi=> ?_) (fun m=> ?_) nf (by omega)
  ·have c0:(i:Int)<((bgs t).length:Int):=by omega
   have c1:0<=(i:Int)∧(i:Int)<((bgs t).length:Int):=by omega
   have hm:gt (bgs t) (i:Int) ([]:List Str)∈bgs t:=by rw[gt_at _ i hi];exact List.getElem_mem hi
   obtain⟨u,hu,hk⟩:=at_bag hm
   rw[l28_Zw_eq,br_pos c0,gg_pos c1,Ty.h_eq,p_implTypeAt nf t _ (by omega) (by omega) (n1 _ hm).1 (n1 _ hm).2,cb_some,hu]
   dsimp only
   rw[Bool.not_true,beq_self_eq_true,br_true,mark_eq,j41_Zw_eq,beq_iff_eq.2 hk,Bool.not_true,br_false,mark_eq,w64_nat (n:=i) (by omega)]
  ·have c0:¬((bgs t).length:Int)<((bgs t).length:Int):=by omega
   rw[l28_Zw_eq,br_neg c0,mark_eq,h47]
 rw[br_neg c,e,cb_some,Ty.h_eq,eb,cb_some,p_implLeaves nf t (by omega) (by omega) (by omega),cb_some,eb2,cb_some,p_samePaths nf _ (by omega) (by omega) n1,cb_some,Bool.not_true,beq_self_eq_true,br_true,p_specLeaves' nf t (by omega) (by omega),cb_some,p_samePaths nf _ (by omega) (by omega) n2,cb_some,Bool.not_true,beq_self_eq_true,br_true,p_specData nf t (by omega) (by omega),cb_some]
 cases hv:(nVal t&& !nHas 5 t)with
 |false=>rw[show(false==true)=false from rfl,br_false,mark_eq,h19]
 |true=>
  have hc:=nBags_cnt t []
  have hbg:(bgs t).length=nCnt t:=by
   unfold bgs
   rw[if_pos hv,hc]
  rw[beq_self_eq_true,br_true,p_count nf nf t (by omega) (by omega) (by omega),cb_some,hbg,beq_self_eq_true,Bool.not_true,mark_eq,h19]
end Go.Q
