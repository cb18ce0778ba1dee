/- The plain laws of marks. -/
import Derived.Test.YteidofmblfglkaaD50
import Derived.Test.YteidofmblfglkaaD51
set_option linter.unusedVariables false
set_option linter.unusedSimpArgs false
set_option maxHeartbeats 1000000
namespace Go.Q
theorem p_markStringS(nf:Nat)(hn:30<nf)(hm:nf<=2147483647)(a:List Str)(j:Int)(h':a.length<nf):0<=j->j+(cSs a:Nat)<=4611686018427387904->m_ZH nf a j=some (fSs a j,j+(cSs a:Nat)):=by
 intro hq0 hq1
 simp only[m_ZH_eq,mark_eq]
 have h00:a=mkT fS cS a j 0:=(mkT_zero fS cS a j).symm
 have key:=for_loop (fun m i (s:List Str×Int)=>l6_ZH nf m s.2 i s.1) a.length (fun i=>(mkT fS cS a j i,j+(pfx cS a i:Nat))) (some (fSs a j,j+(cSs a:Nat))) (fun m i hi=> ?_) (fun m=> ?_) nf (by omega)
 ·simpa only[mkT_zero,pfx_zero,Int.natCast_zero,Int.add_zero,Int.cast_ofNat_Int]using key
 ·have c0:(i:Int)<(a.length:Int):=by omega
  have c1:0<=(i:Int)∧(i:Int)<(a.length:Int):=by omega
  have hc1:=pfx_succ cS a hi ([]:Str)
  have hc2:pfx cS a (i+1)<=cSs a:=by rw[cSs_eq];exact pfx_le cS a (i+1)
  have hml:(mkT fS cS a j i).length=a.length:=mkT_len _ _ a j (by omega)
  have hg:gt (mkT fS cS a j i) (i:Int) ([]:Str)=gt a (i:Int) ([]:Str):=mkT_gt fS cS a j hi ([]:Str)
  have he:=mkT_set fS cS a j hi ([]:Str) _ rfl
  have hset:∀y:Str,gt ((mkT fS cS a j i).set i y) (i:Int) ([]:Str)=y:=fun y=>gt_set_self _ (by rw[hml];exact hi) y _
  simp only[cS,fS]at hc1 he
  have w0:w64 (j+(pfx cS a i:Int)+1)=j+(pfx cS a i:Int)+1:=w64_id (by omega) (by omega)
  have t0:=p_markText nf (j+(pfx cS a i:Int)) hn (by omega)
  have hk:j+(pfx cS a i:Int)+1=j+(pfx cS a (i+1):Int):=by omega
  have lset:∀y,((mkT fS cS a j i).set i y).length=a.length:=fun y=>by rw[List.length_set,hml]
  simp only[l6_ZH_eq,hml,lset,br_pos c0,gg_pos c1,hg,hset,List.set_set,cb_some,mark_eq,w64_nat (n:=i) (by omega),Int.toNat_natCast,w0,t0,Comp.h_eq,FComp.h_eq,Head.h_eq,Plan.h_eq,Query.h_eq,TDecl.h_eq,Tm.h_eq,Ty.h_eq,Typing.h_eq,Val.h_eq,<-hk]
  first|rw[he]|(rw[<-he];done)|skip
 ·have c0:¬(a.length:Int)<(a.length:Int):=by omega
  have hml:(mkT fS cS a j a.length).length=a.length:=mkT_len _ _ a j (Nat.le_refl _)
  simp only[l6_ZH_eq,hml,br_neg c0]
  rw[mkT_all _ _ _ _ (Nat.le_refl _),pfx_all cS a (Nat.le_refl _),fSs_eq,cSs_eq]
theorem p_heldStringS(nf:Nat)(hn:30<nf)(hm:nf<=2147483647)(a:List Str)(j:Int)(h':a.length<nf):0<=j->j+(cSs a:Nat)<=4611686018427387904->fSs a j=a->m_ZE nf a j=some (j+(cSs a:Nat)):=by
 intro hq0 hq1 hm1
 rw[fSs_eq]at hm1
 simp only[m_ZE_eq,mark_eq]
 have key:=for_loop (fun m i (s:Int)=>l6_ZE nf m a s i) a.length (fun i=>j+(pfx cS a i:Nat)) (some (j+(cSs a:Nat))) (fun m i hi=> ?_) (fun m=> ?_) nf (by omega)
 ·simpa only[pfx_zero,Int.natCast_zero,Int.add_zero,Int.cast_ofNat_Int]using key
 ·have c0:(i:Int)<(a.length:Int):=by omega
  have c1:0<=(i:Int)∧(i:Int)<(a.length:Int):=by omega
  have hc1:=pfx_succ cS a hi ([]:Str)
  have hc2:pfx cS a (i+1)<=cSs a:=by rw[cSs_eq];exact pfx_le cS a (i+1)
  have hel:=heldL fS cS a j hi ([]:Str) ([]:Str)
  rw[hm1]at hel
  simp only[cS,fS]at hc1 hel
  have w0:w64 (j+(pfx cS a i:Int)+1)=j+(pfx cS a i:Int)+1:=w64_id (by omega) (by omega)
  have t0:=p_markText nf (j+(pfx cS a i:Int)) hn (by omega)
  have hk:j+(pfx cS a i:Int)+1=j+(pfx cS a (i+1):Int):=by omega
  simp only[l6_ZE_eq,br_pos c0,gg_pos c1,cb_some,mark_eq,w64_nat (n:=i) (by omega),w0,t0,hel,Comp.h_eq,FComp.h_eq,Head.h_eq,Plan.h_eq,Query.h_eq,TDecl.h_eq,Tm.h_eq,Ty.h_eq,Typing.h_eq,Val.h_eq,beq_self_eq_true,Bool.not_true,br_false,<-hk]
 ·have c0:¬(a.length:Int)<(a.length:Int):=by omega
  simp only[l6_ZE_eq,br_neg c0]
  rw[pfx_all cS a (Nat.le_refl _),cSs_eq]
theorem g_markTypeS(nf:Nat)(hn:30<nf)(hm:nf<=2147483647):∀(kf:Nat) (a:List Ty) (j:Int),cTys a<kf->cTys a<nf->0<=j->j+(cTys a:Nat)<=4611686018427387904->m_ZK nf kf a j=some (fTys a j,j+(cTys a:Nat))
 |0,a,j,h,_=>absurd h (Nat.not_lt_zero _)
 |kf+1,a,j,h,h'=>by
  intro hq0 hq1
  have ih:=g_markTypeS nf hn hm kf
  have hal:a.length<=cTys a:=by rw[cTys_eq];exact len_le_sum (fun x=>by rw[cTy_f];omega) a
  simp only[m_ZK_eq,mark_eq]
  have h00:a=mkT fTy cTy a j 0:=(mkT_zero fTy cTy a j).symm
  have key:=for_loop (fun m i (s:List Ty×Int)=>l6_ZK nf (kf+1) m s.2 i s.1) a.length (fun i=>(mkT fTy cTy a j i,j+(pfx cTy a i:Nat))) (some (fTys a j,j+(cTys a:Nat))) (fun m i hi=> ?_) (fun m=> ?_) nf (by omega)
  ·simpa only[mkT_zero,pfx_zero,Int.natCast_zero,Int.add_zero,Int.cast_ofNat_Int]using key
  ·have c0:(i:Int)<(a.length:Int):=by omega
   have c1:0<=(i:Int)∧(i:Int)<(a.length:Int):=by omega
   have hc1:=pfx_succ cTy a hi Ty.zero
   have hc2:pfx cTy a (i+1)<=cTys a:=by rw[cTys_eq];exact pfx_le cTy a (i+1)
   have hml:(mkT fTy cTy a j i).length=a.length:=mkT_len _ _ a j (by omega)
   have hg:gt (mkT fTy cTy a j i) (i:Int) Ty.zero=gt a (i:Int) Ty.zero:=mkT_gt fTy cTy a j hi Ty.zero
   have he:=mkT_set fTy cTy a j hi Ty.zero _ rfl
   have hset:∀y:Ty,gt ((mkT fTy cTy a j i).set i y) (i:Int) Ty.zero=y:=fun y=>gt_set_self _ (by rw[hml];exact hi) y _
   have hz:cTy (gt a (i:Int) Ty.zero)<=cTys a:=by rw[cTys_eq];exact sum_at cTy a hi _
   obtain⟨y,hy⟩:∃y:Ty,gt a (i:Int) Ty.zero=y:=⟨_,rfl⟩
   rw[hy]at hg hc1 he hz
   obtain⟨l0,l1,l2⟩:=y
   simp only[cTy,fTy]at hc1 hz he
   have w0:w64 (j+(pfx cTy a i:Int)+1)=j+(pfx cTy a i:Int)+1:=w64_id (by omega) (by omega)
   have hl1:=cSs_len l1
   have t1:=p_markStringS nf hn hm l1 (j+(pfx cTy a i:Int)+1) (by omega) (by omega) (by omega)
   have t2:=ih l2 (j+(pfx cTy a i:Int)+1+(cSs l1:Nat)) (by omega) (by omega) (by omega) (by omega)
   have hk:j+(pfx cTy a i:Int)+1+(cSs l1:Nat)+(cTys l2:Nat)=j+(pfx cTy a (i+1):Int):=by omega
   have lset:∀y,((mkT fTy cTy a j i).set i y).length=a.length:=fun y=>by rw[List.length_set,hml]
   simp only[l6_ZK_eq,j21_ZK_eq,hml,lset,br_pos c0,gg_pos c1,hg,hset,List.set_set,cb_some,mark_eq,w64_nat (n:=i) (by omega),Int.toNat_natCast,w0,t1,t2,Ty.kind,Ty.labels,Ty.args,Comp.h_eq,FComp.h_eq,Head.h_eq,Plan.h_eq,Query.h_eq,TDecl.h_eq,Tm.h_eq,Ty.h_eq,Typing.h_eq,Val.h_eq,<-hk]
   first|rw[he]|(rw[<-he];done)|skip
  ·have c0:¬(a.length:Int)<(a.length:Int):=by omega
   have hml:(mkT fTy cTy a j a.length).length=a.length:=mkT_len _ _ a j (Nat.le_refl _)
   simp only[l6_ZK_eq,hml,br_neg c0]
   rw[mkT_all _ _ _ _ (Nat.le_refl _),pfx_all cTy a (Nat.le_refl _),fTys_eq,cTys_eq]
theorem p_markTypeS(nf:Nat)(hn:30<nf)(hm:nf<=2147483647)(a:List Ty)(j:Int)(h':cTys a<nf):0<=j->j+(cTys a:Nat)<=4611686018427387904->m_ZK nf nf a j=some (fTys a j,j+(cTys a:Nat)):=g_markTypeS nf hn hm nf a j h' h'
theorem g_heldTypeS(nf:Nat)(hn:30<nf)(hm:nf<=2147483647):∀(kf:Nat) (a:List Ty) (j:Int),cTys a<kf->cTys a<nf->0<=j->j+(cTys a:Nat)<=4611686018427387904->fTys a j=a->m_ZG nf kf a j=some (j+(cTys a:Nat))
 |0,a,j,h,_=>absurd h (Nat.not_lt_zero _)
 |kf+1,a,j,h,h'=>by
  intro hq0 hq1 hm1
  have ih:=g_heldTypeS nf hn hm kf
  have hal:a.length<=cTys a:=by rw[cTys_eq];exact len_le_sum (fun x=>by rw[cTy_f];omega) a
  rw[fTys_eq]at hm1
  simp only[m_ZG_eq,mark_eq]
  have key:=for_loop (fun m i (s:Int)=>l6_ZG nf (kf+1) m a s i) a.length (fun i=>j+(pfx cTy a i:Nat)) (some (j+(cTys a:Nat))) (fun m i hi=> ?_) (fun m=> ?_) nf (by omega)
  ·simpa only[pfx_zero,Int.natCast_zero,Int.add_zero,Int.cast_ofNat_Int]using key
  ·have c0:(i:Int)<(a.length:Int):=by omega
   have c1:0<=(i:Int)∧(i:Int)<(a.length:Int):=by omega
   have hc1:=pfx_succ cTy a hi Ty.zero
   have hc2:pfx cTy a (i+1)<=cTys a:=by rw[cTys_eq];exact pfx_le cTy a (i+1)
   have hel:=heldL fTy cTy a j hi Ty.zero Ty.zero
   rw[hm1]at hel
   have hz:cTy (gt a (i:Int) Ty.zero)<=cTys a:=by rw[cTys_eq];exact sum_at cTy a hi _
   obtain⟨y,hy⟩:∃y:Ty,gt a (i:Int) Ty.zero=y:=⟨_,rfl⟩
   rw[hy]at hel hc1 hz
   obtain⟨l0,l1,l2⟩:=y
   simp only[cTy,fTy,Ty.mk.injEq]at hc1 hz hel
   obtain⟨e0,e1,e2⟩:=hel
   have w0:w64 (j+(pfx cTy a i:Int)+1)=j+(pfx cTy a i:Int)+1:=w64_id (by omega) (by omega)
   have hl1:=cSs_len l1
   have t1:=p_heldStringS nf hn hm l1 (j+(pfx cTy a i:Int)+1) (by omega) (by omega) (by omega) e1.symm
   have n1:¬j+(pfx cTy a i:Int)+1+(cSs l1:Nat)<0:=by omega
   have t2:=ih l2 (j+(pfx cTy a i:Int)+1+(cSs l1:Nat)) (by omega) (by omega) (by omega) (by omega) e2.symm
   have n2:¬j+(pfx cTy a i:Int)+1+(cSs l1:Nat)+(cTys l2:Nat)<0:=by omega
   have hk:j+(pfx cTy a i:Int)+1+(cSs l1:Nat)+(cTys l2:Nat)=j+(pfx cTy a (i+1):Int):=by omega
   simp only[l6_ZG_eq,br_pos c0,gg_pos c1,hy,cb_some,mark_eq,w64_nat (n:=i) (by omega),w0,e0,t1,br_neg n1,t2,br_neg n2,Ty.kind,Ty.labels,Ty.args,Comp.h_eq,FComp.h_eq,Head.h_eq,Plan.h_eq,Query.h_eq,TDecl.h_eq,Tm.h_eq,Ty.h_eq,Typing.h_eq,Val.h_eq,beq_self_eq_true,Bool.not_true,br_false,<-hk]
  ·have c0:¬(a.length:Int)<(a.length:Int):=by omega
   simp only[l6_ZG_eq,br_neg c0]
   rw[pfx_all cTy a (Nat.le_refl _),cTys_eq]
theorem p_heldTypeS(nf:Nat)(hn:30<nf)(hm:nf<=2147483647)(a:List Ty)(j:Int)(h':cTys a<nf):0<=j->j+(cTys a:Nat)<=4611686018427387904->fTys a j=a->m_ZG nf nf a j=some (j+(cTys a:Nat)):=g_heldTypeS nf hn hm nf a j h' h'
end Go.Q
