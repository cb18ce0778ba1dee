/- The plain laws of marks. -/
import Derived.Test.YtjogpopbgmjlbaaGreatA6t
import Derived.Test.YtjogpopbgmjlbaaGreatA6p
set_option linter.unusedVariables false
set_option linter.unusedSimpArgs false
set_option maxHeartbeats 8000000
namespace Go.Q
theorem p_markStringS(nf:Nat)(hn:30<nf)(hm:nf<=2147483647)(a:List Str)(j:Int)(h':a.length<nf):0<=j->j+(cSs a:Nat)<=4611686018427387904->m_Zal nf a j=some (fSs a j,j+(cSs a:Nat)):=by
 intro hq0 hq1
 simp only[m_Zal_eq,mark_eq]
 have h00:a=mkT fS cS a j 0:=(mkT_zero fS cS a j).symm
 have key:=for_loop (fun m i (s:List Str×Int)=>l6_Zal nf m s.2 i s.1) a.length (fun i=>(mkT fS cS a j i,j+(pfx cS a i:Nat))) (some (fSs a j,j+(cSs a:Nat))) (fun m i hi=> ?_) (fun m=> ?_) nf (by omega)
 ·simpa only[mkT_zero,pfx_zero,Int.natCast_zero,Int.add_zero,Int.cast_ofNat_Int]using key
 ·have c0:(i:Int)<(a.length:Int):=by omega
  have c1:0<=(i:Int)∧(i:Int)<(a.length:Int):=by omega
  have hc1:=pfx_succ cS a hi ([]:Str)
  have hc2:pfx cS a (i+1)<=cSs a:=by rw[cSs_eq];exact pfx_le cS a (i+1)
  have hml:(mkT fS cS a j i).length=a.length:=mkT_len _ _ a j (by omega)
  have hg:gt (mkT fS cS a j i) (i:Int) ([]:Str)=gt a (i:Int) ([]:Str):=mkT_gt fS cS a j hi ([]:Str)
  have he:=mkT_set fS cS a j hi ([]:Str) _ rfl
  have hset:∀y:Str,gt ((mkT fS cS a j i).set i y) (i:Int) ([]:Str)=y:=fun y=>gt_set_self _ (by rw[hml];exact hi) y _
  simp only[cS,fS]at hc1 he
  have w0:w64 (j+(pfx cS a i:Int)+1)=j+(pfx cS a i:Int)+1:=w64_id (by omega) (by omega)
  have t0:=p_markText nf (j+(pfx cS a i:Int)) hn (by omega)
  have hk:j+(pfx cS a i:Int)+1=j+(pfx cS a (i+1):Int):=by omega
  have lset:∀y,((mkT fS cS a j i).set i y).length=a.length:=fun y=>by rw[List.length_set,hml]
  simp only[l6_Zal_eq,hml,lset,br_pos c0,gg_pos c1,hg,hset,List.set_set,cb_some,mark_eq,w64_nat (n:=i) (by omega),Int.toNat_natCast,w0,t0,Comp.h_eq,FComp.h_eq,Head.h_eq,Plan.h_eq,Query.h_eq,TDecl.h_eq,Tm.h_eq,Ty.h_eq,Typing.h_eq,Val.h_eq,<-hk]
  first|rw[he]|(rw[<-he];done)|skip
 ·have c0:¬(a.length:Int)<(a.length:Int):=by omega
  have hml:(mkT fS cS a j a.length).length=a.length:=mkT_len _ _ a j (Nat.le_refl _)
  simp only[l6_Zal_eq,hml,br_neg c0]
  rw[mkT_all _ _ _ _ (Nat.le_refl _),pfx_all cS a (Nat.le_refl _),fSs_eq,cSs_eq]
theorem p_heldStringS(nf:Nat)(hn:30<nf)(hm:nf<=2147483647)(a:List Str)(j:Int)(h':a.length<nf):0<=j->j+(cSs a:Nat)<=4611686018427387904->fSs a j=a->m_Zah nf a j=some (j+(cSs a:Nat)):=by
 intro hq0 hq1 hm1
 rw[fSs_eq]at hm1
 simp only[m_Zah_eq,mark_eq]
 have key:=for_loop (fun m i (s:Int)=>l6_Zah nf m a s i) a.length (fun i=>j+(pfx cS a i:Nat)) (some (j+(cSs a:Nat))) (fun m i hi=> ?_) (fun m=> ?_) nf (by omega)
 ·simpa only[pfx_zero,Int.natCast_zero,Int.add_zero,Int.cast_ofNat_Int]using key
 ·have c0:(i:Int)<(a.length:Int):=by omega
  have c1:0<=(i:Int)∧(i:Int)<(a.length:Int):=by omega
  have hc1:=pfx_succ cS a hi ([]:Str)
  have hc2:pfx cS a (i+1)<=cSs a:=by rw[cSs_eq];exact pfx_le cS a (i+1)
  have hel:=heldL fS cS a j hi ([]:Str) ([]:Str)
  rw[hm1]at hel
  simp only[cS,fS]at hc1 hel
  have w0:w64 (j+(pfx cS a i:Int)+1)=j+(pfx cS a i:Int)+1:=w64_id (by omega) (by omega)
  have t0:=p_markText nf (j+(pfx cS a i:Int)) hn (by omega)
  have hk:j+(pfx cS a i:Int)+1=j+(pfx cS a (i+1):Int):=by omega
  simp only[l6_Zah_eq,br_pos c0,gg_pos c1,cb_some,mark_eq,w64_nat (n:=i) (by omega),w0,t0,hel,Comp.h_eq,FComp.h_eq,Head.h_eq,Plan.h_eq,Query.h_eq,TDecl.h_eq,Tm.h_eq,Ty.h_eq,Typing.h_eq,Val.h_eq,beq_self_eq_true,Bool.not_true,br_false,<-hk]
 ·have c0:¬(a.length:Int)<(a.length:Int):=by omega
  simp only[l6_Zah_eq,br_neg c0]
  rw[pfx_all cS a (Nat.le_refl _),cSs_eq]
theorem g_markTypeS(nf:Nat)(hn:30<nf)(hm:nf<=2147483647):∀(kf:Nat) (a:List Ty) (j:Int),cTys a<kf->cTys a<nf->0<=j->j+(cTys a:Nat)<=4611686018427387904->m_Zar nf kf a j=some (fTys a j,j+(cTys a:Nat))
 |0,a,j,h,_=>absurd h (Nat.not_lt_zero _)
 |kf+1,a,j,h,h'=>by
  intro hq0 hq1
  have ih:=g_markTypeS nf hn hm kf
  have hal:a.length<=cTys a:=by rw[cTys_eq];exact len_le_sum (fun x=>by rw[cTy_f];omega) a
  simp only[m_Zar_eq,mark_eq]
  have h00:a=mkT fTy cTy a j 0:=(mkT_zero fTy cTy a j).symm
  have key:=for_loop (fun m i (s:List Ty×Int)=>l6_Zar nf (kf+1) m s.2 i s.1) a.length (fun i=>(mkT fTy cTy a j i,j+(pfx cTy a i:Nat))) (some (fTys a j,j+(cTys a:Nat))) (fun m i hi=> ?_) (fun m=> ?_) nf (by omega)
  ·simpa only[mkT_zero,pfx_zero,Int.natCast_zero,Int.add_zero,Int.cast_ofNat_Int]using key
  ·have c0:(i:Int)<(a.length:Int):=by omega
   have c1:0<=(i:Int)∧(i:Int)<(a.length:Int):=by omega
   have hc1:=pfx_succ cTy a hi Ty.zero
   have hc2:pfx cTy a (i+1)<=cTys a:=by rw[cTys_eq];exact pfx_le cTy a (i+1)
   have hml:(mkT fTy cTy a j i).length=a.length:=mkT_len _ _ a j (by omega)
   have hg:gt (mkT fTy cTy a j i) (i:Int) Ty.zero=gt a (i:Int) Ty.zero:=mkT_gt fTy cTy a j hi Ty.zero
   have he:=mkT_set fTy cTy a j hi Ty.zero _ rfl
   have hset:∀y:Ty,gt ((mkT fTy cTy a j i).set i y) (i:Int) Ty.zero=y:=fun y=>gt_set_self _ (by rw[hml];exact hi) y _
   have hz:cTy (gt a (i:Int) Ty.zero)<=cTys a:=by rw[cTys_eq];exact sum_at cTy a hi _
   obtain⟨y,hy⟩:∃y:Ty,gt a (i:Int) Ty.zero=y:=⟨_,rfl⟩
   rw[hy]at hg hc1 he hz
   obtain⟨l0,l1,l2⟩:=y
   simp only[cTy,fTy]at hc1 hz he
   have w0:w64 (j+(pfx cTy a i:Int)+1)=j+(pfx cTy a i:Int)+1:=w64_id (by omega) (by omega)
   have hl1:=cSs_len l1
   have t1:=p_markStringS nf hn hm l1 (j+(pfx cTy a i:Int)+1) (by omega) (by omega) (by omega)
   have t2:=ih l2 (j+(pfx cTy a i:Int)+1+(cSs l1:Nat)) (by omega) (by omega) (by omega) (by omega)
   have hk:j+(pfx cTy a i:Int)+1+(cSs l1:Nat)+(cTys l2:Nat)=j+(pfx cTy a (i+1):Int):=by omega
   have lset:∀y,((mkT fTy cTy a j i).set i y).length=a.length:=fun y=>by rw[List.length_set,hml]
   simp only[l6_Zar_eq,j21_Zar_eq,hml,lset,br_pos c0,gg_pos c1,hg,hset,List.set_set,cb_some,mark_eq,w64_nat (n:=i) (by omega),Int.toNat_natCast,w0,t1,t2,Ty.kind,Ty.labels,Ty.args,Comp.h_eq,FComp.h_eq,Head.h_eq,Plan.h_eq,Query.h_eq,TDecl.h_eq,Tm.h_eq,Ty.h_eq,Typing.h_eq,Val.h_eq,<-hk]
   first|rw[he]|(rw[<-he];done)|skip
  ·have c0:¬(a.length:Int)<(a.length:Int):=by omega
   have hml:(mkT fTy cTy a j a.length).length=a.length:=mkT_len _ _ a j (Nat.le_refl _)
   simp only[l6_Zar_eq,hml,br_neg c0]
   rw[mkT_all _ _ _ _ (Nat.le_refl _),pfx_all cTy a (Nat.le_refl _),fTys_eq,cTys_eq]
theorem p_markTypeS(nf:Nat)(hn:30<nf)(hm:nf<=2147483647)(a:List Ty)(j:Int)(h':cTys a<nf):0<=j->j+(cTys a:Nat)<=4611686018427387904->m_Zar nf nf a j=some (fTys a j,j+(cTys a:Nat)):=g_markTypeS nf hn hm nf a j h' h'
theorem g_heldTypeS(nf:Nat)(hn:30<nf)(hm:nf<=2147483647):∀(kf:Nat) (a:List Ty) (j:Int),cTys a<kf->cTys a<nf->0<=j->j+(cTys a:Nat)<=4611686018427387904->fTys a j=a->m_Zaj nf kf a j=some (j+(cTys a:Nat))
 |0,a,j,h,_=>absurd h (Nat.not_lt_zero _)
 |kf+1,a,j,h,h'=>by
  intro hq0 hq1 hm1
  have ih:=g_heldTypeS nf hn hm kf
  have hal:a.length<=cTys a:=by rw[cTys_eq];exact len_le_sum (fun x=>by rw[cTy_f];omega) a
  rw[fTys_eq]at hm1
  simp only[m_Zaj_eq,mark_eq]
  have key:=for_loop (fun m i (s:Int)=>l6_Zaj nf (kf+1) m a s i) a.length (fun i=>j+(pfx cTy a i:Nat)) (some (j+(cTys a:Nat))) (fun m i hi=> ?_) (fun m=> ?_) nf (by omega)
  ·simpa only[pfx_zero,Int.natCast_zero,Int.add_zero,Int.cast_ofNat_Int]using key
  ·have c0:(i:Int)<(a.length:Int):=by omega
   have c1:0<=(i:Int)∧(i:Int)<(a.length:Int):=by omega
   have hc1:=pfx_succ cTy a hi Ty.zero
   have hc2:pfx cTy a (i+1)<=cTys a:=by rw[cTys_eq];exact pfx_le cTy a (i+1)
   have hel:=heldL fTy cTy a j hi Ty.zero Ty.zero
   rw[hm1]at hel
   have hz:cTy (gt a (i:Int) Ty.zero)<=cTys a:=by rw[cTys_eq];exact sum_at cTy a hi _
   obtain⟨y,hy⟩:∃y:Ty,gt a (i:Int) Ty.zero=y:=⟨_,rfl⟩
   rw[hy]at hel hc1 hz
   obtain⟨l0,l1,l2⟩:=y
   simp only[cTy,fTy,Ty.mk.injEq]at hc1 hz hel
   obtain⟨e0,e1,e2⟩:=hel
   have w0:w64 (j+(pfx cTy a i:Int)+1)=j+(pfx cTy a i:Int)+1:=w64_id (by omega) (by omega)
   have hl1:=cSs_len l1
   have t1:=p_heldStringS nf hn hm l1 (j+(pfx cTy a i:Int)+1) (by omega) (by omega) (by omega) e1.symm
   have n1:¬j+(pfx cTy a i:Int)+1+(cSs l1:Nat)<0:=by omega
   have t2:=ih l2 (j+(pfx cTy a i:Int)+1+(cSs l1:Nat)) (by omega) (by omega) (by omega) (by omega) e2.symm
   have n2:¬j+(pfx cTy a i:Int)+1+(cSs l1:Nat)+(cTys l2:Nat)<0:=by omega
   have hk:j+(pfx cTy a i:Int)+1+(cSs l1:Nat)+(cTys l2:Nat)=j+(pfx cTy a (i+1):Int):=by omega
   simp only[l6_Zaj_eq,br_pos c0,gg_pos c1,hy,cb_some,mark_eq,w64_nat (n:=i) (by omega),w0,e0,t1,br_neg n1,t2,br_neg n2,Ty.kind,Ty.labels,Ty.args,Comp.h_eq,FComp.h_eq,Head.h_eq,Plan.h_eq,Query.h_eq,TDecl.h_eq,Tm.h_eq,Ty.h_eq,Typing.h_eq,Val.h_eq,beq_self_eq_true,Bool.not_true,br_false,<-hk]
  ·have c0:¬(a.length:Int)<(a.length:Int):=by omega
   simp only[l6_Zaj_eq,br_neg c0]
   rw[pfx_all cTy a (Nat.le_refl _),cTys_eq]
theorem p_heldTypeS(nf:Nat)(hn:30<nf)(hm:nf<=2147483647)(a:List Ty)(j:Int)(h':cTys a<nf):0<=j->j+(cTys a:Nat)<=4611686018427387904->fTys a j=a->m_Zaj nf nf a j=some (j+(cTys a:Nat)):=g_heldTypeS nf hn hm nf a j h' h'
theorem p_markTableDeclS(nf:Nat)(hn:30<nf)(hm:nf<=2147483647)(a:List TDecl)(j:Int)(h':cTDecls a<nf):0<=j->j+(cTDecls a:Nat)<=4611686018427387904->m_Zam nf a j=some (fTDecls a j,j+(cTDecls a:Nat)):=by
 intro hq0 hq1
 have hal:a.length<=cTDecls a:=by rw[cTDecls_eq];exact len_le_sum (fun x=>by rw[cTDecl_f];omega) a
 simp only[m_Zam_eq,mark_eq]
 have h00:a=mkT fTDecl cTDecl a j 0:=(mkT_zero fTDecl cTDecl a j).symm
 have key:=for_loop (fun m i (s:List TDecl×Int)=>l6_Zam nf m s.2 i s.1) a.length (fun i=>(mkT fTDecl cTDecl a j i,j+(pfx cTDecl a i:Nat))) (some (fTDecls a j,j+(cTDecls a:Nat))) (fun m i hi=> ?_) (fun m=> ?_) nf (by omega)
 ·simpa only[mkT_zero,pfx_zero,Int.natCast_zero,Int.add_zero,Int.cast_ofNat_Int]using key
 ·have c0:(i:Int)<(a.length:Int):=by omega
  have c1:0<=(i:Int)∧(i:Int)<(a.length:Int):=by omega
  have hc1:=pfx_succ cTDecl a hi TDecl.zero
  have hc2:pfx cTDecl a (i+1)<=cTDecls a:=by rw[cTDecls_eq];exact pfx_le cTDecl a (i+1)
  have hml:(mkT fTDecl cTDecl a j i).length=a.length:=mkT_len _ _ a j (by omega)
  have hg:gt (mkT fTDecl cTDecl a j i) (i:Int) TDecl.zero=gt a (i:Int) TDecl.zero:=mkT_gt fTDecl cTDecl a j hi TDecl.zero
  have he:=mkT_set fTDecl cTDecl a j hi TDecl.zero _ rfl
  have hset:∀y:TDecl,gt ((mkT fTDecl cTDecl a j i).set i y) (i:Int) TDecl.zero=y:=fun y=>gt_set_self _ (by rw[hml];exact hi) y _
  have hz:cTDecl (gt a (i:Int) TDecl.zero)<=cTDecls a:=by rw[cTDecls_eq];exact sum_at cTDecl a hi _
  obtain⟨y,hy⟩:∃y:TDecl,gt a (i:Int) TDecl.zero=y:=⟨_,rfl⟩
  rw[hy]at hg hc1 he hz
  obtain⟨l0,⟨l1,l2,l3⟩⟩:=y
  simp only[cTDecl,fTDecl,cTy,fTy]at hc1 hz he
  try simp only[Int.natCast_add,Int.cast_ofNat_Int,<-Int.add_assoc]at he
  have w0:w64 (j+(pfx cTDecl a i:Int)+1)=j+(pfx cTDecl a i:Int)+1:=w64_id (by omega) (by omega)
  have t0:=p_markText nf (j+(pfx cTDecl a i:Int)) hn (by omega)
  have w1:w64 (j+(pfx cTDecl a i:Int)+1+1)=j+(pfx cTDecl a i:Int)+1+1:=w64_id (by omega) (by omega)
  have hl2:=cSs_len l2
  have t2:=p_markStringS nf hn hm l2 (j+(pfx cTDecl a i:Int)+1+1) (by omega) (by omega) (by omega)
  have t3:=p_markTypeS nf hn hm l3 (j+(pfx cTDecl a i:Int)+1+1+(cSs l2:Nat)) (by omega) (by omega) (by omega)
  have hk:j+(pfx cTDecl a i:Int)+1+1+(cSs l2:Nat)+(cTys l3:Nat)=j+(pfx cTDecl a (i+1):Int):=by omega
  have lset:∀y,((mkT fTDecl cTDecl a j i).set i y).length=a.length:=fun y=>by rw[List.length_set,hml]
  simp only[l6_Zam_eq,j25_Zam_eq,j21_Zam_eq,j26_Zam_eq,hml,lset,br_pos c0,gg_pos c1,hg,hset,List.set_set,cb_some,mark_eq,w64_nat (n:=i) (by omega),Int.toNat_natCast,w0,t0,w1,t2,t3,TDecl.name,TDecl.row,Ty.kind,Ty.labels,Ty.args,Comp.h_eq,FComp.h_eq,Head.h_eq,Plan.h_eq,Query.h_eq,TDecl.h_eq,Tm.h_eq,Ty.h_eq,Typing.h_eq,Val.h_eq,<-hk]
  first|rw[he]|(rw[<-he];done)|skip
 ·have c0:¬(a.length:Int)<(a.length:Int):=by omega
  have hml:(mkT fTDecl cTDecl a j a.length).length=a.length:=mkT_len _ _ a j (Nat.le_refl _)
  simp only[l6_Zam_eq,hml,br_neg c0]
  rw[mkT_all _ _ _ _ (Nat.le_refl _),pfx_all cTDecl a (Nat.le_refl _),fTDecls_eq,cTDecls_eq]
theorem p_markTypingS(nf:Nat)(hn:30<nf)(hm:nf<=2147483647)(a:List Typing)(j:Int)(h':cTypings a<nf):0<=j->j+(cTypings a:Nat)<=4611686018427387904->m_Zas nf a j=some (fTypings a j,j+(cTypings a:Nat)):=by
 intro hq0 hq1
 have hal:a.length<=cTypings a:=by rw[cTypings_eq];exact len_le_sum (fun x=>by rw[cTyping_f];omega) a
 simp only[m_Zas_eq,mark_eq]
 have h00:a=mkT fTyping cTyping a j 0:=(mkT_zero fTyping cTyping a j).symm
 have key:=for_loop (fun m i (s:List Typing×Int)=>l6_Zas nf m s.2 i s.1) a.length (fun i=>(mkT fTyping cTyping a j i,j+(pfx cTyping a i:Nat))) (some (fTypings a j,j+(cTypings a:Nat))) (fun m i hi=> ?_) (fun m=> ?_) nf (by omega)
 ·simpa only[mkT_zero,pfx_zero,Int.natCast_zero,Int.add_zero,Int.cast_ofNat_Int]using key
 ·have c0:(i:Int)<(a.length:Int):=by omega
  have c1:0<=(i:Int)∧(i:Int)<(a.length:Int):=by omega
  have hc1:=pfx_succ cTyping a hi Typing.zero
  have hc2:pfx cTyping a (i+1)<=cTypings a:=by rw[cTypings_eq];exact pfx_le cTyping a (i+1)
  have hml:(mkT fTyping cTyping a j i).length=a.length:=mkT_len _ _ a j (by omega)
  have hg:gt (mkT fTyping cTyping a j i) (i:Int) Typing.zero=gt a (i:Int) Typing.zero:=mkT_gt fTyping cTyping a j hi Typing.zero
  have he:=mkT_set fTyping cTyping a j hi Typing.zero _ rfl
  have hset:∀y:Typing,gt ((mkT fTyping cTyping a j i).set i y) (i:Int) Typing.zero=y:=fun y=>gt_set_self _ (by rw[hml];exact hi) y _
  have hz:cTyping (gt a (i:Int) Typing.zero)<=cTypings a:=by rw[cTypings_eq];exact sum_at cTyping a hi _
  obtain⟨y,hy⟩:∃y:Typing,gt a (i:Int) Typing.zero=y:=⟨_,rfl⟩
  rw[hy]at hg hc1 he hz
  obtain⟨l0,⟨l1,l2,l3⟩⟩:=y
  simp only[cTyping,fTyping,cTy,fTy]at hc1 hz he
  try simp only[Int.natCast_add,Int.cast_ofNat_Int,<-Int.add_assoc]at he
  have w0:w64 (j+(pfx cTyping a i:Int)+1)=j+(pfx cTyping a i:Int)+1:=w64_id (by omega) (by omega)
  have t0:=p_markText nf (j+(pfx cTyping a i:Int)) hn (by omega)
  have w1:w64 (j+(pfx cTyping a i:Int)+1+1)=j+(pfx cTyping a i:Int)+1+1:=w64_id (by omega) (by omega)
  have hl2:=cSs_len l2
  have t2:=p_markStringS nf hn hm l2 (j+(pfx cTyping a i:Int)+1+1) (by omega) (by omega) (by omega)
  have t3:=p_markTypeS nf hn hm l3 (j+(pfx cTyping a i:Int)+1+1+(cSs l2:Nat)) (by omega) (by omega) (by omega)
  have hk:j+(pfx cTyping a i:Int)+1+1+(cSs l2:Nat)+(cTys l3:Nat)=j+(pfx cTyping a (i+1):Int):=by omega
  have lset:∀y,((mkT fTyping cTyping a j i).set i y).length=a.length:=fun y=>by rw[List.length_set,hml]
  simp only[l6_Zas_eq,j25_Zas_eq,j21_Zas_eq,j26_Zas_eq,hml,lset,br_pos c0,gg_pos c1,hg,hset,List.set_set,cb_some,mark_eq,w64_nat (n:=i) (by omega),Int.toNat_natCast,w0,t0,w1,t2,t3,Typing.name,Typing.type,Ty.kind,Ty.labels,Ty.args,Comp.h_eq,FComp.h_eq,Head.h_eq,Plan.h_eq,Query.h_eq,TDecl.h_eq,Tm.h_eq,Ty.h_eq,Typing.h_eq,Val.h_eq,<-hk]
  first|rw[he]|(rw[<-he];done)|skip
 ·have c0:¬(a.length:Int)<(a.length:Int):=by omega
  have hml:(mkT fTyping cTyping a j a.length).length=a.length:=mkT_len _ _ a j (Nat.le_refl _)
  simp only[l6_Zas_eq,hml,br_neg c0]
  rw[mkT_all _ _ _ _ (Nat.le_refl _),pfx_all cTyping a (Nat.le_refl _),fTypings_eq,cTypings_eq]
theorem g_markTermS(nf:Nat)(hn:30<nf)(hm:nf<=2147483647):∀(kf:Nat) (a:List Tm) (j:Int),cTms a<kf->cTms a<nf->0<=j->j+(cTms a:Nat)<=4611686018427387904->m_Zao nf kf a j=some (fTms a j,j+(cTms a:Nat))
 |0,a,j,h,_=>absurd h (Nat.not_lt_zero _)
 |kf+1,a,j,h,h'=>by
  intro hq0 hq1
  have ih:=g_markTermS nf hn hm kf
  have hal:a.length<=cTms a:=by rw[cTms_eq];exact len_le_sum (fun x=>by rw[cTm_f];omega) a
  simp only[m_Zao_eq,mark_eq]
  have h00:a=mkT fTm cTm a j 0:=(mkT_zero fTm cTm a j).symm
  have key:=for_loop (fun m i (s:List Tm×Int)=>l6_Zao nf (kf+1) m s.2 i s.1) a.length (fun i=>(mkT fTm cTm a j i,j+(pfx cTm a i:Nat))) (some (fTms a j,j+(cTms a:Nat))) (fun m i hi=> ?_) (fun m=> ?_) nf (by omega)
  ·simpa only[mkT_zero,pfx_zero,Int.natCast_zero,Int.add_zero,Int.cast_ofNat_Int]using key
  ·have c0:(i:Int)<(a.length:Int):=by omega
   have c1:0<=(i:Int)∧(i:Int)<(a.length:Int):=by omega
   have hc1:=pfx_succ cTm a hi Tm.zero
   have hc2:pfx cTm a (i+1)<=cTms a:=by rw[cTms_eq];exact pfx_le cTm a (i+1)
   have hml:(mkT fTm cTm a j i).length=a.length:=mkT_len _ _ a j (by omega)
   have hg:gt (mkT fTm cTm a j i) (i:Int) Tm.zero=gt a (i:Int) Tm.zero:=mkT_gt fTm cTm a j hi Tm.zero
   have he:=mkT_set fTm cTm a j hi Tm.zero _ rfl
   have hset:∀y:Tm,gt ((mkT fTm cTm a j i).set i y) (i:Int) Tm.zero=y:=fun y=>gt_set_self _ (by rw[hml];exact hi) y _
   have hz:cTm (gt a (i:Int) Tm.zero)<=cTms a:=by rw[cTms_eq];exact sum_at cTm a hi _
   obtain⟨y,hy⟩:∃y:Tm,gt a (i:Int) Tm.zero=y:=⟨_,rfl⟩
   rw[hy]at hg hc1 he hz
   obtain⟨l0,l1,l2,⟨l3,l4,l5⟩,l6,l7⟩:=y
   simp only[cTm,fTm,cTy,fTy]at hc1 hz he
   simp only[Int.natCast_add,Int.cast_ofNat_Int,<-Int.add_assoc]at he
   have w0:w64 (j+(pfx cTm a i:Int)+1)=j+(pfx cTm a i:Int)+1:=w64_id (by omega) (by omega)
   have w1:w64 (j+(pfx cTm a i:Int)+1+1)=j+(pfx cTm a i:Int)+1+1:=w64_id (by omega) (by omega)
   have t1:=p_markText nf (j+(pfx cTm a i:Int)+1) hn (by omega)
   have w2:w64 (j+(pfx cTm a i:Int)+1+1+1)=j+(pfx cTm a i:Int)+1+1+1:=w64_id (by omega) (by omega)
   have w3:w64 (j+(pfx cTm a i:Int)+1+1+1+1)=j+(pfx cTm a i:Int)+1+1+1+1:=w64_id (by omega) (by omega)
   have hl4:=cSs_len l4
   have t4:=p_markStringS nf hn hm l4 (j+(pfx cTm a i:Int)+1+1+1+1) (by omega) (by omega) (by omega)
   have t5:=p_markTypeS nf hn hm l5 (j+(pfx cTm a i:Int)+1+1+1+1+(cSs l4:Nat)) (by omega) (by omega) (by omega)
   have hl6:=cSs_len l6
   have t6:=p_markStringS nf hn hm l6 (j+(pfx cTm a i:Int)+1+1+1+1+(cSs l4:Nat)+(cTys l5:Nat)) (by omega) (by omega) (by omega)
   have t7:=ih l7 (j+(pfx cTm a i:Int)+1+1+1+1+(cSs l4:Nat)+(cTys l5:Nat)+(cSs l6:Nat)) (by omega) (by omega) (by omega) (by omega)
   have hk:j+(pfx cTm a i:Int)+1+1+1+1+(cSs l4:Nat)+(cTys l5:Nat)+(cSs l6:Nat)+(cTms l7:Nat)=j+(pfx cTm a (i+1):Int):=by omega
   have lset:∀y,((mkT fTm cTm a j i).set i y).length=a.length:=fun y=>by rw[List.length_set,hml]
   simp only[l6_Zao_eq,j37_Zao_eq,j35_Zao_eq,j33_Zao_eq,j29_Zao_eq,j25_Zao_eq,j21_Zao_eq,j17_Zao_eq,j38_Zao_eq,hml,lset,br_pos c0,gg_pos c1,hg,hset,List.set_set,cb_some,mark_eq,w64_nat (n:=i) (by omega),Int.toNat_natCast,w0,w1,t1,w2,w3,t4,t5,t6,t7,Tm.kind,Tm.name,Tm.n,Tm.type,Tm.labels,Tm.args,Ty.kind,Ty.labels,Ty.args,Comp.h_eq,FComp.h_eq,Head.h_eq,Plan.h_eq,Query.h_eq,TDecl.h_eq,Tm.h_eq,Ty.h_eq,Typing.h_eq,Val.h_eq,<-hk]
   first|rw[he]|(rw[<-he];done)|skip
  ·have c0:¬(a.length:Int)<(a.length:Int):=by omega
   have hml:(mkT fTm cTm a j a.length).length=a.length:=mkT_len _ _ a j (Nat.le_refl _)
   simp only[l6_Zao_eq,hml,br_neg c0]
   rw[mkT_all _ _ _ _ (Nat.le_refl _),pfx_all cTm a (Nat.le_refl _),fTms_eq,cTms_eq]
theorem p_markTermS(nf:Nat)(hn:30<nf)(hm:nf<=2147483647)(a:List Tm)(j:Int)(h':cTms a<nf):0<=j->j+(cTms a:Nat)<=4611686018427387904->m_Zao nf nf a j=some (fTms a j,j+(cTms a:Nat)):=g_markTermS nf hn hm nf a j h' h'
end Go.Q
