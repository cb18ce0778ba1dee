/- Valid terms, schemas and contexts; rows, equal types. -/
import Derived.Test.YtmkelbchboiliaaGreatV3p
import Derived.Test.YtmkelbchboiliaaGreatV7p
set_option linter.unusedVariables false
set_option linter.unusedSimpArgs false
set_option maxHeartbeats 2000000
namespace Go.Q
theorem zTm_at(e:Tm){i:Nat}(h:i<e.args.length):1+zTm (gt e.args (i:Int) Tm.zero)<=zTm e:=by
 have:=szL_at zTm e.args h Tm.zero
 have:=zTm_f e
 omega
theorem zTm_len(e:Tm):e.args.length<=zTm e:=by
 have:=zTm_f e
 have l2:e.args.length<=szL zTm e.args:=by unfold szL;omega
 omega
theorem p_specFormT(nf:Nat):∀(kf:Nat) (e:Tm),8*zTm e+1<kf->8*zTm e+1<nf->zTm e<=16777216->m_ZbR nf kf e=some (nFormT e)
 |0,e,h,_,_=>absurd h (Nat.not_lt_zero _)
 |kf+1,e,h,h',hb=>by
  have hl:=zTm_len e
  rw[m_ZbR_eq,mark_eq]
  have:=for_all (fun m i=>l6_ZbR nf (kf+1) m e i) e.args.length (fun i=>nFormT (gt e.args (i:Int) Tm.zero)) (j23_ZbR nf (kf+1) e) (some false) 0 (fun m i hp hi=> ?_) (fun m i hi=> ?_) nf (by omega) (by omega)
  ·have e0:((0:Nat):Int)=(0:Int):=rfl
   rw[e0]at this
   rw[this,show e.args.length-0=e.args.length by omega,allF_all nFormT Tm.zero,nFormT_eq,j23_ZbR_eq,Tm.h_eq,p_fields nf e h' hb,cb_some,p_arity,cb_some,<-node_same]
   generalize ((e.args.length:Int)==arB e)=A
   cases e.args.all nFormT<;>cases fldB e<;>cases A<;>rfl
  ·have c0:(i:Int)<(e.args.length:Int):=by omega
   have c1:0<=(i:Int)∧(i:Int)<(e.args.length:Int):=by omega
   have hs:=zTm_at e hi
   have e1:=p_specFormT nf kf (gt e.args (i:Int) Tm.zero) (by omega) (by omega) (by omega)
   rw[l6_ZbR_eq,br_pos c0,gg_pos c1,e1,cb_some,mark_eq,w64_nat (n:=i) (by omega)]
   cases nFormT (gt e.args (i:Int) Tm.zero)<;>rfl
  ·have c0:¬(i:Int)<(e.args.length:Int):=by omega
   rw[l6_ZbR_eq,br_neg c0,mark_eq]
theorem p_implFormT(nf:Nat):∀(kf:Nat) (e:Tm),8*zTm e+1<kf->8*zTm e+1<nf->zTm e<=16777216->m_ZS nf kf e=some (nFormT e)
 |0,e,h,_,_=>absurd h (Nat.not_lt_zero _)
 |kf+1,e,h,h',hb=>by
  have hl:=zTm_len e
  rw[m_ZS_eq,p_node nf e h' hb,cb_some,mark_eq,nFormT_eq]
  have:=for_all (fun m i=>l14_ZS nf (kf+1) m e i) e.args.length (fun i=>nFormT (gt e.args (i:Int) Tm.zero)) (some true) (some false) 0 (fun m i hp hi=> ?_) (fun m i hi=> ?_) nf (by omega) (by omega)
  ·have e0:((0:Nat):Int)=(0:Int):=rfl
   rw[e0]at this
   rw[this,show e.args.length-0=e.args.length by omega,allF_all nFormT Tm.zero]
   cases nodeOk e<;>cases e.args.all nFormT<;>rfl
  ·have c0:(i:Int)<(e.args.length:Int):=by omega
   have c1:0<=(i:Int)∧(i:Int)<(e.args.length:Int):=by omega
   have hs:=zTm_at e hi
   have e1:=p_implFormT nf kf (gt e.args (i:Int) Tm.zero) (by omega) (by omega) (by omega)
   rw[l14_ZS_eq,br_pos c0,gg_pos c1,e1,cb_some,mark_eq,w64_nat (n:=i) (by omega)]
   cases nFormT (gt e.args (i:Int) Tm.zero)<;>rfl
  ·have c0:¬(i:Int)<(e.args.length:Int):=by omega
   rw[l14_ZS_eq,br_neg c0]
theorem p_isPlain(nf:Nat)(t:Ty):m_ZH nf t=some (isBase t):=by
 rw[m_ZH_eq];unfold isBase
 cases(t.kind==(1:Int))<;>rfl
theorem p_base(nf:Nat)(t:Ty):m_ZbE nf t=some (isBase t):=by
 rw[m_ZbE_eq];unfold isBase
 cases(t.kind==(1:Int))<;>rfl
theorem p_implRow(nf:Nat)(t:Ty)(h:8*zTy t+1<nf)(hb:zTy t<=16777216):m_Zq nf t=some (nRow t):=by
 have hz:=zTy_f t
 have l2:t.args.length<=szL zTy t.args:=by unfold szL;omega
 have hI:m_Ze nf t.args=some (findI (fun i=> !isBase (gt t.args (i:Int) Ty.zero)) 0 t.args.length):=by
  rw[m_Ze_eq,mark_eq]
  have:=for_find (fun m i=>l6_Ze nf m t.args i) t.args.length (fun i=> !isBase (gt t.args (i:Int) Ty.zero)) 0 (fun m i hp hi=> ?_) (fun m i hi=> ?_) nf (by omega) (by omega)
  ·exact this
  ·have c0:(i:Int)<(t.args.length:Int):=by omega
   have c1:0<=(i:Int)∧(i:Int)<(t.args.length:Int):=by omega
   rw[l6_Ze_eq,br_pos c0,gg_pos c1,m_Zr_eq,Ty.h_eq,p_isPlain,cb_some,cb_some,mark_eq,w64_nat (n:=i) (by omega)]
   cases isBase (gt t.args (i:Int) Ty.zero)<;>rfl
  ·have c0:¬(i:Int)<(t.args.length:Int):=by omega
   rw[l6_Ze_eq,br_neg c0]
 have hC:m_Za nf t.args=some (!t.args.all isBase):=by
  rw[m_Za_eq,hI,cb_some,findI_all]
  have e:(fun j:Nat=> !(!isBase (gt t.args (j:Int) Ty.zero)))=fun j:Nat=>isBase (gt t.args (j:Int) Ty.zero):=by funext j;simp
  rw[e,allF_all isBase Ty.zero]
 rw[m_Zq_eq,Ty.h_eq,p_implValid nf t h hb,cb_some,hC,cb_some]
 unfold nRow
 generalize (t.kind==(3:Int))=k3
 cases nVal t<;>cases k3<;>cases t.args.all isBase<;>rfl
theorem p_specRow(nf:Nat)(t:Ty)(h:8*zTy t+1<nf)(hb:zTy t<=16777216):m_Zbg nf t=some (nRow t):=by
 have hz:=zTy_f t
 have l2:t.args.length<=szL zTy t.args:=by unfold szL;omega
 have hL:l14_Zbg nf nf t (0:Int)=some (t.args.all isBase):=by
  have:=for_all (fun m i=>l14_Zbg nf m t i) t.args.length (fun i=>isBase (gt t.args (i:Int) Ty.zero)) (some true) (some false) 0 (fun m i hp hi=> ?_) (fun m i hi=> ?_) nf (by omega) (by omega)
  ·have e0:((0:Nat):Int)=(0:Int):=rfl
   rw[e0]at this
   rw[this,show t.args.length-0=t.args.length by omega,allF_all isBase Ty.zero]
   cases t.args.all isBase<;>rfl
  ·have c0:(i:Int)<(t.args.length:Int):=by omega
   have c1:0<=(i:Int)∧(i:Int)<(t.args.length:Int):=by omega
   rw[l14_Zbg_eq,br_pos c0,gg_pos c1,p_base,cb_some,mark_eq,w64_nat (n:=i) (by omega)]
   cases isBase (gt t.args (i:Int) Ty.zero)<;>rfl
  ·have c0:¬(i:Int)<(t.args.length:Int):=by omega
   rw[l14_Zbg_eq,br_neg c0]
 rw[m_Zbg_eq,Ty.h_eq,p_specValid nf t h hb,cb_some]
 simp only[j5_Zbg_eq,mark_eq,hL]
 unfold nRow
 generalize (t.kind==(3:Int))=k3
 cases nVal t<;>cases k3<;>cases t.args.all isBase<;>rfl
theorem gt_map{α β:Type}(f:α->β)(xs:List α)(i:Nat)(z:α)(h:i<xs.length):gt (xs.map f) (i:Int) (f z)=f (gt xs (i:Int) z):=by
 rw[gt_at xs i h,gt_at (xs.map f) i (by simpa using h)]
 simp
theorem zTD_at(s:Schema){i:Nat}(h:i<s.tables.length):1+(gt s.tables (i:Int) TDecl.zero).name.length+zTy (gt s.tables (i:Int) TDecl.zero).row<=zSchema s:=by
 have h1:=szL_at zTDecl s.tables h TDecl.zero
 have h2:=zSchema_f s
 have h3:zTDecl (gt s.tables (i:Int) TDecl.zero)=(gt s.tables (i:Int) TDecl.zero).name.length+zTy (gt s.tables (i:Int) TDecl.zero).row:=rfl
 omega
theorem allF_and(f g:Nat->Bool):∀(k i:Nat),allF (fun j=>f j&&g j) i k=(allF f i k&&allF g i k)
 |0,i=>rfl
 |k+1,i=>by
  simp only[allF,allF_and f g k (i+1)]
  cases f i<;>cases g i<;>cases allF f (i+1) k<;>cases allF g (i+1) k<;>rfl
theorem asc_map(ts:List TDecl):nAsc (ts.map (·.name))=allF (fun i=>(i==0)||Op.bytesLess (gt ts ((i:Int)-1) TDecl.zero).name (gt ts (i:Int) TDecl.zero).name) 0 ts.length:=by
 unfold nAsc
 rw[List.length_map]
 cases hn:ts.length with
 |zero=>rfl
 |succ n=>
  simp only[allF,beq_self_eq_true,Bool.true_or,Bool.true_and,Nat.add_sub_cancel]
  refine allF_congr fun j h1 h2=> ?_
  have hj:((j:Int)-1)=((j-1:Nat):Int):=by omega
  have e1:=gt_map (·.name) ts j TDecl.zero (by omega)
  have e2:=gt_map (·.name) ts (j-1) TDecl.zero (by omega)
  have z:TDecl.zero.name=([]:Str):=rfl
  rw[z]at e1 e2
  have hj0:(j==0)=false:=by simp;omega
  rw[hj,e1,e2,hj0];rfl
theorem p_implSchema(nf:Nat)(s:Schema)(h:8*zSchema s+1<nf)(hb:zSchema s<=16777216):m_Zs nf s=some (nSchema s):=by
 have hz:=zSchema_f s
 have l2:s.tables.length<=szL zTDecl s.tables:=by unfold szL;omega
 rw[m_Zs_eq,mark_eq]
 have:=for_all (fun m i=>l6_Zs nf m s i) s.tables.length (fun i=>(nNm (gt s.tables (i:Int) TDecl.zero).name&&nRow (gt s.tables (i:Int) TDecl.zero).row)&&((i==0)||Op.bytesLess (gt s.tables ((i:Int)-1) TDecl.zero).name (gt s.tables (i:Int) TDecl.zero).name)) (some (decide ((s.tables.length:Int)<=4))) (some false) 0 (fun m i hp hi=> ?_) (fun m i hi=> ?_) nf (by omega) (by omega)
 ·have e0:((0:Nat):Int)=(0:Int):=rfl
  rw[e0]at this
  rw[this,show s.tables.length-0=s.tables.length by omega,allF_and,allF_all (fun t=>nNm t.name&&nRow t.row) TDecl.zero,<-asc_map]
  unfold nSchema
  have c2:decide ((s.tables.length:Int)<=4)=decide (s.tables.length<=4):=decide_eq_decide.2 (by omega)
  rw[c2]
  generalize s.tables.all (fun t=>nNm t.name&&nRow t.row)=A
  cases A<;>cases decide (s.tables.length<=4)<;>cases nAsc (s.tables.map (·.name))<;>rfl
 ·have c0:(i:Int)<(s.tables.length:Int):=by omega
  have c1:0<=(i:Int)∧(i:Int)<(s.tables.length:Int):=by omega
  have hs:=zTD_at s hi
  have e1:=p_implName nf (gt s.tables (i:Int) TDecl.zero).name (by omega) (by omega)
  have e2:=p_implRow nf (gt s.tables (i:Int) TDecl.zero).row (by omega) (by omega)
  have h19:∀b,j19_Zs nf m s (i:Int) b=br b (some false) (l6_Zs nf m s ((i+1:Nat):Int)):=fun b=>by rw[j19_Zs_eq,mark_eq,w64_nat (n:=i) (by omega)]
  have ew:w64 ((i:Int)-1)=(i:Int)-1:=w64_id (by omega) (by omega)
  rw[l6_Zs_eq,br_pos c0,gg_pos c1,e1,cb_some,Ty.h_eq,e2,cb_some,ew]
  simp only[h19,mark_eq]
  generalize l6_Zs nf m s ((i+1:Nat):Int)=X
  by_cases hi0:i=0
  ·subst hi0
   have b0:decide ((0:Int)<((0:Nat):Int))=false:=rfl
   rw[b0]
   cases nNm (gt s.tables ((0:Nat):Int) TDecl.zero).name<;>cases nRow (gt s.tables ((0:Nat):Int) TDecl.zero).row<;>rfl
  ·have b0:decide ((0:Int)<(i:Int))=true:=decide_eq_true (by omega)
   have b1:(i==0)=false:=by simp;omega
   rw[b0,b1,gg_pos (by omega)]
   generalize Op.bytesLess (gt s.tables ((i:Int)-1) TDecl.zero).name (gt s.tables (i:Int) TDecl.zero).name=L
   cases nNm (gt s.tables (i:Int) TDecl.zero).name<;>cases nRow (gt s.tables (i:Int) TDecl.zero).row<;>cases L<;>rfl
 ·have c0:¬(i:Int)<(s.tables.length:Int):=by omega
  rw[l6_Zs_eq,br_neg c0]
theorem allF_false{ok:Nat->Bool}:∀ {k i j:Nat},i<=j->j<i+k->ok j=false->allF ok i k=false
 |0,i,j,h1,h2,_=>by omega
 |k+1,i,j,h1,h2,h3=>by
  simp only[allF]
  by_cases e:j=i
  ·subst e;rw[h3];rfl
  ·rw[allF_false (k:=k) (i:=i+1) (j:=j) (by omega) (by omega) h3,Bool.and_false]
theorem p_specSchema(nf:Nat)(s:Schema)(h:8*zSchema s+1<nf)(hb:zSchema s<=16777216):m_Zbh nf s=some (nSchema s):=by
 have hz:=zSchema_f s
 have l2:s.tables.length<=szL zTDecl s.tables:=by unfold szL;omega
 rw[m_Zbh_eq,mark_eq]
 have H:=for_rel (fun m i (y:List Str)=>l8_Zbh nf m s i y) s.tables.length (fun i y=>y=(s.tables.take i).map (·.name)∧allF (fun i=>nNm (gt s.tables (i:Int) TDecl.zero).name&&nRow (gt s.tables (i:Int) TDecl.zero).row) 0 i=true) (fun r=>r=nSchema s) (fun m i y hi hI=> ?_) (fun m y hI=> ?_) nf [] (by omega) ⟨by simp,rfl⟩
 ·obtain⟨r,e,hr⟩:=H
  rw[e,hr]
 ·obtain⟨rfl,hI⟩:=hI
  have c0:(i:Int)<(s.tables.length:Int):=by omega
  have c1:0<=(i:Int)∧(i:Int)<(s.tables.length:Int):=by omega
  have hs:=zTD_at s hi
  have e1:=p_specName nf (gt s.tables (i:Int) TDecl.zero).name (by omega) (by omega)
  have e2:=p_specRow nf (gt s.tables (i:Int) TDecl.zero).row (by omega) (by omega)
  have hl:((s.tables.take i).map (·.name)).length=i:=by rw[List.length_map,List.length_take];omega
  by_cases hok:(nNm (gt s.tables (i:Int) TDecl.zero).name&&nRow (gt s.tables (i:Int) TDecl.zero).row)=true
  ·refine .inr ⟨(s.tables.take (i+1)).map (·.name),⟨rfl,?_⟩,?_⟩
   ·have key:∀(f:Nat->Bool) (k j:Nat),allF f j k=true->f (j+k)=true->allF f j (k+1)=true:=by
     intro f k
     induction k with
     |zero=>intro j _ h;simpa[allF]using h
     |succ k ih=>
      intro j h1 h2
      simp only[allF,Bool.and_eq_true]at h1
      have:=ih (j+1) h1.2 (by rw[show j+1+k=j+(k+1) by omega];exact h2)
      simp only[allF]at this⊢
      rw[h1.1,this];rfl
    exact key _ i 0 hI (by simpa using hok)
   ·simp only[Bool.and_eq_true]at hok
    rw[l8_Zbh_eq,br_pos c0,gg_pos c1,e1,cb_some,hok.1,Bool.not_true,br_ff2,gg_pos c1,e2,cb_some,hok.2,Bool.not_true,mark_eq,j20_Zbh_eq,br_false,gg_pos c1,gg_pos (by rw[hl];simp;omega),mark_eq,w64_nat (n:=i) (by omega),<-take_gt s.tables hi TDecl.zero,List.map_append]
    rfl
  ·have hof:(nNm (gt s.tables (i:Int) TDecl.zero).name&&nRow (gt s.tables (i:Int) TDecl.zero).row)=false:=by simpa using hok
   refine .inl ⟨false,?_,?_⟩
   ·rw[l8_Zbh_eq,br_pos c0,gg_pos c1,e1,cb_some,gg_pos c1,e2,cb_some]
    have h20:j20_Zbh nf m (i:Int) s ((s.tables.take i).map (·.name)) true=some false:=by rw[j20_Zbh_eq,br_true]
    rcases Bool.and_eq_false_iff.1 hof with hh|hh
    ·rw[hh,Bool.not_false,br_tf,mark_eq,h20]
    ·rw[hh,Bool.not_false,mark_eq,h20]
     cases nNm (gt s.tables (i:Int) TDecl.zero).name<;>rfl
   ·unfold nSchema
    rw[<-allF_all (fun t=>nNm t.name&&nRow t.row) TDecl.zero,allF_false (j:=i) (by omega) (by omega) hof]
    rfl
 ·obtain⟨rfl,hI⟩:=hI
  have c0:¬(s.tables.length:Int)<(s.tables.length:Int):=by omega
  refine⟨_,?_,rfl⟩
  have hlm:(s.tables.map (·.name)).length=s.tables.length:=List.length_map ..
  rw[l8_Zbh_eq,br_neg c0,mark_eq,j27_Zbh_eq,List.take_length,p_specAsc nf _ (by rw[hlm];omega) (by rw[hlm];omega),cb_some,hlm]
  unfold nSchema
  rw[<-allF_all (fun t=>nNm t.name&&nRow t.row) TDecl.zero,hI]
  have c2:decide ((s.tables.length:Int)<=4)=decide (s.tables.length<=4):=decide_eq_decide.2 (by omega)
  rw[c2]
  cases decide (s.tables.length<=4)<;>cases nAsc (s.tables.map (·.name))<;>rfl
end Go.Q
