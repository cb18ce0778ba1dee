/- IsFlat, on both sides. -/
import Derived.Test.YtmkelbchboiliaaGreatV21
set_option linter.unusedVariables false
set_option linter.unusedSimpArgs false
set_option maxHeartbeats 2000000
namespace Go.Q
theorem zComps_at(f:FQuery){i:Nat}(hi:i<f.comps.length):1+zFComp (gt f.comps (i:Int) FComp.zero)<=zFQuery f:=by
 have:=szL_at zFComp f.comps hi FComp.zero
 have:=zFQuery_f f
 omega
theorem nAt_val(path:List Str):∀(k i:Nat) {t u:Ty},nAt path i k t=some u->nVal t=true->nHas 5 t=false->nVal u=true∧nHas 5 u=false
 |0,i,t,u,h,hv,h5=>by cases h;exact⟨hv,h5⟩
 |k+1,i,t,u,h,hv,h5=>by
  simp only[nAt,Option.bind_eq_some_iff]at h
  obtain⟨v,h1,h2⟩:=h
  have hF:=val_form hv
  have hp:nVal v=true∧nHas 5 v=false:=by
   unfold nStep at h1
   split at h1
   ·rename_i hc
    cases h1
    have hl:=form_bag hF hc.1
    have a:=val_at hv (i:=0) (by omega)
    have b:=has_at h5 (i:=0) (by omega)
    exact⟨a,b⟩
   ·split at h1
    ·rename_i hc
     cases h1
     have hl:=form_rec hF hc.1
     have hi:=idx_lt t.labels (gt path (i:Int) ([]:Str))
     obtain⟨n,hn⟩:∃n:Nat,idx t.labels (gt path (i:Int) ([]:Str))=(n:Int):=⟨(idx t.labels (gt path (i:Int) ([]:Str))).toNat,by omega⟩
     rw[hn]at hi⊢
     exact⟨val_at hv (by omega),has_at h5 (by omega)⟩
    ·cases h1
  exact nAt_val path k (i+1) h2 hp.1 hp.2
theorem p_IsFlat(nf:Nat)(hn:200000000<nf)(s:Schema)(f:FQuery)(t:Ty)(hS:8*zSchema s+1<nf)(hSb:zSchema s<=16777216)(hf:8*zFQuery f+3<nf)(hfb:zFQuery f<=1048576)(ht:8*zTy t+1<nf)(htb:zTy t<=1048576):Agree (m_Zn nf s f t) (m_Zbe nf s f t):=by
 have hz:=zFQuery_f f
 have l1:f.path.length<=szL List.length f.path:=by unfold szL;omega
 have l2:f.comps.length<=szL zFComp f.comps:=by unfold szL;omega
 have eA:=p_specTypeAt nf t f.path (by omega) (by omega) (by omega) (by omega)
 have i5t:j5_Zn nf s t f true=some false:=by rw[j5_Zn_eq,br_true]
 have s7t:∀r,j7_Zbe nf s f r true=some false:=fun r=>by rw[j7_Zbe_eq,br_true]
 rw[m_Zn_eq,m_Zbe_eq,p_implSchema nf s hS hSb,cb_some,Ty.h_eq,eA,cb_some,p_implData nf t ht (by omega),cb_some,p_specData nf t ht (by omega),cb_some,p_specSchema nf s hS hSb,cb_some]
 simp only[mark_eq,i5t,s7t]
 cases hs:nSchema s with
 |false=>
  refine⟨false,rfl,?_⟩
  rw[Bool.not_false,s7t]
  cases(atF t f.path).2<;>cases(nVal t&& !nHas 5 t)<;>cases((atF t f.path).1.kind==(4:Int))<;>rfl
 |true=>
  cases hd:(nVal t&& !nHas 5 t)with
  |false=>
   refine⟨false,?_,?_⟩
   ·rw[Bool.not_true,br_ff2,Bool.not_false,i5t]
   ·cases(atF t f.path).2<;>rfl
  |true=>
   simp only[Bool.and_eq_true,Bool.not_eq_true']at hd
   have hF:=val_form hd.1
   have hR:∀x∈s.tables,nVal x.row=true:=fun x hx=>by
    simp only[nSchema,Bool.and_eq_true]at hs
    have:=List.all_eq_true.1 hs.1 x hx
    simp only[nRow,Bool.and_eq_true]at this
    exact this.2.1
   have e:=p_typeAt nf f.path (by omega) (by omega) f.path.length 0 nf t (by omega) (by omega) hF (by omega) (by omega)
   have z0:((0:Nat):Int)=0:=rfl
   rw[z0]at e
   have hat:atF t f.path=resT (nAt f.path 0 f.path.length t):=if_pos hd.1
   rw[Bool.not_true,br_ff2,j5_Zn_eq,br_false,m_ZT_eq,mark_eq,e,cb_some,hat]
   cases hn2:nAt f.path 0 f.path.length t with
   |none=>
    refine⟨false,?_,rfl⟩
    rw[show(Option.isNone (none:Option Ty)==false)=false from rfl,br_false,mark_eq,j15_Zn_eq,br_true]
   |some u=>
    obtain⟨hv,h5⟩:=nAt_val f.path _ _ hn2 hd.1 hd.2
    rw[show(Option.isNone (some u)==false)=true from rfl,br_true,Option.bind_some,mark_eq,j15_Zn_eq]
    dsimp only[resT]
    rw[Bool.not_true,br_ff2]
    by_cases h4:u.kind=4
    ·have k4:(u.kind==(4:Int))=true:=by simp[h4]
     have ha:=form_bag (val_form hv) h4
     have hva:=val_at hv (i:=0) (by omega)
     have h5a:=has_at h5 (i:=0) (by omega)
     rw[z0]at hva h5a
     rw[k4,Bool.not_true,br_ff2,br_false,br_ff2,j7_Zbe_eq,br_false,mark_eq]
     have c2:0<=(0:Int)∧(0:Int)<(u.args.length:Int):=by omega
     have st:∀i,i<f.comps.length->Agree (m_ZB nf s (gt f.comps (i:Int) FComp.zero) (gt u.args (0:Int) Ty.zero)) (m_ZbA nf s (gt f.comps (i:Int) FComp.zero) (gt u.args (0:Int) Ty.zero)):=fun i hi=>by
      have:=zComps_at f hi
      exact p_flatComp nf hn s hS hSb hR _ _ (by omega) (by omega) hva h5a
     have a:=for_all (fun m i=>l16_Zbe nf m s f (u,true) i) f.comps.length (fun i=>bo (m_ZB nf s (gt f.comps (i:Int) FComp.zero) (gt u.args (0:Int) Ty.zero))) (some true) (some false) 0 (fun m i _ hi=> ?_) (fun m i hi=> ?_) nf (by omega) (by omega)
     ·have b:=for_find (fun m i=>l6_Zf nf m f.comps (some s) (some (some u)) i) f.comps.length (fun i=> !bo (m_ZB nf s (gt f.comps (i:Int) FComp.zero) (gt u.args (0:Int) Ty.zero))) 0 (fun m i _ hi=> ?_) (fun m i hi=> ?_) nf (by omega) (by omega)
      ·rw[z0,show f.comps.length-0=f.comps.length by omega]at a b
       rw[a,m_Zb_eq,m_Zf_eq,mark_eq,b,cb_some,cb_some,findI_all]
       simp only[Bool.not_not]
       cases allF (fun i=>bo (m_ZB nf s (gt f.comps (i:Int) FComp.zero) (gt u.args (0:Int) Ty.zero))) 0 f.comps.length
       ·exact⟨false,rfl,rfl⟩
       ·exact⟨true,rfl,rfl⟩
      ·obtain⟨x,e1,e2⟩:=st i hi
       have c0:(i:Int)<(f.comps.length:Int):=by omega
       have c1:0<=(i:Int)∧(i:Int)<(f.comps.length:Int):=by omega
       rw[l6_Zf_eq,br_pos c0,gg_pos c1,Option.bind_some,Option.bind_some,m_Zo_eq,Option.bind_some,gg_pos c2,FComp.h_eq,e1,cb_some,cb_some,mark_eq,w64_nat (n:=i) (by omega)]
       cases x<;>rfl
      ·have c0:¬(i:Int)<(f.comps.length:Int):=by omega
       rw[l6_Zf_eq,br_neg c0]
     ·obtain⟨x,e1,e2⟩:=st i hi
      have c0:(i:Int)<(f.comps.length:Int):=by omega
      have c1:0<=(i:Int)∧(i:Int)<(f.comps.length:Int):=by omega
      rw[l16_Zbe_eq,br_pos c0,gg_pos c1]
      dsimp only
      rw[gg_pos c2,e1,e2,cb_some,mark_eq,w64_nat (n:=i) (by omega)]
      cases x<;>rfl
     ·have c0:¬(i:Int)<(f.comps.length:Int):=by omega
      rw[l16_Zbe_eq,br_neg c0]
    ·have k4:(u.kind==(4:Int))=false:=by simp[h4]
     refine⟨false,?_,?_⟩
     ·rw[k4,Bool.not_false,br_true]
     ·rw[k4];rfl
end Go.Q
