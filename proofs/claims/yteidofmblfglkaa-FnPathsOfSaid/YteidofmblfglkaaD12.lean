/- The type at a path: what both sides give. -/
import Derived.Test.YteidofmblfglkaaD2p
import Derived.Test.YteidofmblfglkaaD9p
import Derived.Test.YteidofmblfglkaaC3
set_option linter.unusedVariables false
set_option linter.unusedSimpArgs false
set_option maxHeartbeats 1000000
namespace Go.Q
theorem br_ff{R:Type}(x y:Option R):br (false==true) x y=y:=rfl
def idx(xs:List Str)(s:Str):Int:=findI (fun i=>gt xs (i:Int) ([]:Str)==s) 0 xs.length
theorem idx_lt(xs:List Str)(s:Str):idx xs s<(xs.length:Int):=by
 have:=findI_lt (fun i=>gt xs (i:Int) ([]:Str)==s) xs.length 0
 unfold idx;omega
theorem p_specIdx(nf:Nat)(xs:List Str)(s:Str)(h:xs.length+1<nf)(hb:xs.length<=16777216):m_ZO nf xs s=some (idx xs s):=by
 rw[m_ZO_eq,mark_eq]
 have:=for_find (fun m i=>l6_ZO nf m xs s i) xs.length (fun i=>gt xs (i:Int) ([]:Str)==s) 0 (fun m i hp hi=> ?_) (fun m i hi=> ?_) nf (by omega) (by omega)
 ·exact this
 ·have c0:(i:Int)<(xs.length:Int):=by omega
  have c1:0<=(i:Int)∧(i:Int)<(xs.length:Int):=by omega
  rw[l6_ZO_eq,br_pos c0,gg_pos c1,mark_eq,w64_nat (n:=i) (by omega)]
  cases(gt xs (i:Int) ([]:Str)==s)<;>rfl
 ·have c0:¬(i:Int)<(xs.length:Int):=by omega
  rw[l6_ZO_eq,br_neg c0]
theorem p_implIdx(nf:Nat)(xs:List Str)(s:Str)(h:xs.length+1<nf)(hb:xs.length<=16777216):m_ZF nf xs s=some (idx xs s):=by
 rw[m_ZF_eq,mark_eq]
 have:=for_find (fun m i=>l6_ZF nf m xs s i) xs.length (fun i=>gt xs (i:Int) ([]:Str)==s) 0 (fun m i hp hi=> ?_) (fun m i hi=> ?_) nf (by omega) (by omega)
 ·exact this
 ·have c0:(i:Int)<(xs.length:Int):=by omega
  have c1:0<=(i:Int)∧(i:Int)<(xs.length:Int):=by omega
  rw[l6_ZF_eq,br_pos c0,gg_pos c1,mark_eq,w64_nat (n:=i) (by omega)]
  have:(s==gt xs (i:Int) ([]:Str))=(gt xs (i:Int) ([]:Str)==s):=Bool.beq_comm
  rw[this]
  cases(gt xs (i:Int) ([]:Str)==s)<;>rfl
 ·have c0:¬(i:Int)<(xs.length:Int):=by omega
  rw[l6_ZF_eq,br_neg c0]
def nStep(t:Ty)(s:Str):Option Ty:=
 if t.kind=4∧s=[33]then some (gt t.args (0:Int) Ty.zero)else if t.kind=3∧0<=idx t.labels s then some (gt t.args (idx t.labels s) Ty.zero)else none
def nAt(path:List Str):Nat->Nat->Ty->Option Ty
 |_,0,t=>some t
 |i,k+1,t=>(nStep t (gt path (i:Int) ([]:Str))).bind (nAt path (i+1) k)
theorem nStep_ok{t u:Ty}{s:Str}(h:nStep t s=some u)(hF:nForm t=true):nForm u=true∧zTy u<=zTy t:=by
 have hz:=zTy_f t
 unfold nStep at h
 split at h
 ·rename_i hc
  cases h
  have hl:=form_bag hF hc.1
  have hf2:=form_at hF (i:=0) (by omega)
  have hs:=szL_at zTy t.args (i:=0) (by omega) Ty.zero
  have z0:((0:Nat):Int)=0:=rfl
  rw[z0]at hs hf2
  exact⟨hf2,by omega⟩
 ·split at h
  ·rename_i hc
   cases h
   have hl:=form_rec hF hc.1
   have hi:=idx_lt t.labels s
   obtain⟨n,hn⟩:∃n:Nat,idx t.labels s=(n:Int):=⟨(idx t.labels s).toNat,by omega⟩
   rw[hn]at hi⊢
   have hf2:=form_at hF (i:=n) (by omega)
   have hs:=szL_at zTy t.args (i:=n) (by omega) Ty.zero
   exact⟨hf2,by omega⟩
  ·cases h
theorem nAt_ok(path:List Str):∀(k i:Nat) {t u:Ty},nAt path i k t=some u->nForm t=true->zTy u<=zTy t
 |0,i,t,u,h,_=>by cases h;exact Nat.le_refl _
 |k+1,i,t,u,h,hF=>by
  simp only[nAt,Option.bind_eq_some_iff]at h
  obtain⟨v,h1,h2⟩:=h
  obtain⟨h3,h4⟩:=nStep_ok h1 hF
  exact Nat.le_trans (nAt_ok path k (i+1) h2 h3) h4
theorem p_typeAt(nf:Nat)(path:List Str)(hp:path.length+1<nf)(hpb:path.length<=16777216):∀(k i m:Nat) (t:Ty),i+k=path.length->k<m->nForm t=true->zTy t<=16777216->zTy t+1<nf->l6_Zu nf m path t (i:Int)=some (nAt path i k t)
 |0,i,m,t,hi,hm,_,_,_=>by
  obtain⟨m,rfl⟩:∃m',m=m'+1:=⟨m-1,by omega⟩
  have c0:¬(i:Int)<(path.length:Int):=by omega
  rw[l6_Zu_eq,br_neg c0]
  rfl
 |k+1,i,m,t,hi,hm,hF,hb,hbn=>by
  obtain⟨m,rfl⟩:∃m',m=m'+1:=⟨m-1,by omega⟩
  have hz:=zTy_f t
  have l1:t.labels.length<=szL List.length t.labels:=by unfold szL;omega
  have c0:(i:Int)<(path.length:Int):=by omega
  have c1:0<=(i:Int)∧(i:Int)<(path.length:Int):=by omega
  generalize hsv:gt path (i:Int) ([]:Str)=s
  have hi2:=idx_lt t.labels s
  have next:∀u,nStep t s=some u->l6_Zu nf m path u ((i+1:Nat):Int)=some (nAt path (i+1) k u):=fun u hu=>by
   obtain⟨h3,h4⟩:=nStep_ok hu hF
   exact p_typeAt nf path hp hpb k (i+1) m u (by omega) (by omega) h3 (by omega) (by omega)
  have hg:nAt path i (k+1) t=(nStep t s).bind (nAt path (i+1) k):=by simp only[nAt,hsv]
  have b4:(t.kind==(4:Int))=decide (t.kind=4):=rfl
  have b3:(t.kind==(3:Int))=decide (t.kind=3):=rfl
  have h24:t.kind=3->¬(t.kind=4∧s=[33])->∀b,b=decide (0<=idx t.labels s)->j24_Zu nf m t path (i:Int) b=some (nAt path i (k+1) t):=fun h3 hn b hb2=>by
   rw[j24_Zu_eq,hsv,p_implIdx nf t.labels s (by omega) (by omega),cb_some,hg]
   by_cases hx:0<=idx t.labels s
   ·have hst:nStep t s=some (gt t.args (idx t.labels s) Ty.zero):=by unfold nStep;rw[if_neg hn,if_pos ⟨h3,hx⟩]
    have hl:=form_rec hF h3
    rw[hb2,decide_eq_true hx,br_true,gg_pos (by omega),mark_eq,w64_nat (n:=i) (by omega),next _ hst,hst]
    rfl
   ·have hst:nStep t s=none:=by unfold nStep;rw[if_neg hn,if_neg (fun h=>hx h.2)]
    rw[hb2,decide_eq_false hx,br_false,hst]
    rfl
  have h24f:¬(t.kind=4∧s=[33])->¬t.kind=3->j24_Zu nf m t path (i:Int) false=some (nAt path i (k+1) t):=fun hn h3=>by
   have hst:nStep t s=none:=by unfold nStep;rw[if_neg hn,if_neg (fun h=>h3 h.1)]
   rw[j24_Zu_eq,br_false,hg,hst]
   rfl
  have h20f:¬(t.kind=4∧s=[33])->j20_Zu nf m t path (i:Int) false=some (nAt path i (k+1) t):=fun hn=>by
   rw[j20_Zu_eq,br_false,b3]
   by_cases h3:t.kind=3
   ·rw[decide_eq_true h3,beq_self_eq_true,br_true,hsv,m_ZC_eq,p_implIdx nf t.labels s (by omega) (by omega),cb_some,cb_some,mark_eq,h24 h3 hn _ rfl]
   ·rw[decide_eq_false h3,br_ff,mark_eq,h24f hn h3]
  rw[l6_Zu_eq,br_pos c0,gg_pos c1,b4,hsv]
  by_cases h4:t.kind=4
  ·rw[decide_eq_true h4,beq_self_eq_true,br_true,mark_eq]
   by_cases hs:s=[33]
   ·have hst:nStep t s=some (gt t.args (0:Int) Ty.zero):=by unfold nStep;rw[if_pos ⟨h4,hs⟩]
    have hl:=form_bag hF h4
    have:(s==([33]:Str))=true:=by simp[hs]
    rw[this,j20_Zu_eq,br_true,gg_pos (by omega),mark_eq,w64_nat (n:=i) (by omega),next _ hst,hg,hst]
    rfl
   ·have:(s==([33]:Str))=false:=by simpa using hs
    rw[this,h20f (fun h=>hs h.2)]
  ·rw[decide_eq_false h4,br_ff,mark_eq,h20f (fun h=>h4 h.1)]
def resT:Option Ty->Ty×Bool
 |some u=>(u,true)
 |none=>(Ty.mk 0 [] [],false)
theorem p_specAt(nf:Nat)(path:List Str)(hp:path.length+1<nf)(hpb:path.length<=16777216):∀(k i m:Nat) (t:Ty),i+k=path.length->k<m->nForm t=true->zTy t<=1048576->8*zTy t+1<nf->l14_ZV nf m path (i:Int) t.kind t.labels t.args=some (resT (nAt path i k t))
 |0,i,m,t,hi,hm,_,hb,hbn=>by
  obtain⟨m,rfl⟩:∃m',m=m'+1:=⟨m-1,by omega⟩
  have c0:¬(i:Int)<(path.length:Int):=by omega
  rw[l14_ZV_eq,br_neg c0,mark_eq,j38_ZV_eq,Ty.eta,p_l3Copy nf nf t hbn hbn (by omega),cb_some]
  first|rfl|(rw[Ty.h_eq];rfl)
 |k+1,i,m,t,hi,hm,hF,hb,hbn=>by
  obtain⟨m,rfl⟩:∃m',m=m'+1:=⟨m-1,by omega⟩
  have hz:=zTy_f t
  have l1:t.labels.length<=szL List.length t.labels:=by unfold szL;omega
  have c0:(i:Int)<(path.length:Int):=by omega
  have c1:0<=(i:Int)∧(i:Int)<(path.length:Int):=by omega
  generalize hsv:gt path (i:Int) ([]:Str)=s
  have hi2:=idx_lt t.labels s
  have next:∀u,nStep t s=some u->l14_ZV nf m path ((i+1:Nat):Int) u.kind u.labels u.args=some (resT (nAt path (i+1) k u)):=fun u hu=>by
   obtain⟨h3,h4⟩:=nStep_ok hu hF
   exact p_specAt nf path hp hpb k (i+1) m u (by omega) (by omega) h3 (by omega) (by omega)
  have hg:nAt path i (k+1) t=(nStep t s).bind (nAt path (i+1) k):=by simp only[nAt,hsv]
  have b4:(t.kind==(4:Int))=decide (t.kind=4):=rfl
  have b3:(t.kind==(3:Int))=decide (t.kind=3):=rfl
  have h28f:¬(t.kind=4∧s=[33])->j28_ZV nf m path (i:Int) (idx t.labels s) t.kind t.labels t.args false=some (resT (nAt path i (k+1) t)):=fun hn=>by
   rw[j28_ZV_eq,br_false,b3,hg]
   by_cases h3:t.kind=3
   ·rw[decide_eq_true h3,beq_self_eq_true,br_true,mark_eq,j32_ZV_eq]
    by_cases hx:0<=idx t.labels s
    ·have hst:nStep t s=some (gt t.args (idx t.labels s) Ty.zero):=by unfold nStep;rw[if_neg hn,if_pos ⟨h3,hx⟩]
     have hl:=form_rec hF h3
     rw[decide_eq_true hx,br_true,gg_pos (by omega),mark_eq,w64_nat (n:=i) (by omega),next _ hst,hst]
     rfl
    ·have hst:nStep t s=none:=by unfold nStep;rw[if_neg hn,if_neg (fun h=>hx h.2)]
     rw[decide_eq_false hx,br_false,hst]
     rfl
   ·have hst:nStep t s=none:=by unfold nStep;rw[if_neg hn,if_neg (fun h=>h3 h.1)]
    rw[decide_eq_false h3,br_ff,mark_eq,j32_ZV_eq,br_false,hst]
    rfl
  rw[l14_ZV_eq,br_pos c0,gg_pos c1,hsv,p_specIdx nf t.labels s (by omega) (by omega),cb_some,b4]
  by_cases h4:t.kind=4
  ·rw[decide_eq_true h4,beq_self_eq_true,br_true,gg_pos c1,mark_eq]
   by_cases hs:s=[33]
   ·have hst:nStep t s=some (gt t.args (0:Int) Ty.zero):=by unfold nStep;rw[if_pos ⟨h4,hs⟩]
    have hl:=form_bag hF h4
    have:(s==([33]:Str))=true:=by simp[hs]
    rw[this,j28_ZV_eq,br_true,gg_pos (by omega),mark_eq,w64_nat (n:=i) (by omega),next _ hst,hg,hst]
    rfl
   ·have:(s==([33]:Str))=false:=by simpa using hs
    rw[this,h28f (fun h=>hs h.2)]
  ·rw[decide_eq_false h4,br_ff,mark_eq,h28f (fun h=>h4 h.1)]
def atF(t:Ty)(path:List Str):Ty×Bool:=if nVal t=true then resT (nAt path 0 path.length t)else(Ty.mk 0 [] [],false)
theorem p_implTypeAt(nf:Nat)(t:Ty)(path:List Str)(h:8*zTy t+1<nf)(hb:zTy t<=1048576)(hp:path.length+1<nf)(hpb:path.length<=16777216):m_Zm nf t path=some (atF t path):=by
 rw[m_Zm_eq,p_implValid nf t h (by omega),cb_some]
 unfold atF
 cases hv:nVal t with
 |false=>rfl
 |true=>
  have hF:nForm t=true:=by simp only[nVal,Bool.and_eq_true]at hv;exact hv.2.2
  have e:=p_typeAt nf path hp hpb path.length 0 nf t (by omega) (by omega) hF (by omega) (by omega)
  have z0:((0:Nat):Int)=0:=rfl
  rw[z0]at e
  have e2:m_Zu nf t path=some (nAt path 0 path.length t):=by rw[m_Zu_eq,mark_eq,e]
  rw[Bool.not_true,br_false,e2,cb_some]
  cases hn:nAt path 0 path.length t with
  |none=>rfl
  |some u=>
   have hz:=nAt_ok path path.length 0 hn hF
   show cb (m_Zo nf nf u) _=_
   rw[p_cloneType nf nf u (by omega) (by omega) (by omega),cb_some,Ty.h_eq]
   rfl
theorem p_specTypeAt(nf:Nat)(t:Ty)(path:List Str)(h:8*zTy t+1<nf)(hb:zTy t<=1048576)(hp:path.length+1<nf)(hpb:path.length<=16777216):m_ZV nf t path=some (atF t path):=by
 rw[m_ZV_eq,Ty.h_eq,p_specValid nf t h (by omega),cb_some]
 unfold atF
 cases hv:nVal t with
 |false=>rfl
 |true=>
  have hF:nForm t=true:=by simp only[nVal,Bool.and_eq_true]at hv;exact hv.2.2
  have e:=p_specAt nf path hp hpb path.length 0 nf t (by omega) (by omega) hF (by omega) (by omega)
  have z0:((0:Nat):Int)=0:=rfl
  rw[z0]at e
  rw[Bool.not_true,br_false,mark_eq,e]
  rfl
theorem atF_z(t:Ty)(path:List Str):zTy (atF t path).1<=zTy t:=by
 unfold atF
 split
 ·rename_i hv
  have hF:nForm t=true:=by simp only[nVal,Bool.and_eq_true]at hv;exact hv.2.2
  cases hn:nAt path 0 path.length t with
  |none=>simp[resT,zTy_f,Ty.labels,Ty.args,szL]
  |some u=>exact nAt_ok path path.length 0 hn hF
 ·simp[zTy_f,Ty.labels,Ty.args,szL]
end Go.Q
