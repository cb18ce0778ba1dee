/- Marks of a type, and rows of rows of texts compared. -/
import Derived.Test.YtjogpopbgmjlbaaGreatA6m
set_option linter.unusedVariables false
set_option linter.unusedSimpArgs false
set_option maxHeartbeats 1000000
namespace Go.Q
theorem mh_Ty3(nf:Nat)(hn:30<nf)(hm:nf<=2147483647)(t:Ty)(j:Int)(h0:0<=j)(h1:j+(cTy t:Nat)<=4611686018427387904)(hc:cTy t<nf):
  m_Zaq nf t.kind j t.labels t.args=some (j+(cSs t.labels:Nat)+(cTys t.args:Nat),(fSs t.labels j,fTys t.args (j+(cSs t.labels:Nat))))∧
  m_Zai nf (Ty.mk t.kind (fSs t.labels j) (fTys t.args (j+(cSs t.labels:Nat)))) j=some (j+(cSs t.labels:Nat)+(cTys t.args:Nat)):=by
 rw[cTy_f]at h1 hc
 have l1:=cSs_len t.labels
 have k1:=p_markStringS nf hn hm t.labels j (by omega) (by omega) (by omega)
 have k2:=p_markTypeS nf hn hm t.args (j+(cSs t.labels:Nat)) (by omega) (by omega) (by omega)
 have h1':=p_heldStringS nf hn hm (fSs t.labels j) j (by rw[fSs_eq,mkL_len];omega) (by omega) (by rw[cSs_i];omega) (fSs_i _ _)
 have h2':=p_heldTypeS nf hn hm (fTys t.args (j+(cSs t.labels:Nat))) (j+(cSs t.labels:Nat)) (by rw[cTys_i];omega) (by omega) (by rw[cTys_i];omega) (fTys_i _ _)
 rw[cSs_i]at h1'
 rw[cTys_i]at h2'
 have n1:¬(j+(cSs t.labels:Nat):Int)<0:=by omega
 have n2:¬(j+(cSs t.labels:Nat)+(cTys t.args:Nat):Int)<0:=by omega
 refine⟨by simp only[m_Zaq_eq,k1,k2,cb_some],by simp only[m_Zai_eq,Ty.kind_mk,Ty.labels_mk,Ty.args_mk,h1',h2',cb_some,br_neg n1,br_neg n2]⟩
theorem m_Tm3(nf:Nat)(hn:30<nf)(hm:nf<=2147483647)(t:Tm)(j:Int)(h0:0<=j)(h1:j+(cTm t:Nat)<=4611686018427387904)(hc:cTm t<nf):
  ∃k' q,m_Zan nf t.kind t.name t.n t.type.kind j t.type.labels t.type.args t.labels t.args=some (k',q)∧j<=k'∧k'<=j+(cTm t:Nat):=by
 rw[cTm_f,cTy_f]at h1 hc⊢
 obtain⟨e1,e2⟩:=mh_Ty3 nf hn hm t.type j h0 (by rw[cTy_f];omega) (by rw[cTy_f];omega)
 have l1:=cSs_len t.labels
 have k1:=p_markStringS nf hn hm t.labels (j+(cSs t.type.labels:Nat)+(cTys t.type.args:Nat)) (by omega) (by omega) (by omega)
 have k2:=p_markTermS nf hn hm t.args (j+(cSs t.type.labels:Nat)+(cTys t.type.args:Nat)+(cSs t.labels:Nat)) (by omega) (by omega) (by omega)
 exact⟨_,_,by simp only[m_Zan_eq,e1,k1,k2,cb_some];rfl,by omega,by omega⟩
end Go.Q
