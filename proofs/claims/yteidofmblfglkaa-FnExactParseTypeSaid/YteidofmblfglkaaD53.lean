/- Marks of a type, and rows of rows of texts compared. -/
import Derived.Test.YteidofmblfglkaaD52
set_option linter.unusedVariables false
set_option linter.unusedSimpArgs false
set_option maxHeartbeats 1000000
namespace Go.Q
theorem mh_Ty3(nf:Nat)(hn:30<nf)(hm:nf<=2147483647)(t:Ty)(j:Int)(h0:0<=j)(h1:j+(cTy t:Nat)<=4611686018427387904)(hc:cTy t<nf):
  m_ZJ nf t.kind j t.labels t.args=some (j+(cSs t.labels:Nat)+(cTys t.args:Nat),(fSs t.labels j,fTys t.args (j+(cSs t.labels:Nat))))∧
  m_ZF nf (Ty.mk t.kind (fSs t.labels j) (fTys t.args (j+(cSs t.labels:Nat)))) j=some (j+(cSs t.labels:Nat)+(cTys t.args:Nat)):=by
 rw[cTy_f]at h1 hc
 have l1:=cSs_len t.labels
 have k1:=p_markStringS nf hn hm t.labels j (by omega) (by omega) (by omega)
 have k2:=p_markTypeS nf hn hm t.args (j+(cSs t.labels:Nat)) (by omega) (by omega) (by omega)
 have h1':=p_heldStringS nf hn hm (fSs t.labels j) j (by rw[fSs_eq,mkL_len];omega) (by omega) (by rw[cSs_i];omega) (fSs_i _ _)
 have h2':=p_heldTypeS nf hn hm (fTys t.args (j+(cSs t.labels:Nat))) (j+(cSs t.labels:Nat)) (by rw[cTys_i];omega) (by omega) (by rw[cTys_i];omega) (fTys_i _ _)
 rw[cSs_i]at h1'
 rw[cTys_i]at h2'
 have n1:¬(j+(cSs t.labels:Nat):Int)<0:=by omega
 have n2:¬(j+(cSs t.labels:Nat)+(cTys t.args:Nat):Int)<0:=by omega
 refine⟨by simp only[m_ZJ_eq,k1,k2,cb_some],by simp only[m_ZF_eq,Ty.kind_mk,Ty.labels_mk,Ty.args_mk,h1',h2',cb_some,br_neg n1,br_neg n2]⟩
end Go.Q
