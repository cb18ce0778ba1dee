/- TypeOf, IsQuery and CountQueries: both sides answer the same. -/
import Derived.Test.YtjogpopbgmjlbaaGreatU9q
set_option linter.unusedVariables false
set_option linter.unusedSimpArgs false
set_option maxHeartbeats 2000000
namespace Go.Q
def typO(s:Schema)(ctx:List Typing)(e:Tm):Option Ty:=if(nSchema s&&(nCtx ctx&&nValT e))=true then nT s 16 ctx e else none
theorem typO_val{s:Schema}{ctx:List Typing}{e:Tm}{t:Ty}(h:typO s ctx e=some t):nVal t=true:=by
 unfold typO at h
 split at h
 ·exact nT_val h
 ·cases h
theorem schema_rows{s:Schema}(h:nSchema s=true):∀x∈s.tables,nVal x.row=true:=fun x hx=>by
 simp only[nSchema,Bool.and_eq_true]at h
 have:=List.all_eq_true.1 h.1 x hx
 simp only[nRow,Bool.and_eq_true]at this
 exact this.2.1
theorem ctx_cx{c:List Typing}(h:nCtx c=true):Cx c 16:=by
 simp only[nCtx,Bool.and_eq_true,decide_eq_true_eq]at h
 refine⟨by omega,fun i hi=> ?_⟩
 have:=all_at h.1 hi Typing.zero
 simp only[Bool.and_eq_true]at this
 exact this.2
theorem p_implTypeOf(nf:Nat)(hn:200000000<nf)(s:Schema)(c:List Typing)(e:Tm)(hS:8*zSchema s+1<nf)(hSb:zSchema s<=16777216)(hc:8*szL zTyping c+1<nf)(hcb:szL zTyping c<=16777216)(he:8*zTm e+1<nf)(heb:zTm e<=16777216):m_Zw nf s c e=some (ansO (typO s c e)):=by
 rw[m_Zw_eq,p_implSchema nf s hS hSb,cb_some,p_implCtx nf c hc hcb,cb_some,p_implValT nf e he heb,cb_some]
 have h5:j5_Zw nf c e s true=some (ansO none):=by rw[j5_Zw_eq,br_true];rfl
 simp only[mark_eq]
 unfold typO
 cases h1:nSchema s with
 |false=>rw[Bool.not_false,br_tf,h5];rfl
 |true=>
  cases h2:nCtx c with
  |false=>rw[Bool.not_true,br_ff2,Bool.not_false,br_tf,h5];rfl
  |true=>
   cases h3:nValT e with
   |false=>rw[Bool.not_true,br_ff2,br_ff2,Bool.not_false,h5];rfl
   |true=>
    have h3':=h3
    simp only[nValT,Bool.and_eq_true,decide_eq_true_eq]at h3'
    obtain⟨r,er,g1,g2⟩:=T_impl nf hn s hS hSb (schema_rows h1) 16 nf c e (by omega) h3'.2.1 (ctx_cx h2) h3'.2.2 he heb
    rw[Bool.not_true,br_ff2,br_ff2,j5_Zw_eq,br_false,er,cb_some,show(if(true&&(true&&true))=true then nT s 16 c e else none)=nT s 16 c e from rfl]
    cases ht:nT s 16 c e with
    |none=>
     rw[ht]at g1
     rw[g1];rfl
    |some t=>
     rw[ht]at g1 g2
     have hz:=val_z (nT_val ht)
     rw[g1,g2 t rfl,show(!(some t:Option Ty).isSome)=false from rfl,br_false,Ty.h_eq,p_cloneType nf nf t (by omega) (by omega) (by omega),cb_some,Ty.h_eq]
     rfl
theorem p_specTypeOf(nf:Nat)(hn:200000000<nf)(s:Schema)(c:List Typing)(e:Tm)(hS:8*zSchema s+1<nf)(hSb:zSchema s<=16777216)(hc:8*szL zTyping c+1<nf)(hcb:szL zTyping c<=16777216)(he:8*zTm e+1<nf)(heb:zTm e<=16777216):m_Zbg nf s c e=some (ansO (typO s c e)):=by
 rw[m_Zbg_eq,p_specSchema nf s hS hSb,cb_some,p_specCtx nf c hc hcb,cb_some,Tm.h_eq,p_specValT nf e he heb,cb_some]
 have h5:j5_Zbg nf c s e true=some (ansO none):=by rw[j5_Zbg_eq,br_true];rfl
 simp only[mark_eq]
 unfold typO
 cases h1:nSchema s with
 |false=>rw[Bool.not_false,br_tf,h5];rfl
 |true=>
  cases h2:nCtx c with
  |false=>rw[Bool.not_true,br_ff2,Bool.not_false,br_tf,h5];rfl
  |true=>
   cases h3:nValT e with
   |false=>rw[Bool.not_true,br_ff2,br_ff2,Bool.not_false,h5];rfl
   |true=>
    have h3':=h3
    simp only[nValT,Bool.and_eq_true,decide_eq_true_eq]at h3'
    obtain⟨r,er,⟨g1,g2⟩,g3⟩:=T_spec nf hn s hS hSb (schema_rows h1) 16 nf c e (by omega) h3'.2.1 (ctx_cx h2) h3'.2.2 he heb
    rw[Bool.not_true,br_ff2,br_ff2,j5_Zbg_eq,br_false,Tm.h_eq,er,cb_some,show(if(true&&(true&&true))=true then nT s 16 c e else none)=nT s 16 c e from rfl,Ty.h_eq]
    cases ht:nT s 16 c e with
    |none=>
     rw[ht]at g1 g3
     rw[g1,g3 rfl];rfl
    |some t=>
     rw[ht]at g1 g2
     rw[g1,g2 t rfl];rfl
theorem typO_z(s:Schema)(c:List Typing)(e:Tm):zTy (ansO (typO s c e)).1<=527:=by
 cases h:typO s c e with
 |none=>have:zTy (ansO none).1=0:=zZero;omega
 |some t=>exact val_z (typO_val h)
end Go.Q
