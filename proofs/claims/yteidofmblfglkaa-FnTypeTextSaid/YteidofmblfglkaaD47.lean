/- The text of a type is read back. -/
import Derived.Test.YteidofmblfglkaaD45
import Derived.Test.YteidofmblfglkaaD30
import Derived.Test.YteidofmblfglkaaD5
import Derived.Test.YteidofmblfglkaaC9
set_option linter.unusedVariables false
set_option linter.unusedSimpArgs false
set_option maxHeartbeats 1000000
namespace Go.Q
open Go.Proofs Go.RowKit
theorem p_l1BelowG(nf:Nat){b:List Int}(hb:b.length<=1048576)(n i h:Int)(h0:0<n)(h1:n<=1073741824)(hi:0<=i):Dr b (fun r:Int=>0<=r∧r<n) (m_ZO nf n b i h):=by
 by_cases hn:n<=256
 ·exact p_l1Below nf hb n i h h0 hn hi
 obtain⟨x,i1,h1',e1,ei1,x0,x1⟩:=p_l1Byte nf hb i h hi
 obtain⟨y,i2,h2',e2,ei2,y0,y1⟩:=p_l1Byte nf hb i1 h1' ei1
 obtain⟨z,i3,h3',e3,ei3,z0,z1⟩:=p_l1Byte nf hb i2 h2' ei2
 obtain⟨w,i4,h4',e4,ei4,w0,w1⟩:=p_l1Byte nf hb i3 h3' ei3
 have ev:w64 ((w64 ((w64 ((w64 (x*(16777216:Int)))+(w64 (y*(65536:Int)))))+(w64 (z*(256:Int)))))+w)=x*16777216+y*65536+z*256+w:=by
  rw[w64_id (n:=x*16777216) (by omega) (by omega),w64_id (n:=y*65536) (by omega) (by omega),w64_id (n:=z*256) (by omega) (by omega),w64_id (n:=x*16777216+y*65536) (by omega) (by omega),w64_id (n:=x*16777216+y*65536+z*256) (by omega) (by omega),w64_id (by omega) (by omega)]
 have hnn:0<=x*16777216+y*65536+z*256+w:=by omega
 have t0:=Int.tmod_nonneg n hnn
 have t1:=Int.tmod_lt_of_pos (x*16777216+y*65536+z*256+w) h0
 refine⟨Int.tmod (x*16777216+y*65536+z*256+w) n,i4,h4',?_,ei4,t0,t1⟩
 rw[m_ZO_eq,br_neg (by omega),br_neg hn,e1,cb_some]
 dsimp only
 rw[e2,cb_some]
 dsimp only
 rw[e3,cb_some]
 dsimp only
 rw[e4,cb_some,gg_pos (by omega)]
 dsimp only
 rw[ev,w64_id (by omega) (by omega)]
theorem p_turned(nf:Nat){b:List Int}(hb:b.length<=1048576)(s:Str)(hs:s.length<=100000)(xs:List Str)(h0:0<xs.length)(h1:xs.length<=256)(hx:∀x∈xs,x.length<=1000)(i h:Int)(hi:0<=i):Dr b (fun r:Str=>r.length<=300000) (m_ZW nf s xs b i h):=by
 have ew:w64 ((s.length:Int)+(1:Int))=((s.length+1:Nat):Int):=w64_nat (n:=s.length) (by omega)
 obtain⟨p,i1,h1',e1,ei1,p0,p1⟩:=p_l1BelowG nf hb ((s.length+1:Nat):Int) i h (by omega) (by omega) hi
 obtain⟨q,i2,h2',e2,ei2,q0,q1⟩:=p_l1Below nf hb 6 i1 h1' (by decide) (by decide) ei1
 unfold Dr
 rw[m_ZW_eq,ew,e1,cb_some]
 dsimp only
 rw[e2,cb_some]
 dsimp only
 have g1:0<=(0:Int)∧(0:Int)<=p∧p<=(s.length:Int):=⟨by omega,by omega,by omega⟩
 by_cases c0:q=0
 ·subst c0
  obtain⟨x,i3,h3',e3,ei3,hxm⟩:=p_l1Pick nf hb xs i2 h2' h0 h1 ei2
  have hxl:=hx x hxm
  have l1:(List.drop (Int.toNat (0:Int)) (List.take (Int.toNat p) s)).length<=s.length:=by
   rw[List.length_drop,List.length_take];omega
  have l2:(List.drop (Int.toNat p) (List.take (Int.toNat (s.length:Int)) s)).length<=s.length:=by
   rw[List.length_drop,List.length_take];omega
  rw[beq_self_eq_true,br_true,gg_pos g1,e3,cb_some]
  dsimp only
  rw[gg_pos (by omega),gg_pos ⟨by omega,by omega,by omega⟩,gg_pos (by rw[List.length_append];omega)]
  refine⟨_,i3,h3',rfl,ei3,?_⟩
  rw[List.length_append,List.length_append]
  omega
 rw[beq_eq_false_iff_ne.2 c0,br_false]
 by_cases c1:q=1
 ·subst c1
  rw[beq_self_eq_true,br_true,gg_pos g1]
  refine⟨_,i2,h2',rfl,ei2,?_⟩
  rw[List.length_drop,List.length_take]
  omega
 rw[beq_eq_false_iff_ne.2 c1,br_false]
 exact⟨s,i2,h2',rfl,ei2,by omega⟩
theorem fmt_len(t:Ty):(fmtT t).length<=400:=by
 unfold fmtT
 split
 ·rename_i hv
  have h1:=nText_len t (val_frm hv)
  have h2:=val_sz hv
  omega
 ·simp
theorem p_drawParse(nf:Nat)(hn:1048577<nf)(code:List Int)(hb:code.length<=1048576):∃s,m_ZI nf code=some s∧s.length<=300000:=by
 obtain⟨x,e⟩:=p_l1New nf code (by omega) hb
 obtain⟨t,i1,h1,e1,ei1,ht⟩:=p_l3Bent nf (by omega) hb 0 x (by decide)
 have hl:=fmt_len t
 obtain⟨s,i2,h2,e2,ei2,hs⟩:=p_turned nf hb (fmtT t) (by omega) [[40],[93],[123],[58],[97],[73],[44]] (by decide) (by decide) (by decide) i1 h1 ei1
 refine⟨s,?_,hs⟩
 rw[m_ZI_eq,e,cb_some]
 dsimp only
 rw[e1,cb_some]
 dsimp only
 rw[p_specFormat nf (by omega) t (by omega) (by omega),cb_some,e2,cb_some]
theorem p_drawFormat(nf:Nat)(hn:1048577<nf)(code:List Int)(hb:code.length<=1048576):∃t,m_ZH nf code=some t∧zTy t<=200:=by
 obtain⟨x,e⟩:=p_l1New nf code (by omega) hb
 obtain⟨t,i1,h1,e1,ei1,ht⟩:=p_l3Bent nf (by omega) hb 0 x (by decide)
 refine⟨t,?_,ht⟩
 rw[m_ZH_eq,e,cb_some]
 dsimp only
 rw[e1,cb_some,Ty.h_eq]
theorem allF_true{ok:Nat->Bool}:∀ {k a:Nat},(∀j,a<=j->j<a+k->ok j=true)->allF ok a k=true
 |0,a,_=>rfl
 |k+1,a,h=>by
  simp only[allF,h a (Nat.le_refl _) (by omega),Bool.true_and,if_true]
  exact allF_true fun j h1 h2=>h j (by omega) (by omega)
theorem eqSs_self(a:List Str):eqSs a a=true:=by
 unfold eqSs
 rw[beq_self_eq_true,Bool.true_and]
 exact allF_true fun j _ _=>by simp
theorem eqT_self:∀(n:Nat) (t:Ty),nSz t<=n->eqT t t=true
 |0,t,h=>by
  have:=nSz_eq t
  omega
 |n+1,t,h=>by
  have he:=nSz_eq t
  rw[eqT_eq,beq_self_eq_true,beq_self_eq_true,eqSs_self,eqTL_all]
  simp only[Bool.true_and,Nat.add_zero]
  refine allF_true fun j _ hj=> ?_
  have:=nSz_at t.args (i:=j) (by omega)
  exact eqT_self n _ (by omega)
theorem p_tail(nf:Nat)(hn:134217728<nf)(code:List Int)(hb:code.length<=1048576):j19_ZB nf code false=some true:=by
 obtain⟨s,e,hs⟩:=p_drawParse nf (by omega) code hb
 obtain⟨W,e1,e2,hz,hv,_⟩:=p_parse nf hn s (by omega)
 rw[j19_ZB_eq,br_false,e,cb_some,e2,cb_some,e1,cb_some,beq_self_eq_true,beq_self_eq_true,br_true]
 cases hW:W.2 with
 |false=>rfl
 |true=>
  obtain⟨h1,h2⟩:=hv hW
  have ef:fmtT W.1=s:=by unfold fmtT;rw[if_pos h1,h2]
  rw[Bool.not_true,beq_self_eq_true,br_true,Ty.h_eq,p_implFormat nf (by omega) W.1 (by omega) (by omega),cb_some,ef,beq_self_eq_true]
theorem p_law(a:List Int)(hr:Rd (kL (.int .u8)) a):m_ZB 1073741824 a=some true:=by
 generalize hnf:(1073741824:Nat)=nf
 have hn:134217728<nf:=by omega
 clear hnf
 rw[m_ZB_eq,m_ZC_eq,cb_some]
 by_cases c:(1048576:Int)<(a.length:Int)
 ·rw[br_pos c]
 have hb:a.length<=1048576:=by omega
 obtain⟨t,e,ht⟩:=p_drawFormat nf (by omega) a hb
 have hl:=fmt_len t
 obtain⟨W,e1,e2,hz,hv,hall⟩:=p_parse nf hn (fmtT t) (by omega)
 have htl:=p_tail nf hn a hb
 rw[br_neg c,e,cb_some,Ty.h_eq,p_implFormat nf (by omega) t (by omega) (by omega),cb_some,e2,cb_some,p_specFormat nf (by omega) t (by omega) (by omega),cb_some,beq_self_eq_true,Bool.not_true,beq_self_eq_true,br_true,p_specValid nf t (by omega) (by omega),cb_some]
 by_cases hvt:nVal t=true
 ·have hW:=hall t hvt (by unfold fmtT;rw[if_pos hvt])
  have he:=p_implEq nf nf t t (by omega) (by omega) (by omega)
  rw[eqT_self _ _ (Nat.le_refl _)]at he
  rw[hW,hvt]
  dsimp only
  rw[beq_self_eq_true,Bool.not_true,beq_self_eq_true,br_true,br_true,Ty.h_eq,he,cb_some,Bool.not_true,mark_eq]
  exact htl
 ·have hvf:nVal t=false:=by simpa using hvt
  have ef:fmtT t=[]:=by unfold fmtT;rw[if_neg hvt]
  have hW2:W.2=false:=by
   cases h:W.2 with
   |false=>rfl
   |true=>
    obtain⟨h1,h2⟩:=hv h
    have h3:=nText_len W.1 (val_frm h1)
    have h4:(nText W.1).length≠0:=by
     intro h5
     have h6:nText W.1=[]:=List.eq_nil_of_length_eq_zero h5
     rw[nText_eq]at h6
     split at h6
     ·cases h6
     split at h6
     ·cases h6
     split at h6
     ·simp at h6
     split at h6
     ·simp at h6
     ·simp at h6
    rw[h2,ef]at h4
    exact absurd rfl h4
  rw[hW2,hvf,beq_self_eq_true,Bool.not_true,beq_self_eq_true,br_true,show(false==true)=false from rfl,br_false,mark_eq]
  exact htl
end Go.Q
