/- The laws of the draws: what they give is small. -/
import Derived.Test.YteidofmblfglkaaD7p
import Derived.Test.YteidofmblfglkaaNTy
set_option linter.unusedVariables false
set_option linter.unusedSimpArgs false
set_option maxHeartbeats 1000000
namespace Go.Q
theorem iand_255(m:Int):0<=iand .i64 m (255:Int)∧iand .i64 m (255:Int)<=255:=by
 have h:(BitVec.ofInt 64 m&&&BitVec.ofInt 64 255).toNat<=255:=by
  rw[BitVec.toNat_and]
  exact Nat.le_trans Nat.and_le_right (by decide)
 have e:iand .i64 m (255:Int)=((BitVec.ofInt 64 m&&&BitVec.ofInt 64 255).toNat:Int):=w64_id (n:=((BitVec.ofInt 64 m&&&BitVec.ofInt 64 255).toNat:Int)) (by omega) (by omega)
 rw[e];omega
theorem p_l1New(nf:Nat)(code:List Int)(h:code.length<nf)(hb:code.length<=1048576):∃x,m_ZS nf code=some (Cur.mk code 0 x):=by
 have key:∀(m i:Nat) (x:Int),code.length-i<m->i<=code.length->∃y,l8_ZS nf m code x (i:Int)=some (Cur.mk code 0 y):=by
  intro m
  induction m with
  |zero=>intro i x h;omega
  |succ m ih=>
   intro i x h hi
   by_cases c0:(i:Int)<(code.length:Int)
   ·have e0:(decide ((i:Int)<(code.length:Int))==true)=true:=by rw[decide_eq_true c0];rfl
    rw[l8_ZS_eq,e0,br_true,mark_eq]
    by_cases c1:(i:Int)<(4000:Int)
    ·rw[j12_ZS_eq,decide_eq_true c1,br_true,gg_pos ⟨by omega,c0⟩,mark_eq,w64_nat (n:=i) (by omega)]
     exact ih (i+1) _ (by omega) (by omega)
    ·rw[j12_ZS_eq,decide_eq_false c1,br_false]
     exact⟨x,rfl⟩
   ·have e0:(decide ((i:Int)<(code.length:Int))==true)=false:=by rw[decide_eq_false c0];rfl
    rw[l8_ZS_eq,e0,br_false,mark_eq,j12_ZS_eq,br_false]
    exact⟨x,rfl⟩
 rw[m_ZS_eq,mark_eq]
 exact key nf 0 _ (by omega) (by omega)
def Dr{α:Type}(b:List Int)(P:α->Prop)(o:Option (α×(List Int×Int×Int×Unit))):Prop:=∃r i h,o=some (r,(b,i,h,()))∧0<=i∧P r
theorem p_l1Byte(nf:Nat){b:List Int}(hb:b.length<=1048576)(i h:Int)(hi:0<=i):Dr b (fun r:Int=>0<=r∧r<=255) (m_ZP nf b i h):=by
 unfold Dr
 rw[m_ZP_eq,gg_pos (by decide),gg_pos (by decide),mark_eq,j6_ZP_eq]
 by_cases c:i<(b.length:Int)
 ·rw[br_pos c,gg_pos ⟨hi,c⟩,w64_id (n:=i+1) (by omega) (by omega)]
  exact⟨_,_,_,rfl,by omega,iand_255 _⟩
 ·rw[br_neg c]
  exact⟨_,_,_,rfl,hi,iand_255 _⟩
theorem p_l1Below(nf:Nat){b:List Int}(hb:b.length<=1048576)(n i h:Int)(h0:0<n)(h1:n<=256)(hi:0<=i):Dr b (fun r:Int=>0<=r∧r<n) (m_ZO nf n b i h):=by
 obtain⟨r,i',h',e,ei,r0,r1⟩:=p_l1Byte nf hb i h hi
 have t0:=Int.tmod_nonneg n r0
 have t1:=Int.tmod_lt_of_pos r h0
 refine⟨Int.tmod r n,i',h',?_,ei,t0,t1⟩
 rw[m_ZO_eq,br_neg (by omega),br_pos h1,e,cb_some,gg_pos (by omega)]
 dsimp only
 rw[w64_id (by omega) (by omega)]
theorem p_l1Once(nf:Nat){b:List Int}(hb:b.length<=1048576)(n i h:Int)(h0:0<n)(h1:n<=256)(hi:0<=i):Dr b (fun _:Bool=>True) (m_ZT nf n b i h):=by
 obtain⟨r,i',h',e,ei,_⟩:=p_l1Below nf hb n i h h0 h1 hi
 exact⟨_,i',h',by rw[m_ZT_eq,e,cb_some],ei,trivial⟩
theorem p_l1Pick(nf:Nat){b:List Int}(hb:b.length<=1048576)(xs:List Str)(i h:Int)(h0:0<xs.length)(h1:xs.length<=256)(hi:0<=i):Dr b (fun s=>s∈xs) (m_ZU nf xs b i h):=by
 obtain⟨r,i',h',e,ei,r0,r1⟩:=p_l1Below nf hb (xs.length:Int) i h (by omega) (by omega) hi
 refine⟨_,i',h',by rw[m_ZU_eq,e,cb_some,gg_pos ⟨r0,r1⟩],ei,?_⟩
 obtain⟨k,rfl⟩:=Int.eq_ofNat_of_zero_le r0
 dsimp only
 rw[gt_at xs k (by omega)]
 exact List.getElem_mem _
theorem p_l1PickInt(nf:Nat){b:List Int}(hb:b.length<=1048576)(xs:List Int)(i h:Int)(h0:0<xs.length)(h1:xs.length<=256)(hi:0<=i):Dr b (fun _:Int=>True) (m_ZV nf xs b i h):=by
 obtain⟨r,i',h',e,ei,r0,r1⟩:=p_l1Below nf hb (xs.length:Int) i h (by omega) (by omega) hi
 exact⟨_,i',h',by rw[m_ZV_eq,e,cb_some,gg_pos ⟨r0,r1⟩],ei,trivial⟩
theorem p_l3Bag(nf:Nat)(t:Ty)(h:8*zTy t+1<nf)(hb:zTy t<=16777216):m_ZX nf t=some (Ty.mk 4 [] [t]):=by
 rw[m_ZX_eq,Ty.h_eq,p_l3Copy nf nf t h h hb,cb_some,Ty.h_eq]
theorem p_l3Fun(nf:Nat)(t u:Ty)(h:8*zTy t+1<nf)(hb:zTy t<=16777216)(h':8*zTy u+1<nf)(hb':zTy u<=16777216):m_Zad nf t u=some (Ty.mk 5 [] [t,u]):=by
 rw[m_Zad_eq,Ty.h_eq,Ty.h_eq,p_l3Copy nf nf t h h hb,cb_some,p_l3Copy nf nf u h' h' hb',cb_some,Ty.h_eq,Ty.h_eq]
theorem p_l3Rec(nf:Nat)(ls:List Str)(c:List Ty)(hl:ls.length<=1000)(h:8*szL zTy c+1<nf)(hb:szL zTy c<=16777216):m_Zai nf ls c=some (Ty.mk 3 ls c):=by
 have hc:c.length<=szL zTy c:=by unfold szL;omega
 rw[m_Zai_eq,gg_pos (by omega),mark_eq]
 refine for_loop (fun m i s=>l8_Zai nf m c ls i s) c.length (fun i=>c.take i) (some (Ty.mk 3 ls c)) (fun m i hi=> ?_) (fun m=> ?_) nf (by omega)
 ·have hz:=szL_at zTy c hi Ty.zero
  have c0:(i:Int)<(c.length:Int):=by omega
  have c1:0<=(i:Int)∧(i:Int)<(c.length:Int):=by omega
  have c2:(c.take i).length+([gt c (i:Int) Ty.zero]:List Ty).length<=33554432:=by simp;omega
  have he:=p_l3Copy nf nf (gt c (i:Int) Ty.zero) (by omega) (by omega) (by omega)
  simp only[l8_Zai_eq,br_pos c0,gg_pos c1,he,cb_some,Ty.h_eq,gg_pos c2,mark_eq,w64_nat (n:=i) (by omega),take_gt c hi Ty.zero]
 ·have c0:¬(c.length:Int)<(c.length:Int):=by omega
  simp only[l8_Zai_eq,br_neg c0,List.take_length]
theorem szL_one{α:Type}(f:α->Nat)(x:α):szL f [x]=1+f x:=by simp[szL]
theorem szL_two{α:Type}(f:α->Nat)(x y:α):szL f [x,y]=2+f x+f y:=by simp[szL];omega
theorem szL_snoc{α:Type}(f:α->Nat)(a:List α)(x:α):szL f (a++[x])=szL f a+1+f x:=by simp[szL];omega
theorem p_l3Draw(nf:Nat)(hn:1000000<nf){b:List Int}(hb:b.length<=1048576):∀(d kf:Nat) (i h:Int),d<kf->d<=10->0<=i->Dr b (fun t:Ty=>zTy t+6<=6*2^d) (m_Zab nf kf (d:Int) b i h)
 |d,0,_,_,hk,_,_=>absurd hk (Nat.not_lt_zero _)
 |d,kf+1,i,h,hk,hd,hi=>by
  have hp:1<=2^d:=Nat.one_le_two_pow
  have base:∀i h,0<=i->Dr b (fun t:Ty=>zTy t+6<=6*2^d) (j5_Zab nf (kf+1) (d:Int) true b i h):=by
   intro i h hi
   obtain⟨r,i',h',e,ei,_⟩:=p_l1PickInt nf hb [1,2,1] i h (by decide) (by decide) hi
   refine⟨_,i',h',by rw[j5_Zab_eq,br_true,e,cb_some],ei,?_⟩
   have:zTy (Ty.mk r [] [])=0:=by rw[zTy_f];rfl
   dsimp only
   omega
  rw[m_Zab_eq]
  by_cases c:(d:Int)<2
  ·have e0:(decide ((d:Int)<(2:Int))==false)=false:=by rw[decide_eq_true c];rfl
   rw[e0,br_false,mark_eq]
   exact base i h hi
  ·have e0:(decide ((d:Int)<(2:Int))==false)=true:=by rw[decide_eq_false c];rfl
   obtain⟨q,i1,h1,e1,ei1,_⟩:=p_l1Once nf hb 3 i h (by decide) (by decide) hi
   rw[e0,br_true,e1,cb_some,mark_eq]
   dsimp only
   cases q with
   |true=>exact base i1 h1 ei1
   |false=>
    obtain⟨d,rfl⟩:∃d',d=d'+1:=⟨d-1,by omega⟩
    have hpw:2^(d+1)=2*2^d:=by rw[Nat.pow_succ];omega
    have hpm:2^d<=2^10:=Nat.pow_le_pow_right (by decide) (by omega)
    have hpd:1<=2^d:=Nat.one_le_two_pow
    have ew:w64 (((d+1:Nat):Int)-1)=(d:Int):=by rw[w64_id (by omega) (by omega)];omega
    obtain⟨q,i2,h2,e2,ei2,_⟩:=p_l1Once nf hb 2 i1 h1 (by decide) (by decide) ei1
    rw[j5_Zab_eq,br_false,e2,cb_some]
    dsimp only
    cases q with
    |true=>
     obtain⟨t,i3,h3,e3,ei3,ht⟩:=p_l3Draw nf hn hb d kf i2 h2 (by omega) (by omega) ei2
     rw[br_true,ew,e3,cb_some]
     dsimp only
     rw[Ty.h_eq,p_l3Bag nf t (by omega) (by omega),cb_some,Ty.h_eq]
     refine⟨_,i3,h3,rfl,ei3,?_⟩
     have:zTy (Ty.mk 4 [] [t])=1+zTy t:=by rw[zTy_f,Ty.labels_mk,Ty.args_mk,szL_one];simp[szL]
     dsimp only
     omega
    |false=>
     obtain⟨r,i3,h3,e3,ei3,r0,r1⟩:=p_l1Below nf hb 2 i2 h2 (by decide) (by decide) ei2
     rw[br_false,e3,cb_some,mark_eq]
     dsimp only
     obtain⟨n,hnr,hn1,hn2⟩:∃n:Nat,w64 (1+r)=(n:Int)∧1<=n∧n<=2:=⟨(1+r).toNat,by rw[w64_id (by omega) (by omega)];omega,by omega,by omega⟩
     have step:∀(m x:Nat) (i h:Int) (ls:List Str) (cs:List Ty),x<n->0<=i->ls.length<=2->cs.length<=2->∃(s:Str) (t:Ty) (i' h':Int),s.length<=1∧zTy t+6<=6*2^d∧0<=i'∧l28_Zab nf (kf+1) (m+1) ((d+1:Nat):Int) (r,(b,i3,h3,())) (x:Int) b i h ls cs=l28_Zab nf (kf+1) m ((d+1:Nat):Int) (r,(b,i3,h3,())) ((x+1:Nat):Int) b i' h' (ls++[s]) (cs++[t]):=by
      intro m x i h ls cs hx hi hl ha
      obtain⟨t,i',h',e,ei,ht⟩:=p_l3Draw nf hn hb d kf i h (by omega) (by omega) hi
      refine⟨gt ([([97]:Str),([98]:Str),([99]:Str)]:List Str) (x:Int) ([]:Str),t,i',h',?_,ht,ei,?_⟩
      ·have:x=0∨x=1:=by omega
       rcases this with rfl|rfl<;>decide
      ·have c0:(x:Int)<(n:Int):=by omega
       have c1:0<=(x:Int)∧(x:Int)<(List.length ([([97]:Str),([98]:Str),([99]:Str)]:List Str):Int):=⟨by omega,by simp;omega⟩
       have c2:∀s:Str,ls.length+([s]:List Str).length<=33554432:=fun s=>by simp;omega
       have c3:cs.length+([t]:List Ty).length<=33554432:=by simp;omega
       rw[l28_Zab_eq]
       dsimp only
       rw[hnr,br_pos c0,gg_pos c1,gg_pos c1,gg_pos (c2 _),ew,e,cb_some]
       dsimp only
       rw[Ty.h_eq,gg_pos c3,mark_eq,w64_nat (n:=x) (by omega)]
     have stop:∀(m:Nat) (i h:Int) (ls:List Str) (cs:List Ty),0<=i->szL List.length ls<=4->szL zTy cs+10<=12*2^d->Dr b (fun t:Ty=>zTy t+6<=6*2^(d+1)) (l28_Zab nf (kf+1) (m+1) ((d+1:Nat):Int) (r,(b,i3,h3,())) (n:Int) b i h ls cs):=by
      intro m i h ls cs hi hl ha
      have c0:¬(n:Int)<(n:Int):=by omega
      have hll:ls.length<=szL List.length ls:=by unfold szL;omega
      refine⟨Ty.mk 3 ls cs,i,h,?_,hi,?_⟩
      ·rw[l28_Zab_eq]
       dsimp only
       rw[hnr,br_neg c0,mark_eq,j41_Zab_eq,p_l3Rec nf ls cs (by omega) (by omega) (by omega),cb_some,Ty.h_eq]
      ·have:zTy (Ty.mk 3 ls cs)=szL List.length ls+szL zTy cs:=by rw[zTy_f];rfl
       dsimp only
       omega
     obtain⟨m,rfl⟩:∃m,nf=m+1+1+1:=⟨nf-3,by omega⟩
     obtain⟨s,t,i4,h4,hs,ht,ei4,e4⟩:=step (m+1+1) 0 i3 h3 [] [] (by omega) ei3 (by decide) (by decide)
     rw[show((0:Nat):Int)=0 from rfl]at e4
     rw[e4]
     have hn:n=1∨n=2:=by omega
     rcases hn with rfl|rfl
     ·exact stop _ _ _ _ _ ei4 (by simp[szL];omega) (by simp[szL];omega)
     ·obtain⟨s',t',i5,h5,hs',ht',ei5,e5⟩:=step (m+1) 1 i4 h4 [s] [t] (by omega) ei4 (by simp) (by simp)
      rw[show((0+1:Nat):Int)=((1:Nat):Int)from rfl]
      simp only[List.nil_append]
      rw[e5]
      exact stop _ _ _ _ _ ei5 (by simp[szL];omega) (by simp[szL];omega)
theorem p_l3Bent(nf:Nat)(hn:1000000<nf){b:List Int}(hb:b.length<=1048576)(i h:Int)(hi:0<=i):Dr b (fun t:Ty=>zTy t<=200) (m_ZY nf b i h):=by
 obtain⟨t,i1,h1,e1,ei1,ht⟩:=p_l3Draw nf hn hb 4 nf i h (by omega) (by decide) hi
 have p4:(6*2^4:Nat)=96:=by decide
 have ht':zTy t<=90:=by omega
 obtain⟨r,i2,h2,e2,ei2,r0,r1⟩:=p_l1Below nf hb 10 i1 h1 (by decide) (by decide) ei1
 have hz:=zTy_f t
 unfold Dr
 rw[m_ZY_eq,show((4:Nat):Int)=4 from rfl]at*
 rw[e1,cb_some]
 dsimp only
 rw[e2,cb_some]
 dsimp only
 by_cases q0:r=0
 ·subst q0
  obtain⟨x,i3,h3,e3,ei3,_⟩:=p_l1Below nf hb 7 i2 h2 (by decide) (by decide) ei2
  rw[beq_self_eq_true,br_true,e3,cb_some]
  refine⟨_,i3,h3,rfl,ei3,?_⟩
  rw[zTy_f,Ty.labels_mk,Ty.args_mk];omega
 rw[beq_eq_false_iff_ne.2 q0,br_false]
 by_cases q1:r=1
 ·subst q1
  obtain⟨x,i3,h3,e3,ei3,hx⟩:=p_l1Pick nf hb [[97],[122],[105,102]] i2 h2 (by decide) (by decide) ei2
  have hl:x.length<=2:=by
   simp only[List.mem_cons,List.not_mem_nil,or_false]at hx
   rcases hx with rfl|rfl|rfl<;>decide
  have hll:t.labels.length<=szL List.length t.labels:=by unfold szL;omega
  rw[beq_self_eq_true,br_true,e3,cb_some]
  dsimp only
  rw[gg_pos (by simp;omega)]
  refine⟨_,i3,h3,rfl,ei3,?_⟩
  rw[zTy_f,Ty.labels_mk,Ty.args_mk,szL_snoc];omega
 rw[beq_eq_false_iff_ne.2 q1,br_false]
 by_cases q2:r=2
 ·subst q2
  have hll:t.args.length<=szL zTy t.args:=by unfold szL;omega
  rw[beq_self_eq_true,br_true,m_Zaf_eq,cb_some,gg_pos (by simp;omega)]
  refine⟨_,i2,h2,rfl,ei2,?_⟩
  have hz1:zTy (Ty.mk 1 [] [])=0:=by rw[zTy_f];rfl
  rw[zTy_f,Ty.labels_mk,Ty.args_mk,szL_snoc,Ty.h_eq,hz1]
  omega
 rw[beq_eq_false_iff_ne.2 q2,br_false]
 by_cases q3:r=3
 ·subst q3
  obtain⟨u,i3,h3,e3,ei3,hu⟩:=p_l3Draw nf hn hb 2 nf i2 h2 (by omega) (by decide) ei2
  have p2:(6*2^2:Nat)=24:=by decide
  have hu':zTy u<=18:=by omega
  rw[show((2:Nat):Int)=2 from rfl]at e3
  rw[beq_self_eq_true,br_true,e3,cb_some]
  dsimp only
  rw[Ty.h_eq,Ty.h_eq,p_l3Fun nf t u (by omega) (by omega) (by omega) (by omega),cb_some,Ty.h_eq]
  refine⟨_,i3,h3,rfl,ei3,?_⟩
  rw[zTy_f,Ty.labels_mk,Ty.args_mk,szL_two]
  simp[szL]
  omega
 rw[beq_eq_false_iff_ne.2 q3,br_false]
 by_cases q4:r=4
 ·subst q4
  obtain⟨x,i3,h3,e3,ei3,x0,x1⟩:=p_l1Below nf hb 5 i2 h2 (by decide) (by decide) ei2
  rw[beq_self_eq_true,br_true,e3,cb_some,mark_eq]
  obtain⟨n,hnr,hn1,hn2⟩:∃n:Nat,w64 (1+x)=(n:Int)∧1<=n∧n<=5:=⟨(1+x).toNat,by rw[w64_id (by omega) (by omega)];omega,by omega,by omega⟩
  have key:∀(k j m:Nat) (t:Ty),j+k=n->k<m->zTy t<=90+j->Dr b (fun t:Ty=>zTy t<=200) (l32_ZY nf m (x,(b,i3,h3,())) (j:Int) t.kind t.labels t.args):=by
   intro k
   induction k with
   |zero=>
    intro j m t hj hm hz
    obtain⟨m,rfl⟩:∃m',m=m'+1:=⟨m-1,by omega⟩
    have c0:¬(j:Int)<(n:Int):=by omega
    refine⟨t,i3,h3,?_,ei3,by omega⟩
    rw[l32_ZY_eq]
    dsimp only
    rw[hnr,br_neg c0,Ty.eta]
   |succ k ih=>
    intro j m t hj hm hz
    obtain⟨m,rfl⟩:∃m',m=m'+1:=⟨m-1,by omega⟩
    have c0:(j:Int)<(n:Int):=by omega
    rw[l32_ZY_eq]
    dsimp only
    rw[hnr,br_pos c0,Ty.eta,p_l3Bag nf t (by omega) (by omega),cb_some,mark_eq,w64_nat (n:=j) (by omega)]
    exact ih (j+1) m (Ty.mk 4 [] [t]) (by omega) (by omega) (by rw[zTy_f,Ty.labels_mk,Ty.args_mk,szL_one];simp[szL];omega)
  exact key n 0 nf t (by omega) (by omega) (by omega)
 rw[beq_eq_false_iff_ne.2 q4,br_false,Ty.h_eq]
 exact⟨_,i2,h2,rfl,ei2,by omega⟩
end Go.Q
