/- Types: what the reference's side computes. -/
import Derived.Test.YteidofmblfglkaaQe
import Derived.Test.YteidofmblfglkaaC2
import Derived.Test.YteidofmblfglkaaNTy
set_option linter.unusedVariables false
set_option linter.unusedSimpArgs false
set_option maxHeartbeats 1000000
namespace Go.Q
theorem p_l1In(nf:Nat)(x lo hi:Int):m_ZQ nf x lo hi=some (decide (lo<=x)&&decide (x<=hi)):=by
 rw[m_ZQ_eq]
 by_cases h:lo<=x<;>simp[h,br]
theorem p_l1Max(nf:Nat)(a b:Nat):m_ZR nf (a:Int) (b:Int)=some ((max a b:Nat):Int):=by
 rw[m_ZR_eq]
 by_cases h:(b:Int)<(a:Int)
 ·rw[br_pos h,show max a b=a by omega]
 ·rw[br_neg h,show max a b=b by omega]
theorem p_specAsc(nf:Nat)(xs:List Str)(h:xs.length+1<nf)(hb:xs.length<=16777216):m_ZF nf xs=some (nAsc xs):=by
 rw[m_ZF_eq,mark_eq]
 have:=for_all (fun m i=>l6_ZF nf m xs i) xs.length (fun i=>Op.bytesLess (gt xs ((i:Int)-1) ([]:Str)) (gt xs (i:Int) ([]:Str))) (some true) (some false) 1 (fun m i hp hi=> ?_) (fun m i hi=> ?_) nf (by omega) (by omega)
 ·have e:((1:Nat):Int)=(1:Int):=rfl
  rw[e]at this
  rw[this]
  unfold nAsc
  cases allF (fun i:Nat=>Op.bytesLess (gt xs ((i:Int)-1) ([]:Str)) (gt xs (i:Int) ([]:Str))) 1 (xs.length-1)<;>rfl
 ·have c0:(i:Int)<(xs.length:Int):=by omega
  have c1:0<=(i:Int)∧(i:Int)<(xs.length:Int):=by omega
  have ew:w64 ((i:Int)-1)=(i:Int)-1:=w64_id (by omega) (by omega)
  have c2:0<=(i:Int)-1∧(i:Int)-1<(xs.length:Int):=by omega
  simp only[l6_ZF_eq,br_pos c0,ew,gg_pos c1,gg_pos c2,mark_eq,w64_nat (n:=i) (by omega)]
  cases Op.bytesLess (gt xs ((i:Int)-1) ([]:Str)) (gt xs (i:Int) ([]:Str))<;>rfl
 ·have c0:¬(i:Int)<(xs.length:Int):=by omega
  simp only[l6_ZF_eq,br_neg c0]
theorem p_specName(nf:Nat)(s:Str)(h:s.length+1<nf)(hb:s.length<=16777216):m_ZK nf s=some (nNm s):=by
 rw[m_ZK_eq,mark_eq]
 have:=for_all (fun m i=>l6_ZK nf m s i) s.length (fun i=>sml (chr s i)||(i !=0&&dig (chr s i))) (j25_ZK nf s) (some false) 0 (fun m i hp hi=> ?_) (fun m i hi=> ?_) nf (by omega) (by omega)
 ·have e:((0:Nat):Int)=(0:Int):=rfl
  rw[e]at this
  rw[this]
  unfold nNm
  rw[show s.length-0=s.length by omega]
  generalize allF (fun i:Nat=>sml (chr s i)||(i !=0&&dig (chr s i))) 0 s.length=z
  cases z with
  |false=>simp only[Bool.false_eq_true,if_false,Bool.false_and]
  |true=>
   simp only[if_true,Bool.true_and]
   rw[j25_ZK_eq,p_l1In,cb_some]
   have e1:decide ((1:Int)<=(List.length s:Int))=decide (1<=s.length):=by by_cases h:1<=s.length<;>simp[h]<;>omega
   have e2:decide ((List.length s:Int)<=(4:Int))=decide (s.length<=4):=by by_cases h:s.length<=4<;>simp[h]<;>omega
   rw[e1,e2]
   have key:∀z1 z2 z3 z4:Bool,br ((z1&&z2)==true) (br ((!z3)==true) (some (!z4)) (some false)) (some false)=some (z1&&z2&& !z3&& !z4):=by
    intro z1 z2 z3 z4
    cases z1<;>cases z2<;>cases z3<;>cases z4<;>rfl
   exact key _ _ _ _
 ·have c0:(i:Int)<(s.length:Int):=by omega
  have c1:0<=(i:Int)∧(i:Int)<(s.length:Int):=by omega
  have e0:((i:Int)==(0:Int))=(i==0):=by cases i<;>rfl
  have h19:∀b,j19_ZK nf m s (i:Int) b=br b (some false) (l6_ZK nf m s ((i+1:Nat):Int)):=fun b=>by rw[j19_ZK_eq,mark_eq,w64_nat (n:=i) (by omega)]
  rw[l6_ZK_eq,br_pos c0,gg_pos c1,gg_pos c1]
  generalize hX:l6_ZK nf m s ((i+1:Nat):Int)=X at h19⊢
  have h17:∀b,j17_ZK nf m s (i:Int) b=br (b||(!(i==0)&&dig (chr s i))) X (some false):=fun b=>by
   rw[j17_ZK_eq,e0,gg_pos c1,gg_pos c1]
   simp only[h19,mark_eq]
   have hd:dig (chr s i)=(!decide (((List.getD s (Int.toNat (i:Int)) 0).toNat:Int)<(48:Int))&& !decide ((57:Int)<((List.getD s (Int.toNat (i:Int)) 0).toNat:Int))):=by
    unfold dig chr
    generalize ((List.getD s (Int.toNat (i:Int)) 0).toNat:Int)=c
    rw[show decide ((48:Int)<=c)= !decide (c<(48:Int))from dec_not (by omega),show decide (c<=(57:Int))= !decide ((57:Int)<c)from dec_not (by omega)]
   rw[hd]
   have key:∀b z x3 x4:Bool,br ((!b)==true) (br (z==false) (br (x3==false) (br x4 (some false) X) (br true (some false) X)) (br true (some false) X)) (br false (some false) X)=br (b||(!z&&(!x3&& !x4))) X (some false):=by
    intro b z x3 x4
    cases b<;>cases z<;>cases x3<;>cases x4<;>rfl
   exact key _ _ _ _
  have key2:∀x1 x2 y:Bool,br (x1==true) (mark (br (x2||y) X (some false))) (mark (br (false||y) X (some false)))=if(x1&&x2||y)=true then X else some false:=by
   intro x1 x2 y
   cases x1<;>cases x2<;>cases y<;>rfl
  rw[h17,h17]
  simp only[bne]
  exact key2 _ _ _
 ·have c0:¬(i:Int)<(s.length:Int):=by omega
  rw[l6_ZK_eq,br_neg c0,mark_eq]
theorem p_l3Labels(nf:Nat)(xs:List Str)(h:8*szL List.length xs+1<nf)(hb:szL List.length xs<=16777216):m_Zag nf xs=some (nLab xs):=by
 have hl:xs.length<=szL List.length xs:=by unfold szL;omega
 rw[m_Zag_eq,mark_eq]
 have:=for_all (fun m i=>l6_Zag nf m xs i) xs.length (fun i=>nNm (gt xs (i:Int) ([]:Str))) (j23_Zag nf xs) (some false) 0 (fun m i hp hi=> ?_) (fun m i hi=> ?_) nf (by omega) (by omega)
 ·have e:((0:Nat):Int)=(0:Int):=rfl
  rw[e]at this
  rw[this]
  unfold nLab
  rw[show xs.length-0=xs.length by omega,allF_all nNm ([]:Str)]
  cases xs.all nNm with
  |false=>rfl
  |true=>
   simp only[if_true,Bool.true_and]
   rw[j23_Zag_eq,p_l1In,cb_some,p_specAsc nf xs (by omega) (by omega)]
   have e1:decide ((1:Int)<=(List.length xs:Int))=decide (1<=xs.length):=by by_cases h:1<=xs.length<;>simp[h]<;>omega
   have e2:decide ((List.length xs:Int)<=(4:Int))=decide (xs.length<=4):=by by_cases h:xs.length<=4<;>simp[h]<;>omega
   rw[e1,e2]
   cases decide (1<=xs.length)<;>cases decide (xs.length<=4)<;>rfl
 ·have c0:(i:Int)<(xs.length:Int):=by omega
  have c1:0<=(i:Int)∧(i:Int)<(xs.length:Int):=by omega
  have hs:=szL_at List.length xs hi ([]:Str)
  have e:=p_specName nf (gt xs (i:Int) ([]:Str)) (by omega) (by omega)
  simp only[l6_Zag_eq,br_pos c0,gg_pos c1,e,cb_some,mark_eq,w64_nat (n:=i) (by omega)]
  cases nNm (gt xs (i:Int) ([]:Str))<;>rfl
 ·have c0:¬(i:Int)<(xs.length:Int):=by omega
  simp only[l6_Zag_eq,br_neg c0,mark_eq]
theorem p_l3Has(nf:Nat)(k:Int):∀(kf:Nat) (t:Ty),8*zTy t+1<kf->8*zTy t+1<nf->zTy t<=16777216->m_Zae nf kf t k=some (nHas k t)
 |0,t,h,_,_=>absurd h (Nat.not_lt_zero _)
 |kf+1,t,h,h',hb=>by
  have hz:=zTy_f t
  have l2:t.args.length<=szL zTy t.args:=by unfold szL;omega
  rw[m_Zae_eq,mark_eq]
  have:=for_all (fun m i=>l6_Zae nf (kf+1) m k t i) t.args.length (fun i=> !nHas k (gt t.args (i:Int) Ty.zero)) (some (t.kind==k)) (some true) 0 (fun m i hp hi=> ?_) (fun m i hi=> ?_) nf (by omega) (by omega)
  ·have e:((0:Nat):Int)=(0:Int):=rfl
   rw[e]at this
   rw[this,show t.args.length-0=t.args.length by omega,allF_all (fun t=> !nHas k t) Ty.zero,nHas_eq,nHasL_any]
   rw[show t.args.all (fun t=> !nHas k t)= !t.args.any (nHas k)from ?_]
   ·cases t.args.any (nHas k)<;>rfl
   ·rw[List.all_eq_not_any_not];simp
  ·have c0:(i:Int)<(t.args.length:Int):=by omega
   have c1:0<=(i:Int)∧(i:Int)<(t.args.length:Int):=by omega
   have hs:=szL_at zTy t.args hi Ty.zero
   have e:=p_l3Has nf k kf (gt t.args (i:Int) Ty.zero) (by omega) (by omega) (by omega)
   simp only[l6_Zae_eq,br_pos c0,gg_pos c1,e,cb_some,mark_eq,w64_nat (n:=i) (by omega)]
   cases nHas k (gt t.args (i:Int) Ty.zero)<;>rfl
  ·have c0:¬(i:Int)<(t.args.length:Int):=by omega
   simp only[l6_Zae_eq,br_neg c0]
theorem p_specDepth(nf:Nat):∀(kf:Nat) (t:Ty),8*zTy t+1<kf->8*zTy t+1<nf->zTy t<=16777216->m_ZG nf kf t=some (nDep t:Int)
 |0,t,h,_,_=>absurd h (Nat.not_lt_zero _)
 |kf+1,t,h,h',hb=>by
  have hz:=zTy_f t
  have l2:t.args.length<=szL zTy t.args:=by unfold szL;omega
  have hdz:=nDep_le t
  have hsz:=nSz_le t
  rw[m_ZG_eq,mark_eq]
  refine for_loop (fun m i (s:Int)=>l8_ZG nf (kf+1) m t s i) t.args.length (fun i=>(nDepL (t.args.take i):Int)) _ (fun m i hi=> ?_) (fun m=> ?_) nf (by omega)
  ·have c0:(i:Int)<(t.args.length:Int):=by omega
   have c1:0<=(i:Int)∧(i:Int)<(t.args.length:Int):=by omega
   have hs:=szL_at zTy t.args hi Ty.zero
   have e:=p_specDepth nf kf (gt t.args (i:Int) Ty.zero) (by omega) (by omega) (by omega)
   simp only[l8_ZG_eq,br_pos c0,gg_pos c1,e,cb_some,p_l1Max,mark_eq,w64_nat (n:=i) (by omega),nDepL_take t.args hi]
  ·have c0:¬(t.args.length:Int)<(t.args.length:Int):=by omega
   have hd:=nDep_eq t
   simp only[l8_ZG_eq,br_neg c0,List.take_length,w64_nat (n:=nDepL t.args) (by omega),<-hd]
def lftOk(t:Ty)(a r:Int):Prop:=((nSz t:Int)<=a∧r=a-nSz t)∨(a<nSz t∧r= -1)
theorem p_l3Left(nf:Nat):∀(kf:Nat) (t:Ty) (a:Int),8*zTy t+1<kf->8*zTy t+1<nf->zTy t<=16777216->0<=a->a<=1000->∃r,m_Zah nf kf t a=some r∧lftOk t a r
 |0,t,_,h,_,_,_,_=>absurd h (Nat.not_lt_zero _)
 |kf+1,t,a,h,h',hb,ha,ha'=>by
  have hz:=zTy_f t
  have l2:t.args.length<=szL zTy t.args:=by unfold szL;omega
  have hnz:=nSz_eq t
  rw[m_Zah_eq,mark_eq,w64_id (n:=a-1) (by omega) (by omega)]
  refine for_rel (fun m i (s:Int)=>l8_Zah nf (kf+1) m t s i) t.args.length (fun i s=>(((nSzL (t.args.take i):Int)+1<=a∧s=a-1-nSzL (t.args.take i))∨(a<nSzL (t.args.take i)+1∧s= -1))) (fun r=>lftOk t a r) (fun m i s hi hI=> ?_) (fun m s hI=> ?_) nf (a-1) (by omega) ?_
  ·have c0:(i:Int)<(t.args.length:Int):=by omega
   have c1:0<=(i:Int)∧(i:Int)<(t.args.length:Int):=by omega
   have hs:=szL_at zTy t.args hi Ty.zero
   have htk:=nSzL_take t.args hi
   have hle:=nSzL_le t.args i
   have hle2:=nSzL_le t.args (i+1)
   have c2:decide ((i:Int)<(t.args.length:Int))=true:=decide_eq_true c0
   rcases hI with⟨h1,rfl⟩|⟨h1,rfl⟩
   ·obtain⟨r,e,hr⟩:=p_l3Left nf kf (gt t.args (i:Int) Ty.zero) (a-1-nSzL (t.args.take i)) (by omega) (by omega) (by omega) (by omega) (by omega)
    have c3:decide ((0:Int)<=a-1-nSzL (t.args.take i))=true:=decide_eq_true (by omega)
    refine .inr ⟨r,?_,?_⟩
    ·rcases hr with⟨g1,g2⟩|⟨g1,g2⟩
     ·exact .inl ⟨by omega,by omega⟩
     ·exact .inr ⟨by omega,g2⟩
    ·simp only[l8_Zah_eq,j12_Zah_eq,c2,c3,gg_pos c1,e,cb_some,mark_eq,w64_nat (n:=i) (by omega),beq_self_eq_true,br_true]
   ·refine .inl ⟨-1,?_,.inr ⟨by omega,rfl⟩⟩
    have c3:decide ((0:Int)<=(-1:Int))=false:=rfl
    simp only[l8_Zah_eq,j12_Zah_eq,c2,c3,mark_eq,beq_self_eq_true,br_true,br_false]
  ·have c0:¬(t.args.length:Int)<(t.args.length:Int):=by omega
   have c2:decide ((t.args.length:Int)<(t.args.length:Int))=false:=decide_eq_false c0
   rw[List.take_length]at hI
   refine⟨s,?_,?_⟩
   ·simp only[l8_Zah_eq,j12_Zah_eq,c2,mark_eq,br_false]
    rfl
   ·rcases hI with⟨h1,rfl⟩|⟨h1,rfl⟩
    ·exact .inl ⟨by omega,by omega⟩
    ·exact .inr ⟨by omega,rfl⟩
  ·by_cases h0:1<=a
   ·exact .inl ⟨by simp[nSzL];omega,by simp[nSzL]⟩
   ·exact .inr ⟨by simp[nSzL];omega,by omega⟩
theorem p_l3Form(nf:Nat):∀(kf:Nat) (t:Ty),8*zTy t+1<kf->8*zTy t+1<nf->zTy t<=16777216->m_Zac nf kf t=some (nForm t)
 |0,t,h,_,_=>absurd h (Nat.not_lt_zero _)
 |kf+1,t,h,h',hb=>by
  have hz:=zTy_f t
  have l1:t.labels.length<=szL List.length t.labels:=by unfold szL;omega
  have l2:t.args.length<=szL zTy t.args:=by unfold szL;omega
  rw[m_Zac_eq,mark_eq]
  have:=for_all (fun m i=>l6_Zac nf (kf+1) m t i) t.args.length (fun i=>nForm (gt t.args (i:Int) Ty.zero)) (j23_Zac nf (kf+1) t) (some false) 0 (fun m i hp hi=> ?_) (fun m i hi=> ?_) nf (by omega) (by omega)
  ·have e:((0:Nat):Int)=(0:Int):=rfl
   rw[e]at this
   rw[this,show t.args.length-0=t.args.length by omega,allF_all nForm Ty.zero,nForm_eq,nFormL_all]
   cases t.args.all nForm with
   |false=>rfl
   |true=>
    simp only[if_true,Bool.true_and]
    have e1:=p_l3Labels nf t.labels (by omega) (by omega)
    have e2:=p_l3Has nf 5 nf t (by omega) (by omega) (by omega)
    have h62:∀x,j62_Zac nf (kf+1) t x=some (decide (t.labels.length=0)&&((List.length t.args:Int)==x)):=fun x=>by
     rw[j62_Zac_eq]
     have b0:((List.length t.labels:Int)==(0:Int))=decide (t.labels.length=0):=by
      by_cases h:t.labels.length=0<;>simp[h]
     rw[b0]
     cases decide (t.labels.length=0)<;>rfl
    have h34:∀b,j34_Zac nf (kf+1) t b=br b (some false) (some (decide (t.labels.length=0)&&decide ((t.args.length:Int)=want t.kind))):=fun b=>by
     rw[j34_Zac_eq]
     simp only[mark_eq,j51_Zac_eq,h62]
     congr 1
     have bw:∀x:Int,((List.length t.args:Int)==x)=decide ((t.args.length:Int)=x):=fun _=>rfl
     have bk:∀x:Int,(t.kind==x)=decide (t.kind=x):=fun _=>rfl
     simp only[bw,bk,want]
     by_cases k1:t.kind=1
     ·simp[k1,br]
     ·by_cases k2:t.kind=2
      ·simp[k2,br]
      ·by_cases k4:t.kind=4
       ·simp[k4,br]
       ·by_cases k5:t.kind=5
        ·simp[k5,br]
        ·simp[k1,k2,k4,k5,br]
    rw[j23_Zac_eq,e1,Ty.h_eq,e2]
    simp only[cb_some,mark_eq,j29_Zac_eq,h34]
    have b3:(t.kind==(3:Int))=decide (t.kind=3):=rfl
    have b4:(t.kind==(4:Int))=decide (t.kind=4):=rfl
    have bl:(((List.length t.args:Int)==(List.length t.labels:Int)))=decide (t.args.length=t.labels.length):=decide_eq_decide.2 (by omega)
    have b6:((List.length t.args:Int)==(1:Int))=decide (t.args.length=1):=decide_eq_decide.2 (by omega)
    rw[b3,b4,bl,b6]
    generalize (decide (t.labels.length=0)&&decide ((t.args.length:Int)=want t.kind))=z
    by_cases h3:t.kind=3
    ·rw[decide_eq_true h3,if_pos h3,br_true]
     cases decide (t.args.length=t.labels.length)<;>cases nLab t.labels<;>cases nHas 5 t<;>rfl
    ·rw[decide_eq_false h3,if_neg h3,br_false]
     by_cases h4:t.kind=4
     ·rw[decide_eq_true h4]
      by_cases h6:t.args.length=1
      ·have c1:0<=(0:Int)∧(0:Int)<(List.length t.args:Int):=by omega
       have hs:=szL_at zTy t.args (i:=0) (by omega) Ty.zero
       have z0:((0:Nat):Int)=0:=rfl
       rw[z0]at hs
       have e3:=p_l3Has nf 5 nf (gt t.args (0:Int) Ty.zero) (by omega) (by omega) (by omega)
       have e4:nHasL 5 t.args=nHas 5 (gt t.args (0:Int) Ty.zero):=by
        cases ha:t.args with
        |nil=>rw[ha]at h6;simp at h6
        |cons x r=>
         rw[ha]at h6
         have:r=[]:=List.eq_nil_of_length_eq_zero (by simpa using h6)
         subst this
         simp[nHasL,gt]
       rw[gg_pos c1,e3,cb_some,e4,decide_eq_true h6]
       cases nHas 5 (gt t.args (0:Int) Ty.zero)<;>cases z<;>rfl
      ·rw[decide_eq_false h6]
       cases z<;>rfl
     ·rw[decide_eq_false h4]
      cases z<;>rfl
  ·have c0:(i:Int)<(t.args.length:Int):=by omega
   have c1:0<=(i:Int)∧(i:Int)<(t.args.length:Int):=by omega
   have hs:=szL_at zTy t.args hi Ty.zero
   have e:=p_l3Form nf kf (gt t.args (i:Int) Ty.zero) (by omega) (by omega) (by omega)
   simp only[l6_Zac_eq,br_pos c0,gg_pos c1,e,cb_some,mark_eq,w64_nat (n:=i) (by omega)]
   cases nForm (gt t.args (i:Int) Ty.zero)<;>rfl
  ·have c0:¬(i:Int)<(t.args.length:Int):=by omega
   simp only[l6_Zac_eq,br_neg c0,mark_eq]
theorem p_specValid(nf:Nat)(t:Ty)(h:8*zTy t+1<nf)(hb:zTy t<=16777216):m_ZL nf t=some (nVal t):=by
 obtain⟨r,e,hr⟩:=p_l3Left nf nf t 24 h h hb (by omega) (by omega)
 rw[m_ZL_eq,Ty.h_eq,e,cb_some,p_specDepth nf nf t h h hb,p_l3Form nf nf t h h hb]
 simp only[cb_some,nVal]
 rcases hr with⟨h1,rfl⟩|⟨h1,rfl⟩
 ·have c1:nSz t<=24:=by omega
  have c2:decide ((0:Int)<=24-(nSz t:Int))=true:=decide_eq_true (by omega)
  rw[c2,decide_eq_true c1]
  by_cases h7:nDep t<=7
  ·have c3:decide ((nDep t:Int)<=7)=true:=decide_eq_true (by omega)
   rw[c3,decide_eq_true h7]
   simp[br]
  ·have c3:decide ((nDep t:Int)<=7)=false:=decide_eq_false (by omega)
   rw[c3,decide_eq_false h7]
   simp[br]
 ·have c1:¬nSz t<=24:=by omega
  rw[decide_eq_false c1]
  rfl
end Go.Q
