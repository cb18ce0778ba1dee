/- Reading the text of a type: the reference reads what it wrote, and all else without end or failure. -/
import Derived.Test.YteidofmblfglkaaD41
import Derived.Test.YteidofmblfglkaaD0
set_option linter.unusedVariables false
set_option linter.unusedSimpArgs false
set_option maxHeartbeats 2000000
namespace Go.Q
def Tot(s:Str)(i:Nat)(bad:Bool)(o:Option (Ty×(Str×Int×Bool×Unit))):Prop:=
 ∃(t:Ty) (i':Nat) (b':Bool),o=some (t,(s,((i':Nat):Int),b',()))∧i<=i'∧i'<=s.length∧zTy t+8*i<=8*i'+2∧(bad=true->zTy t=0∧i'=i∧b'=true)∧(b'=false->i<i')
theorem nx_le(i:Nat)(b:Bool):i<=nx i b:=by unfold nx;split<;>omega
theorem nx_in{s:Str}{i:Nat}{bad:Bool}{a:UInt8}(h:i<=s.length):nx i (tkn s i bad a)<=s.length:=by
 cases hb:tkn s i bad a with
 |true=>rw[nx_t];have:=(tkn_lt hb).1;omega
 |false=>rw[nx_f];exact h
theorem zTy_0(k:Int):zTy (Ty.mk k [] [])=0:=by rw[zTy_f];rfl
theorem zTy_bag(k:Int)(t:Ty):zTy (Ty.mk k [] [t])=1+zTy t:=by rw[zTy_f,Ty.labels_mk,Ty.args_mk];simp[szL]
theorem zTy_fun(k:Int)(t u:Ty):zTy (Ty.mk k [] [t,u])=2+zTy t+zTy u:=by rw[zTy_f,Ty.labels_mk,Ty.args_mk];simp[szL];omega
theorem t_spec(nf:Nat)(hn:1048580<nf)(s:Str)(hs:s.length<=1048576):∀(kf:Nat),
  (∀(d i:Nat) (bad:Bool),d<=8->2*(8-d)+1<=kf->i<=s.length->Tot s i bad (m_Zan nf kf (d:Int) s (i:Int) bad))∧
  (∀(d i:Nat),d<=8->2*(8-d)+2<=kf->i<=s.length->∃(t:Ty) (i':Nat) (b':Bool),m_Zak nf kf (d:Int) s (i:Int) false=some (t,(s,((i':Nat):Int),b',()))∧i<=i'∧i'<=s.length∧zTy t+8*i<=8*i'+2)
 |0=>⟨fun d i bad h1 h2=>by omega,fun d i h1 h2=>by omega⟩
 |kf+1=>by
  obtain⟨ihT,ihR⟩:=t_spec nf hn s hs kf
  refine⟨?_,?_⟩
  ·intro d i bad hd hk hi
   have hz:∀k:Int,zTy (Ty.mk k [] [])=0:=zTy_0
   rw[m_Zan_eq]
   cases bad with
   |true=>
    rw[show(true==false)=false from rfl,br_false,mark_eq,j4_Zan_eq,br_true]
    exact⟨_,i,true,rfl,by omega,hi,by rw[hz];omega,fun _=>⟨hz _,rfl,rfl⟩,fun h=>(by cases h)⟩
   |false=>
    rw[show(false==false)=true from rfl,br_true,mark_eq]
    by_cases h7:(7:Int)<(d:Int)
    ·rw[decide_eq_true h7,j4_Zan_eq,br_true]
     exact⟨_,i,true,rfl,by omega,hi,by rw[hz];omega,fun h=>(by cases h),fun h=>(by cases h)⟩
    rw[decide_eq_false h7,j4_Zan_eq,br_false]
    have ed:w64 ((d:Int)+1)=((d+1:Nat):Int):=w64_nat (n:=d) (by omega)
    rw[ed,p_specTake nf s 73 i false hi hs,cb_some]
    dsimp only
    cases t1:tkn s i false 73 with
    |true=>
     have hl:=(tkn_lt t1).1
     rw[br_true,m_Zaf_eq,cb_some,Ty.h_eq,nx_t]
     exact⟨_,i+1,false,rfl,by omega,by omega,by rw[hz];omega,fun h=>(by cases h),fun _=>by omega⟩
    |false=>
    rw[br_false,nx_f,p_specTake nf s 66 i false hi hs,cb_some]
    dsimp only
    cases t2:tkn s i false 66 with
    |true=>
     have hl:=(tkn_lt t2).1
     rw[br_true,m_ZZ_eq,cb_some,Ty.h_eq,nx_t]
     exact⟨_,i+1,false,rfl,by omega,by omega,by rw[hz];omega,fun h=>(by cases h),fun _=>by omega⟩
    |false=>
    rw[br_false,nx_f,p_specTake nf s 123 i false hi hs,cb_some]
    dsimp only
    cases t3:tkn s i false 123 with
    |true=>
     have hl:=(tkn_lt t3).1
     obtain⟨t,i',b',e,q1,q2,q3⟩:=ihR (d+1) (i+1) (by omega) (by omega) (by omega)
     rw[br_true,nx_t,e,cb_some,Ty.h_eq]
     exact⟨t,i',b',rfl,by omega,q2,by omega,fun h=>(by cases h),fun _=>by omega⟩
    |false=>
    rw[br_false,nx_f,p_specTake nf s 91 i false hi hs,cb_some]
    dsimp only
    cases t4:tkn s i false 91 with
    |true=>
     have hl:=(tkn_lt t4).1
     obtain⟨t,i1,b1,e,q1,q2,q3,q4,q5⟩:=ihT (d+1) (i+1) false (by omega) (by omega) (by omega)
     rw[br_true,nx_t,e,cb_some]
     dsimp only
     rw[p_specMust nf s 93 i1 b1 q2 hs,cb_some,Ty.h_eq]
     have:=nx_le i1 (tkn s i1 b1 93)
     exact⟨_,_,_,rfl,by omega,nx_in q2,by rw[zTy_bag];omega,fun h=>(by cases h),fun _=>by omega⟩
    |false=>
    rw[br_false,nx_f,p_specMust nf s 40 i false hi hs,cb_some]
    dsimp only
    cases t5:tkn s i false 40 with
    |false=>
     rw[Bool.not_false,br_true,nx_f]
     exact⟨_,i,true,rfl,by omega,hi,by rw[hz];omega,fun h=>(by cases h),fun h=>(by cases h)⟩
    |true=>
     have hl:=(tkn_lt t5).1
     obtain⟨t,i1,b1,e,q1,q2,q3,q4,q5⟩:=ihT (d+1) (i+1) false (by omega) (by omega) (by omega)
     rw[Bool.not_true,br_false,nx_t,e,cb_some]
     dsimp only
     rw[p_specMust nf s 62 i1 b1 q2 hs,cb_some]
     dsimp only
     have g1:=nx_le i1 (tkn s i1 b1 62)
     have g2:nx i1 (tkn s i1 b1 62)<=s.length:=nx_in q2
     cases t6:tkn s i1 b1 62 with
     |false=>
      rw[Bool.not_false,br_true]
      rw[t6]at g1 g2
      exact⟨_,_,true,rfl,by omega,g2,by rw[hz];omega,fun h=>(by cases h),fun h=>(by cases h)⟩
     |true=>
      rw[t6]at g1 g2
      rw[nx_t]at g1 g2
      obtain⟨u,i2,b2,e2,r1,r2,r3,r4,r5⟩:=ihT (d+1) (i1+1) false (by omega) (by omega) (by omega)
      rw[Bool.not_true,br_false,nx_t,e2,cb_some]
      dsimp only
      rw[p_specMust nf s 41 i2 b2 r2 hs,cb_some,Ty.h_eq,Ty.h_eq]
      have:=nx_le i2 (tkn s i2 b2 41)
      exact⟨_,_,_,rfl,by omega,nx_in r2,by rw[zTy_fun];omega,fun h=>(by cases h),fun _=>by omega⟩
  ·intro d i hd hk hi
   rw[m_Zak_eq,mark_eq]
   have key:∀(m j:Nat) (la:List Str) (ca:List Ty),i<=j->j<=s.length->s.length-j<m->szL List.length la+szL zTy ca+8*i<=8*j->
     ∃(t:Ty) (i':Nat) (b':Bool),l6_Zak nf (kf+1) m (d:Int) s (j:Int) false la ca=some (t,(s,((i':Nat):Int),b',()))∧i<=i'∧i'<=s.length∧zTy t+8*i<=8*i'+2:=by
    intro m
    induction m with
    |zero=>intro j la ca h1 h2 h3;omega
    |succ m ih=>
     intro j la ca h1 h2 h3 h4
     have hla:la.length<=szL List.length la:=by unfold szL;omega
     have hca:ca.length<=szL zTy ca:=by unfold szL;omega
     have hw:=wrd_le s j h2
     have gl:la.length+([wrd s j]:List Str).length<=33554432:=by simp;omega
     rw[l6_Zak_eq,Bool.not_false,br_true,p_specWord nf s j false h2 hs (by omega),cb_some]
     dsimp only
     rw[gg_pos gl,p_specMust nf s 58 (j+(wrd s j).length) false hw hs,cb_some]
     dsimp only
     have g1:=nx_le (j+(wrd s j).length) (tkn s (j+(wrd s j).length) false 58)
     have g2:nx (j+(wrd s j).length) (tkn s (j+(wrd s j).length) false 58)<=s.length:=nx_in hw
     obtain⟨t,i3,b3,e,q1,q2,q3,q4,q5⟩:=ihT d (nx (j+(wrd s j).length) (tkn s (j+(wrd s j).length) false 58)) (!tkn s (j+(wrd s j).length) false 58) hd (by omega) g2
     have gc:ca.length+([Ty.h t]:List Ty).length<=33554432:=by simp;omega
     rw[e,cb_some]
     dsimp only
     rw[gg_pos gc,Ty.h_eq,p_specTake nf s 44 i3 b3 q2 hs,cb_some]
     dsimp only
     have g3:=nx_le i3 (tkn s i3 b3 44)
     have g4:nx i3 (tkn s i3 b3 44)<=s.length:=nx_in q2
     have hS:szL List.length (la++[wrd s j])+szL zTy (ca++[t])+8*i<=8*i3+2∧(b3=false->szL List.length (la++[wrd s j])+szL zTy (ca++[t])+8*i<=8*i3):=by
      rw[szL_snoc',szL_snoc']
      cases tb:tkn s (j+(wrd s j).length) false 58 with
      |false=>
       rw[tb]at q4 q1
       obtain⟨z0,z1,z2⟩:=q4 rfl
       rw[nx_f]at q1 z1
       refine⟨by omega,fun h=>by rw[z2]at h;cases h⟩
      |true=>
       rw[tb]at q3
       rw[nx_t]at q3
       exact⟨by omega,fun _=>by omega⟩
     cases t7:tkn s i3 b3 44 with
     |false=>
      rw[Bool.not_false,br_true,mark_eq,j25_Zak_eq,nx_f,p_specMust nf s 125 i3 b3 q2 hs,cb_some]
      have g5:=nx_le i3 (tkn s i3 b3 125)
      have hzz:zTy (Ty.mk 3 (la++[wrd s j]) (ca++[t]))=szL List.length (la++[wrd s j])+szL zTy (ca++[t]):=by rw[zTy_f];rfl
      exact⟨_,_,_,rfl,by omega,nx_in q2,by rw[hzz];omega⟩
     |true=>
      have hb:=(tkn_lt t7).2
      rw[t7,nx_t]at g3 g4
      rw[Bool.not_true,br_false,mark_eq,nx_t,hb]
      have:=hS.2 hb
      exact ih (i3+1) _ _ (by omega) (by omega) (by omega) (by omega)
   have:=key nf i [] [] (Nat.le_refl _) hi (by omega) (by simp[szL])
   exact this
theorem drop_add{s a b:Str}{i:Nat}(h:s.drop i=a++b):s.drop (i+a.length)=b:=by
 rw[<-List.drop_drop,h,List.drop_left]
theorem drop_le{s a:Str}{i:Nat}{x:UInt8}{b:Str}(h:s.drop i=a++x::b):i+a.length<s.length:=by
 have h1:=congrArg List.length h
 rw[List.length_drop,List.length_append,List.length_cons]at h1
 omega
theorem take_all{α:Type}(c:List α)(z:α){k:Nat}{u:α}{us:List α}(h:c.drop k=u::us):k<c.length∧gt c (k:Int) z=u∧c.drop (k+1)=us∧c.take k++[u]=c.take (k+1):=by
 have hk:k<c.length:=by
  rcases Nat.lt_or_ge k c.length with h1|h1
  ·exact h1
  ·rw[List.drop_of_length_le h1]at h;cases h
 have h2:=h
 rw[List.drop_eq_getElem_cons hk]at h2
 simp only[List.cons.injEq]at h2
 have hg:gt c (k:Int) z=u:=by rw[gt_at c k hk];exact h2.1
 exact⟨hk,hg,h2.2,by rw[<-hg];exact take_gt c hk z⟩
theorem c_spec(nf:Nat)(hn:1048580<nf)(s:Str)(hs:s.length<=1048576):∀(n:Nat) (t:Ty) (kf d i:Nat) (w:Str),nSz t<=n->nForm t=true->d+nDep t<=8->2*nDep t+1<=kf->s.drop i=nText t++w->
  m_Zan nf kf (d:Int) s (i:Int) false=some (t,(s,((i+(nText t).length:Nat):Int),false,()))
 |0,t,_,_,_,_,h,_,_,_,_=>by have:=nSz_eq t;omega
 |n+1,t,0,_,_,_,_,_,_,h,_=>by omega
 |n+1,t,kf+1,d,i,w,hsz,hF,hd,hk,hdr=>by
  have hns:=nSz_eq t
  have hnd:=nDep_eq t
  have hn2:=nDep_le t
  have h7:¬(7:Int)<(d:Int):=by omega
  have ed:w64 ((d:Int)+1)=((d+1:Nat):Int):=w64_nat (n:=d) (by omega)
  have het:=Ty.eta t
  rw[m_Zan_eq,show(false==false)=true from rfl,br_true,mark_eq,decide_eq_false h7,j4_Zan_eq,br_false,ed]
  have sub:∀(k:Nat),k<t.args.length->nSz (gt t.args (k:Int) Ty.zero)<=n∧nForm (gt t.args (k:Int) Ty.zero)=true∧nDep (gt t.args (k:Int) Ty.zero)+1<=nDep t:=fun k hk=>by
   have h1:=nSz_at t.args hk
   have h2:=nDepL_at t.args hk
   exact⟨by omega,form_at hF hk,by omega⟩
  rcases form_kind hF with k|k|k|k|k
  ·have hX:nText t=[73]:=by rw[nText_eq,if_pos k]
   have ha:=form_args hF (by omega)
   have w1:want 1=0:=by decide
   rw[k,w1]at ha
   have ha2:t.args=[]:=List.eq_nil_of_length_eq_zero (by omega)
   rw[hX]at hdr⊢
   have hdr':s.drop i=73::w:=hdr
   have hil:=(drop_hd hdr').2.1
   rw[p_specTake nf s 73 i false (by omega) hs,cb_some,tkn_yes hdr',br_true,m_Zaf_eq,cb_some,Ty.h_eq]
   rw[k,ha.1,ha2]at het
   rw[het]
   rfl
  ·have hX:nText t=[66]:=by rw[nText_eq,if_neg (by omega),if_pos k]
   have ha:=form_args hF (by omega)
   have w1:want 2=0:=by decide
   rw[k,w1]at ha
   have ha2:t.args=[]:=List.eq_nil_of_length_eq_zero (by omega)
   rw[hX]at hdr⊢
   have hdr':s.drop i=66::w:=hdr
   have hil:=(drop_hd hdr').2.1
   rw[p_specTake nf s 73 i false (by omega) hs,cb_some,tkn_no hdr' (by decide),br_false]
   dsimp only
   rw[nx_f,p_specTake nf s 66 i false (by omega) hs,cb_some,tkn_yes hdr',br_true,m_ZZ_eq,cb_some,Ty.h_eq]
   rw[k,ha.1,ha2]at het
   rw[het]
   rfl
  ·
   have hX:nText t=[123]++Lib.join (nTexts t.kind t.labels t.args 0) [44]++[125]:=by rw[nText_eq,if_neg (by omega),if_neg (by omega),if_pos k]
   rw[hX]at hdr⊢
   have hdr':s.drop i=123::(Lib.join (nTexts t.kind t.labels t.args 0) [44]++125::w):=by rw[hdr];simp
   obtain⟨_,hil,hd2⟩:=drop_hd hdr'
   rw[p_specTake nf s 73 i false (by omega) hs,cb_some,tkn_no hdr' (by decide),br_false]
   dsimp only
   rw[nx_f,p_specTake nf s 66 i false (by omega) hs,cb_some,tkn_no hdr' (by decide),br_false]
   dsimp only
   rw[nx_f,p_specTake nf s 123 i false (by omega) hs,cb_some,tkn_yes hdr',br_true,nx_t]
   dsimp only
   have hll:=form_rec hF k
   have hlab:=form_lab hF k
   have h1l:1<=t.labels.length:=by
    unfold nLab at hlab
    simp only[Bool.and_eq_true,decide_eq_true_eq]at hlab
    exact hlab.2.1.1
   obtain⟨kf,rfl⟩:∃kf',kf=kf'+1:=⟨kf-1,by omega⟩
   have key:∀(us:List Ty) (u:Ty) (p j m:Nat),t.args.drop p=u::us->us.length<m->s.drop j=Lib.join (nTexts t.kind t.labels (u::us) p) [44]++125::w->
     l6_Zak nf (kf+1) m ((d+1:Nat):Int) s (j:Int) false (t.labels.take p) (t.args.take p)=some (Ty.mk 3 t.labels t.args,(s,((j+(Lib.join (nTexts t.kind t.labels (u::us) p) [44]).length+1:Nat):Int),false,())):=by
    intro us
    induction us with
    |nil=>
     intro u p j m hp hm hj
     obtain⟨m,rfl⟩:∃m',m=m'+1:=⟨m-1,by omega⟩
     obtain⟨hp1,hp2,hp3,hp4⟩:=take_all t.args Ty.zero hp
     obtain⟨s1,s2,s3⟩:=sub p hp1
     rw[hp2]at s1 s2 s3
     have hpl:p<t.labels.length:=by omega
     have hnm:=lab_name hlab hpl
     have hpe:p+1=t.args.length:=by
      have:=congrArg List.length hp3
      rw[List.length_drop]at this
      simp only[List.length_nil]at this
      omega
     have hjn:Lib.join (nTexts t.kind t.labels [u] p) [44]=gt t.labels (p:Int) ([]:Str)++[58]++nText u:=by
      rw[nTexts_cons,nTexts_nil,Lib.join_one];unfold itm;rw[if_pos k]
     rw[hjn]at hj⊢
     have hj1:s.drop j=gt t.labels (p:Int) ([]:Str)++58::(nText u++125::w):=by rw[hj];simp
     have hj1l:=drop_le hj1
     have hwd:wrd s j=gt t.labels (p:Int) ([]:Str):=by unfold wrd;rw[hj1];exact tw_name hnm
     have hj2:=drop_add hj1
     obtain⟨_,_,hj3⟩:=drop_hd hj2
     have hj3l:=drop_le hj3
     have hj4:=drop_add hj3
     have hla:(t.labels.take p).length+([wrd s j]:List Str).length<=33554432:=by
      rw[List.length_take]
      have:t.labels.length<=4:=by
       unfold nLab at hlab
       simp only[Bool.and_eq_true,decide_eq_true_eq]at hlab
       exact hlab.2.1.2
      simp;omega
     have hca:(t.args.take p).length+([Ty.h u]:List Ty).length<=33554432:=by
      have:t.labels.length<=4:=by
       unfold nLab at hlab
       simp only[Bool.and_eq_true,decide_eq_true_eq]at hlab
       exact hlab.2.1.2
      rw[List.length_take]
      simp;omega
     rw[l6_Zak_eq,Bool.not_false,br_true,p_specWord nf s j false (by omega) hs (by omega),cb_some]
     dsimp only
     rw[gg_pos hla,hwd,p_specMust nf s 58 _ false (by omega) hs,cb_some,tkn_yes hj2,nx_t]
     dsimp only
     rw[Bool.not_true,c_spec nf hn s hs n u kf (d+1) _ _ s1 s2 (by omega) (by omega) hj3,cb_some]
     dsimp only
     rw[gg_pos hca,Ty.h_eq,p_specTake nf s 44 _ false (by omega) hs,cb_some,tkn_no hj4 (by decide),Bool.not_false,br_true,mark_eq,j25_Zak_eq,nx_f]
     dsimp only
     rw[p_specMust nf s 125 _ false (by omega) hs,cb_some,tkn_yes hj4,nx_t]
     have eL:t.labels.take p++[gt t.labels (p:Int) ([]:Str)]=t.labels:=by
      rw[take_gt t.labels hpl,List.take_of_length_le (by omega)]
     have eA:t.args.take p++[u]=t.args:=by
      rw[hp4,List.take_of_length_le (by omega)]
     rw[eL,eA]
     have en:j+List.length (gt t.labels (p:Int) ([]:Str))+1+(nText u).length+1=j+(gt t.labels (p:Int) ([]:Str)++[58]++nText u).length+1:=by simp;omega
     rw[en]
     rfl
    |cons v us ih=>
     intro u p j m hp hm hj
     obtain⟨m,rfl⟩:∃m',m=m'+1:=⟨m-1,by omega⟩
     obtain⟨hp1,hp2,hp3,hp4⟩:=take_all t.args Ty.zero hp
     obtain⟨s1,s2,s3⟩:=sub p hp1
     rw[hp2]at s1 s2 s3
     have hpl:p<t.labels.length:=by omega
     have hnm:=lab_name hlab hpl
     have hjn:Lib.join (nTexts t.kind t.labels (u::v::us) p) [44]=gt t.labels (p:Int) ([]:Str)++[58]++nText u++[44]++Lib.join (nTexts t.kind t.labels (v::us) (p+1)) [44]:=by
      rw[nTexts_cons t.kind t.labels u,nTexts_cons t.kind t.labels v,Lib.join_cons,Lib.join_cons,tail_cons]
      have:itm t.kind t.labels p u=gt t.labels (p:Int) ([]:Str)++[58]++nText u:=by unfold itm;rw[if_pos k]
      rw[this]
      simp
     rw[hjn]at hj⊢
     have hj1:s.drop j=gt t.labels (p:Int) ([]:Str)++58::(nText u++44::(Lib.join (nTexts t.kind t.labels (v::us) (p+1)) [44]++125::w)):=by rw[hj];simp
     have hj1l:=drop_le hj1
     have hwd:wrd s j=gt t.labels (p:Int) ([]:Str):=by unfold wrd;rw[hj1];exact tw_name hnm
     have hj2:=drop_add hj1
     obtain⟨_,_,hj3⟩:=drop_hd hj2
     have hj3l:=drop_le hj3
     have hj4:=drop_add hj3
     obtain⟨_,_,hj5⟩:=drop_hd hj4
     have h4:t.labels.length<=4:=by
      unfold nLab at hlab
      simp only[Bool.and_eq_true,decide_eq_true_eq]at hlab
      exact hlab.2.1.2
     have hla:(t.labels.take p).length+([wrd s j]:List Str).length<=33554432:=by
      rw[List.length_take]
      simp;omega
     have hca:(t.args.take p).length+([Ty.h u]:List Ty).length<=33554432:=by
      rw[List.length_take]
      simp;omega
     have hih:=ih v (p+1) (j+List.length (gt t.labels (p:Int) ([]:Str))+1+(nText u).length+1) m hp3 (by simp only[List.length_cons]at hm;omega) hj5
     rw[l6_Zak_eq,Bool.not_false,br_true,p_specWord nf s j false (by omega) hs (by omega),cb_some]
     dsimp only
     rw[gg_pos hla,hwd,p_specMust nf s 58 _ false (by omega) hs,cb_some,tkn_yes hj2,nx_t]
     dsimp only
     rw[Bool.not_true,c_spec nf hn s hs n u kf (d+1) _ _ s1 s2 (by omega) (by omega) hj3,cb_some]
     dsimp only
     rw[gg_pos hca,Ty.h_eq,p_specTake nf s 44 _ false (by omega) hs,cb_some,tkn_yes hj4,Bool.not_true,br_false,mark_eq,nx_t,take_gt t.labels hpl,hp4,hih]
     have en:j+List.length (gt t.labels (p:Int) ([]:Str))+1+(nText u).length+1+(Lib.join (nTexts t.kind t.labels (v::us) (p+1)) [44]).length+1=j+(gt t.labels (p:Int) ([]:Str)++[58]++nText u++[44]++Lib.join (nTexts t.kind t.labels (v::us) (p+1)) [44]).length+1:=by simp;omega
     rw[en]
   have h0:∃u us,t.args.drop 0=u::us:=by
    rw[List.drop_zero]
    match t.args,(show 0<t.args.length by omega)with
    |u::us,_=>exact⟨u,us,rfl⟩
   obtain⟨u,us,h0⟩:=h0
   have h0':t.args=u::us:=by rw[<-h0,List.drop_zero]
   have hl4:t.labels.length<=4:=by
    unfold nLab at hlab
    simp only[Bool.and_eq_true,decide_eq_true_eq]at hlab
    exact hlab.2.1.2
   have hul:us.length<nf:=by
    have:=congrArg List.length h0'
    rw[List.length_cons]at this
    omega
   have hd2':s.drop (i+1)=Lib.join (nTexts t.kind t.labels (u::us) 0) [44]++125::w:=by rw[hd2,<-h0']
   have:=key us u 0 (i+1) nf h0 hul hd2'
   rw[List.take_zero,List.take_zero,<-h0']at this
   rw[m_Zak_eq,mark_eq,this,cb_some,Ty.h_eq]
   have en:i+1+(Lib.join (nTexts t.kind t.labels t.args 0) [44]).length+1=i+([123]++Lib.join (nTexts t.kind t.labels t.args 0) [44]++[125]:Str).length:=by simp;omega
   rw[k]at het
   rw[en,het]
  ·
   have k3:¬t.kind=3:=by omega
   have hl:=form_bag hF k
   obtain⟨u,hu⟩:∃u,t.args=[u]:=by
    match t.args,hl with
    | [u],_=>exact⟨u,rfl⟩
   have hgu:gt t.args ((0:Nat):Int) Ty.zero=u:=by rw[hu];rfl
   obtain⟨s1,s2,s3⟩:=sub 0 (by omega)
   rw[hgu]at s1 s2 s3
   have hX:nText t=[91]++nText u++[93]:=by
    rw[nText_eq,if_neg (by omega),if_neg (by omega),if_neg k3,if_pos k,hu,nTexts_cons]
    unfold itm
    rw[if_neg k3]
    rfl
   rw[hX]at hdr⊢
   have hdr':s.drop i=91::(nText u++93::w):=by rw[hdr];simp
   obtain⟨_,hil,hd2⟩:=drop_hd hdr'
   have hd3l:=drop_le hd2
   have hd3:=drop_add hd2
   rw[p_specTake nf s 73 i false (by omega) hs,cb_some,tkn_no hdr' (by decide),br_false]
   dsimp only
   rw[nx_f,p_specTake nf s 66 i false (by omega) hs,cb_some,tkn_no hdr' (by decide),br_false]
   dsimp only
   rw[nx_f,p_specTake nf s 123 i false (by omega) hs,cb_some,tkn_no hdr' (by decide),br_false]
   dsimp only
   rw[nx_f,p_specTake nf s 91 i false (by omega) hs,cb_some,tkn_yes hdr',br_true,nx_t]
   dsimp only
   rw[c_spec nf hn s hs n u kf (d+1) (i+1) _ s1 s2 (by omega) (by omega) hd2,cb_some]
   dsimp only
   rw[p_specMust nf s 93 _ false (by omega) hs,cb_some,tkn_yes hd3,nx_t,Ty.h_eq]
   rw[k,(form_args hF k3).1,hu]at het
   rw[het]
   have en:i+1+(nText u).length+1=i+([91]++nText u++[93]:Str).length:=by simp;omega
   rw[en]
   rfl
  ·
   have k3:¬t.kind=3:=by omega
   have hl:t.args.length=2:=by
    have:=(form_args hF k3).2
    rw[k]at this
    have w5:want 5=2:=by decide
    omega
   obtain⟨u,v,hu⟩:∃u v,t.args=[u,v]:=by
    match t.args,hl with
    | [u,v],_=>exact⟨u,v,rfl⟩
   have hgu:gt t.args ((0:Nat):Int) Ty.zero=u:=by rw[hu];rfl
   have hgv:gt t.args ((1:Nat):Int) Ty.zero=v:=by rw[hu];rfl
   obtain⟨s1,s2,s3⟩:=sub 0 (by omega)
   obtain⟨r1,r2,r3⟩:=sub 1 (by omega)
   rw[hgu]at s1 s2 s3
   rw[hgv]at r1 r2 r3
   have hX:nText t=[40]++nText u++[62]++nText v++[41]:=by
    rw[nText_eq,if_neg (by omega),if_neg (by omega),if_neg k3,if_neg (by omega),hu,nTexts_cons,nTexts_cons,nTexts_nil,Lib.join_cons,tail_cons]
    unfold itm
    rw[if_neg k3,if_neg k3]
    simp[Lib.joinTail]
   rw[hX]at hdr⊢
   have hdr':s.drop i=40::(nText u++62::(nText v++41::w)):=by rw[hdr];simp
   obtain⟨_,hil,hd2⟩:=drop_hd hdr'
   have hd3l:=drop_le hd2
   have hd3:=drop_add hd2
   obtain⟨_,_,hd4⟩:=drop_hd hd3
   have hd5l:=drop_le hd4
   have hd5:=drop_add hd4
   rw[p_specTake nf s 73 i false (by omega) hs,cb_some,tkn_no hdr' (by decide),br_false]
   dsimp only
   rw[nx_f,p_specTake nf s 66 i false (by omega) hs,cb_some,tkn_no hdr' (by decide),br_false]
   dsimp only
   rw[nx_f,p_specTake nf s 123 i false (by omega) hs,cb_some,tkn_no hdr' (by decide),br_false]
   dsimp only
   rw[nx_f,p_specTake nf s 91 i false (by omega) hs,cb_some,tkn_no hdr' (by decide),br_false]
   dsimp only
   rw[nx_f,p_specMust nf s 40 i false (by omega) hs,cb_some,tkn_yes hdr',nx_t]
   dsimp only
   rw[Bool.not_true,br_false,c_spec nf hn s hs n u kf (d+1) (i+1) _ s1 s2 (by omega) (by omega) hd2,cb_some]
   dsimp only
   rw[p_specMust nf s 62 _ false (by omega) hs,cb_some,tkn_yes hd3,nx_t]
   dsimp only
   rw[Bool.not_true,br_false,c_spec nf hn s hs n v kf (d+1) _ _ r1 r2 (by omega) (by omega) hd4,cb_some]
   dsimp only
   rw[p_specMust nf s 41 _ false (by omega) hs,cb_some,tkn_yes hd5,nx_t,Ty.h_eq,Ty.h_eq]
   rw[k,(form_args hF k3).1,hu]at het
   rw[het]
   have en:i+1+(nText u).length+1+(nText v).length+1=i+([40]++nText u++[62]++nText v++[41]:Str).length:=by simp;omega
   rw[en]
   rfl
end Go.Q
