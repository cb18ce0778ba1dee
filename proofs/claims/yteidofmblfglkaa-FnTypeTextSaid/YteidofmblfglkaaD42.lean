/- Reading the text of a type: the program's side. -/
import Derived.Test.YteidofmblfglkaaD41
import Derived.Test.YteidofmblfglkaaD9p
import Derived.Test.YteidofmblfglkaaC7
set_option linter.unusedVariables false
set_option linter.unusedSimpArgs false
set_option maxHeartbeats 1000000
namespace Go.Q
open Go.Proofs Go.RowKit
theorem p_hasPrefix(nf:Nat)(w:Str)(a:UInt8):m_Zap nf w [a]=some (decide (w[0]? =some a)):=by
 rw[m_Zap_eq,m_ZA_eq]
 cases w with
 |nil=>rfl
 |cons b w=>
  have e0:(decide ((List.length ([a]:Str):Int)<=(List.length (b::w):Int))==true)=true:=by
   rw[decide_eq_true (by simp;omega)];rfl
  rw[e0,br_true,gg_pos ⟨by omega,by simp,by simp;omega⟩,cb_some]
  have e1:(List.drop (Int.toNat (0:Int)) (List.take (Int.toNat (List.length ([a]:Str):Int)) (b::w))==([a]:Str))=decide ((b::w)[0]? =some a):=by
   have e2:List.drop (Int.toNat (0:Int)) (List.take (Int.toNat (List.length ([a]:Str):Int)) (b::w))=[b]:=rfl
   rw[e2]
   by_cases hx:b=a
   ·subst hx;simp
   ·have:¬(([b]:Str)=[a]):=fun e=>hx (by injection e)
    rw[beq_eq_false_iff_ne.2 this]
    simp[hx]
  rw[e1]
theorem p_implIs(nf:Nat)(s:Str)(a:UInt8)(i:Nat)(bad:Bool)(h:i<=s.length):m_Zq nf [a] s (i:Int) bad=some (tkn s i bad a,(s,(i:Int),bad,())):=by
 rw[m_Zq_eq]
 cases bad with
 |true=>rfl
 |false=>
  rw[show((!false)==true)=true from rfl,br_true,gg_pos ⟨by omega,by omega,by omega⟩,Int.toNat_natCast,Int.toNat_natCast,List.take_length,p_hasPrefix,cb_some,List.getElem?_drop]
  rfl
theorem p_implTake(nf:Nat)(s:Str)(a:UInt8)(i:Nat)(bad:Bool)(h:i<=s.length)(hs:s.length<=1048576):m_Zv nf [a] s (i:Int) bad=some (tkn s i bad a,(s,((nx i (tkn s i bad a):Nat):Int),bad,())):=by
 have ew:w64 ((i:Int)+(List.length ([a]:Str):Int))=((i+1:Nat):Int):=by
  rw[show(List.length ([a]:Str):Int)=1 from rfl];exact w64_nat (n:=i) (by omega)
 rw[m_Zv_eq,p_implIs nf s a i bad h,cb_some]
 dsimp only
 cases ht:tkn s i bad a with
 |true=>rw[Bool.not_true,br_false,ew];rfl
 |false=>rw[Bool.not_false,br_true];rfl
theorem p_implNeed(nf:Nat)(s:Str)(a:UInt8)(i:Nat)(bad:Bool)(h:i<=s.length)(hs:s.length<=1048576):m_Zt nf [a] s (i:Int) bad=some ((),(s,((nx i (tkn s i bad a):Nat):Int),!tkn s i bad a,())):=by
 rw[m_Zt_eq,p_implTake nf s a i bad h hs,cb_some]
 dsimp only
 cases ht:tkn s i bad a with
 |true=>rw[Bool.not_true,br_false,(tkn_lt ht).2]
 |false=>rw[Bool.not_false,br_true]
theorem p_name1(nf:Nat)(b:UInt8):m_Zs nf ((b.toNat:Nat):Int)=some (wc b):=by
 rw[m_Zs_eq,p_isSmall,cb_some,p_isDigit,cb_some]
 unfold wc
 cases sml ((b.toNat:Nat):Int)<;>cases dig ((b.toNat:Nat):Int)<;>rfl
theorem p_implRun(nf:Nat)(s:Str)(i:Nat)(h:i<=s.length)(hs:s.length<=1048576)(hn:1048577<nf):m_Zu nf s (i:Int) false=some (wrd s i,(s,((i+(wrd s i).length:Nat):Int),false,())):=by
 have key:∀(w:Str) (y m:Nat),s.drop y=w->i<=y->y<=s.length->s.length-y<m->l6_Zu nf m (i:Int) s false (y:Int)=some (List.drop i (List.take (y+(w.takeWhile wc).length) s),(s,((y+(w.takeWhile wc).length:Nat):Int),false,())):=by
  intro w
  induction w with
  |nil=>
   intro y m hd hy hle hm
   obtain⟨m,rfl⟩:∃m',m=m'+1:=⟨m-1,by omega⟩
   have hy2:y=s.length:=by
    have:=congrArg List.length hd
    rw[List.length_drop]at this
    simp only[List.length_nil]at this
    omega
   have e0:(decide ((y:Int)<(s.length:Int))==true)=false:=by rw[decide_eq_false (by omega)];rfl
   rw[l6_Zu_eq,show((!false)==true)=true from rfl,br_true,e0,br_false,mark_eq,j10_Zu_eq,br_false,mark_eq,j15_Zu_eq,gg_pos ⟨by omega,by omega,by omega⟩]
   simp
  |cons b w ih=>
   intro y m hd hy hle hm
   obtain⟨m,rfl⟩:∃m',m=m'+1:=⟨m-1,by omega⟩
   obtain⟨h1,h2,h3⟩:=drop_hd hd
   have e0:(decide ((y:Int)<(s.length:Int))==true)=true:=by rw[decide_eq_true (by omega)];rfl
   have hb:(List.getD s (Int.toNat (y:Int)) 0)=b:=by
    rw[Int.toNat_natCast,List.getD_eq_getElem?_getD,h1];rfl
   rw[l6_Zu_eq,show((!false)==true)=true from rfl,br_true,e0,br_true,gg_pos ⟨by omega,by omega⟩,hb,p_name1,cb_some,mark_eq,j10_Zu_eq]
   cases hw:wc b with
   |true=>
    rw[br_true,mark_eq,w64_nat (n:=y) (by omega),ih (y+1) m h3 (by omega) (by omega) (by omega),List.takeWhile_cons,hw]
    simp only[if_true,List.length_cons]
    rw[show y+1+(List.takeWhile wc w).length=y+((List.takeWhile wc w).length+1) by omega]
   |false=>
    rw[br_false,mark_eq,j15_Zu_eq,gg_pos ⟨by omega,by omega,by omega⟩,List.takeWhile_cons,hw]
    simp
 rw[m_Zu_eq,mark_eq,key (s.drop i) i nf rfl (Nat.le_refl _) h (by omega)]
 have:=wrd_sub s i h
 unfold wrd at this⊢
 rw[this]
theorem p_implNm(nf:Nat)(s:Str)(i:Nat)(h:i<=s.length)(hs:s.length<=1048576)(hn:1048577<nf):m_Zr nf s (i:Int) false=some (wrd s i,(s,((i+(wrd s i).length:Nat):Int),!nNm (wrd s i),())):=by
 have hw:=wrd_le s i h
 rw[m_Zr_eq,p_implRun nf s i h hs hn,cb_some]
 dsimp only
 rw[p_implName nf (wrd s i) (by omega) (by omega),cb_some]
 cases nNm (wrd s i)with
 |true=>rfl
 |false=>rfl
theorem nTexts_gt(k:Int)(ls:List Str):∀(us:List Ty) (j i:Nat),i<us.length->gt (nTexts k ls us j) (i:Int) ([]:Str)=itm k ls (j+i) (gt us (i:Int) Ty.zero)
 | [],j,i,h=>by simp at h
 |u::us,j,0,h=>by rw[nTexts_cons];simp[gt]
 |u::us,j,i+1,h=>by
  have ih:=nTexts_gt k ls us (j+1) i (by simpa using h)
  have e1:gt (itm k ls j u::nTexts k ls us (j+1)) ((i+1:Nat):Int) ([]:Str)=gt (nTexts k ls us (j+1)) (i:Int) ([]:Str):=by simp[gt]
  have e2:gt (u::us) ((i+1:Nat):Int) Ty.zero=gt us (i:Int) Ty.zero:=by simp[gt]
  rw[nTexts_cons,e1,ih,e2,show j+1+i=j+(i+1) by omega]
theorem p_typeText(nf:Nat)(hn:1000001<nf):∀(kf:Nat) (t:Ty),nSz t<kf->nForm t=true->nSz t<=1000->m_Zz nf kf t=some (nText t)
 |0,t,h,_,_=>absurd h (Nat.not_lt_zero _)
 |kf+1,t,h,hF,hb=>by
  have hns:=nSz_eq t
  have hla:t.args.length<=nSzL t.args:=by
   have:∀c:List Ty,c.length<=nSzL c:=by
    intro c
    induction c with
    |nil=>simp
    |cons x c ih=>have:=nSz_eq x;simp only[nSzL,List.length_cons];omega
   exact this _
  have hpl:=parts_len hF
  have b1:(t.kind==(1:Int))=decide (t.kind=1):=rfl
  have b2:(t.kind==(2:Int))=decide (t.kind=2):=rfl
  have b4:(t.kind==(4:Int))=decide (t.kind=4):=rfl
  have b5:(t.kind==(5:Int))=decide (t.kind=5):=rfl
  rw[m_Zz_eq,b1,b2,b4,b5,nText_eq]
  by_cases k1:t.kind=1
  ·rw[br_pos k1,if_pos k1]
  rw[br_neg k1,if_neg k1]
  by_cases k2:t.kind=2
  ·rw[br_pos k2,if_pos k2]
  rw[br_neg k2,if_neg k2]
  by_cases k4:t.kind=4
  ·have hl:=form_bag hF k4
   have hi:0<t.args.length:=by omega
   have hsn:=nSz_at t.args hi
   have e:=p_typeText nf hn kf (gt t.args ((0:Nat):Int) Ty.zero) (by omega) (form_at hF hi) (by omega)
   have hnl:=nText_len _ (form_at hF hi)
   have hg:=nTexts_gt t.kind t.labels t.args 0 0 hi
   have k3:¬t.kind=3:=by omega
   have ei:itm t.kind t.labels (0+0) (gt t.args ((0:Nat):Int) Ty.zero)=nText (gt t.args ((0:Nat):Int) Ty.zero):=by unfold itm;rw[if_neg k3]
   rw[ei]at hg
   rw[show((0:Nat):Int)=0 from rfl]at e hg hnl hsn
   rw[br_pos k4,if_neg k3,if_pos k4,gg_pos (by omega),e,cb_some,gg_pos (by simp;omega),gg_pos (by simp;omega),hg]
  rw[br_neg k4]
  by_cases k5:t.kind=5
  ·have k3:¬t.kind=3:=by omega
   have hl:t.args.length=2:=by
    have:=(form_args hF k3).2
    rw[k5]at this
    have w5:want 5=2:=by decide
    omega
   have hi0:0<t.args.length:=by omega
   have hi1:1<t.args.length:=by omega
   have hs0:=nSz_at t.args hi0
   have hs1:=nSz_at t.args hi1
   have e0:=p_typeText nf hn kf (gt t.args ((0:Nat):Int) Ty.zero) (by omega) (form_at hF hi0) (by omega)
   have e1:=p_typeText nf hn kf (gt t.args ((1:Nat):Int) Ty.zero) (by omega) (form_at hF hi1) (by omega)
   have n0:=nText_len _ (form_at hF hi0)
   have n1:=nText_len _ (form_at hF hi1)
   have hj:Lib.join (nTexts t.kind t.labels t.args 0) [62]=nText (gt t.args ((0:Nat):Int) Ty.zero)++[62]++nText (gt t.args ((1:Nat):Int) Ty.zero):=by
    obtain⟨x,y,hxy⟩:∃x y,t.args=[x,y]:=by
     match t.args,hl with
     | [x,y],_=>exact⟨x,y,rfl⟩
    have ex:gt t.args ((0:Nat):Int) Ty.zero=x:=by rw[hxy];rfl
    have ey:gt t.args ((1:Nat):Int) Ty.zero=y:=by rw[hxy];rfl
    rw[ex,ey,hxy,nTexts_cons,nTexts_cons,nTexts_nil,Lib.join_cons,tail_cons]
    unfold itm
    rw[if_neg k3,if_neg k3]
    simp[Lib.joinTail]
   rw[show((0:Nat):Int)=0 from rfl]at e0 hj n0 hs0
   rw[show((1:Nat):Int)=1 from rfl]at e1 hj n1 hs1
   rw[br_pos k5,if_neg k3,if_neg k4,gg_pos (by omega),e0,cb_some,gg_pos (by simp;omega),gg_pos (by simp;omega),gg_pos (by omega),e1,cb_some,gg_pos (by simp;omega),gg_pos (by simp;omega),hj]
   simp
  rw[br_neg k5]
  have k3:t.kind=3:=by
   have:=form_kind hF
   omega
  have hl:=form_rec hF k3
  rw[if_pos k3,mark_eq]
  have:=for_loop (fun m i s=>l37_Zz nf (kf+1) m t i s) t.labels.length (fun i=>nTexts t.kind t.labels (t.args.take i) 0) (some ([123]++Lib.join (nTexts t.kind t.labels t.args 0) [44]++[125])) (fun m i hi=> ?_) (fun m=> ?_) nf (by omega)
  ·simpa[nTexts_nil]using this
  ·have hi':i<t.args.length:=by omega
   have c0:(i:Int)<(t.labels.length:Int):=by omega
   have c1:0<=(i:Int)∧(i:Int)<(t.labels.length:Int):=by omega
   have c2:0<=(i:Int)∧(i:Int)<(t.args.length:Int):=by omega
   have hsn:=nSz_at t.args hi'
   have e:=p_typeText nf hn kf (gt t.args (i:Int) Ty.zero) (by omega) (form_at hF hi') (by omega)
   have hnl:=nText_len _ (form_at hF hi')
   have hll:=lab_len (form_lab hF k3) i
   have ei:itm t.kind t.labels i (gt t.args (i:Int) Ty.zero)=gt t.labels (i:Int) ([]:Str)++[58]++nText (gt t.args (i:Int) Ty.zero):=by unfold itm;rw[if_pos k3]
   have hg:(nTexts t.kind t.labels (t.args.take i) 0).length+([itm t.kind t.labels i (gt t.args (i:Int) Ty.zero)]:List Str).length<=33554432:=by
    rw[nTexts_length,List.length_take];simp;omega
   rw[nTexts_take t.kind t.labels t.args hi']
   rw[ei]at hg⊢
   rw[l37_Zz_eq,br_pos c0,gg_pos c1,gg_pos (by simp;omega),gg_pos c2,e,cb_some,gg_pos (by simp;omega),gg_pos hg,mark_eq,w64_nat (n:=i) (by omega)]
  ·have c0:¬(t.labels.length:Int)<(t.labels.length:Int):=by omega
   have j1:=join_len [44] (by decide) (nTexts t.kind t.labels t.args 0)
   have hnl:=nTexts_length t.kind t.labels t.args 0
   have e:m_Zaq nf (nTexts t.kind t.labels t.args 0) [44]=some (Lib.join (nTexts t.kind t.labels t.args 0) [44]):=gg_pos ⟨by omega,by omega⟩ _
   rw[l37_Zz_eq,br_neg c0,mark_eq,<-hl,List.take_length,j50_Zz_eq,e,cb_some,gg_pos (by simp;omega),gg_pos (by simp;omega)]
theorem p_implFormat(nf:Nat)(hn:1000001<nf)(t:Ty)(h:8*zTy t+1<nf)(hb:zTy t<=16777216):m_Ze nf t=some (fmtT t):=by
 rw[m_Ze_eq,Ty.h_eq,p_implValid nf t h hb,cb_some]
 unfold fmtT
 cases hv:nVal t with
 |false=>rfl
 |true=>
  have hs:=val_sz hv
  rw[Bool.not_true,br_false,p_typeText nf hn nf t (by omega) (val_frm hv) (by omega),cb_some]
  rfl
end Go.Q
