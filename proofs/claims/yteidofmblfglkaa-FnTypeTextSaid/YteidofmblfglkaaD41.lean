/- Reading the text of a type: the reference's side. -/
import Derived.Test.YteidofmblfglkaaD40
import Derived.Test.YteidofmblfglkaaD2p
import Derived.Test.YteidofmblfglkaaC6
set_option linter.unusedVariables false
set_option linter.unusedSimpArgs false
set_option maxHeartbeats 1000000
namespace Go.Q
theorem p_specTake(nf:Nat)(s:Str)(a:UInt8)(i:Nat)(bad:Bool)(h:i<=s.length)(hs:s.length<=1048576):m_Zal nf [a] s (i:Int) bad=some (tkn s i bad a,(s,((nx i (tkn s i bad a):Nat):Int),bad,())):=by
 have ew:w64 ((i:Int)+(List.length ([a]:Str):Int))=((i+1:Nat):Int):=by
  rw[show(List.length ([a]:Str):Int)=1 from rfl];exact w64_nat (n:=i) (by omega)
 rw[m_Zal_eq,ew]
 cases bad with
 |true=>
  have e:tkn s i true a=false:=rfl
  rw[e,show(true==false)=false from rfl,br_false,mark_eq,j5_Zal_eq,br_true]
  rfl
 |false=>
  rw[show(false==false)=true from rfl,br_true]
  by_cases hi:i<s.length
  ·have e0:(decide ((s.length:Int)<((i+1:Nat):Int))==false)=true:=by rw[decide_eq_false (by omega)];rfl
   have e1:Int.toNat (i:Int)=i:=by omega
   have e2:Int.toNat ((i+1:Nat):Int)=i+1:=by omega
   rw[e0,br_true,gg_pos ⟨by omega,by omega,by omega⟩,mark_eq,e1,e2,take_one s hi]
   have e3:tkn s i false a=(([s[i]]:Str)==[a]):=by
    unfold tkn
    rw[List.getElem?_eq_getElem hi]
    by_cases hx:s[i]=a
    ·rw[hx];simp
    ·have:¬(([s[i]]:Str)=[a]):=fun e=>hx (by injection e)
     rw[beq_eq_false_iff_ne.2 this]
     simp[hx]
   rw[e3,j5_Zal_eq]
   cases hb:(([s[i]]:Str)==[a])with
   |true=>rw[Bool.not_true,br_false,ew];rfl
   |false=>rw[Bool.not_false,br_true];rfl
  ·have hi2:i=s.length:=by omega
   have e0:(decide ((s.length:Int)<((i+1:Nat):Int))==false)=false:=by rw[decide_eq_true (by omega)];rfl
   have e:tkn s i false a=false:=by unfold tkn;rw[List.getElem?_eq_none (by omega)];rfl
   rw[e0,br_false,mark_eq,j5_Zal_eq,br_true,e]
   rfl
theorem p_specMust(nf:Nat)(s:Str)(a:UInt8)(i:Nat)(bad:Bool)(h:i<=s.length)(hs:s.length<=1048576):m_Zaj nf [a] s (i:Int) bad=some ((),(s,((nx i (tkn s i bad a):Nat):Int),!tkn s i bad a,())):=by
 rw[m_Zaj_eq]
 cases bad with
 |true=>
  have e:tkn s i true a=false:=rfl
  rw[e,show(true==false)=false from rfl,br_false]
  rfl
 |false=>rw[show(false==false)=true from rfl,br_true,p_specTake nf s a i false h hs,cb_some]
theorem word_key{R:Type}{p:Prop}[Decidable p](hp:p)(a b c d:Bool)(J:Bool->Option R):gg p (br (a==true) (gg p (br (b==false) (gg p (br (c==true) (gg p (mark (J d))) (mark (J false)))) (mark (J true)))) (gg p (br (c==true) (gg p (mark (J d))) (mark (J false)))))=J ((a&&b)||(c&&d)):=by
 unfold gg
 rw[if_pos hp,if_pos hp,if_pos hp,if_pos hp]
 cases a<;>cases b<;>cases c<;>cases d<;>first|rfl|(rw[if_pos hp];rfl)
def wrd(s:Str)(i:Nat):Str:=(s.drop i).takeWhile wc
theorem wrd_le(s:Str)(i:Nat)(h:i<=s.length):i+(wrd s i).length<=s.length:=by
 have:=tw_len (s.drop i)
 rw[List.length_drop]at this
 unfold wrd
 omega
theorem wrd_sub(s:Str)(i:Nat)(h:i<=s.length):List.drop i (List.take (i+(wrd s i).length) s)=wrd s i:=by
 rw[List.drop_take,show i+(wrd s i).length-i=(wrd s i).length by omega]
 exact tw_take _
theorem p_specWord(nf:Nat)(s:Str)(i:Nat)(bad:Bool)(h:i<=s.length)(hs:s.length<=1048576)(hn:1048577<nf):m_Zao nf s (i:Int) bad=some (wrd s i,(s,((i+(wrd s i).length:Nat):Int),bad,())):=by
 have key:∀(w:Str) (y m:Nat),s.drop y=w->i<=y->y<=s.length->s.length-y<m->l6_Zao nf m (i:Int) s bad (y:Int)=some (List.drop i (List.take (y+(w.takeWhile wc).length) s),(s,((y+(w.takeWhile wc).length:Nat):Int),bad,())):=by
  intro w
  induction w with
  |nil=>
   intro y m hd hy hle hm
   obtain⟨m,rfl⟩:∃m',m=m'+1:=⟨m-1,by omega⟩
   have hy2:y=s.length:=by
    have:=congrArg List.length hd
    rw[List.length_drop]at this
    simp only[List.length_nil]at this
    omega
   have e0:(decide ((y:Int)<(s.length:Int))==true)=false:=by rw[decide_eq_false (by omega)];rfl
   rw[l6_Zao_eq,e0,br_false,mark_eq,j10_Zao_eq,br_false,mark_eq,j15_Zao_eq,gg_pos ⟨by omega,by omega,by omega⟩]
   simp
  |cons b w ih=>
   intro y m hd hy hle hm
   obtain⟨m,rfl⟩:∃m',m=m'+1:=⟨m-1,by omega⟩
   obtain⟨h1,h2,h3⟩:=drop_hd hd
   have e0:(decide ((y:Int)<(s.length:Int))==true)=true:=by rw[decide_eq_true (by omega)];rfl
   have hg:0<=(y:Int)∧(y:Int)<(s.length:Int):=by omega
   have hb:((List.getD s (Int.toNat (y:Int)) 0).toNat:Int)=(b.toNat:Int):=by
    rw[Int.toNat_natCast,List.getD_eq_getElem?_getD,h1];rfl
   have step:l6_Zao nf (m+1) (i:Int) s bad (y:Int)=j10_Zao nf m (i:Int) s (y:Int) bad (wc b):=by
    rw[l6_Zao_eq,e0,br_true,hb]
    exact word_key hg _ _ _ _ fun x=>j10_Zao nf m (i:Int) s (y:Int) bad x
   rw[step,j10_Zao_eq]
   cases hw:wc b with
   |true=>
    rw[br_true,mark_eq,w64_nat (n:=y) (by omega),ih (y+1) m h3 (by omega) (by omega) (by omega),List.takeWhile_cons,hw]
    simp only[if_true,List.length_cons]
    rw[show y+1+(List.takeWhile wc w).length=y+((List.takeWhile wc w).length+1) by omega]
   |false=>
    rw[br_false,mark_eq,j15_Zao_eq,gg_pos ⟨by omega,by omega,by omega⟩,List.takeWhile_cons,hw]
    simp
 rw[m_Zao_eq,mark_eq,key (s.drop i) i nf rfl (Nat.le_refl _) h (by omega)]
 have:=wrd_sub s i h
 unfold wrd at this⊢
 rw[this]
theorem p_join2(nf:Nat)(xs:List Str)(sep:Str)(hs:sep.length<=1)(h:szL List.length xs<=1000000)(hn:1000001<nf):m_ZM nf xs sep=some (Lib.join xs sep):=by
 have hl:xs.length<=szL List.length xs:=by unfold szL;omega
 rw[m_ZM_eq,mark_eq]
 have:=for_loop (fun m i s=>l8_ZM nf m xs sep i s) xs.length (fun i=>intsOf (Lib.join (xs.take i) sep)) (some (Lib.join xs sep)) (fun m i hi=> ?_) (fun m=> ?_) nf (by omega)
 ·simpa[Lib.join_nil,intsOf]using this
 ·have c0:(i:Int)<(xs.length:Int):=by omega
  have c1:0<=(i:Int)∧(i:Int)<(xs.length:Int):=by omega
  have hj:=join_len sep hs (xs.take i)
  have ht:=szL_take List.length xs i
  have hg:=szL_at List.length xs hi ([]:Str)
  have hil:=ints_len
  rw[l8_ZM_eq,br_pos c0,join_take sep xs hi ([]:Str)]
  by_cases h0:i=0
  ·subst h0
   rw[br_neg (by omega),mark_eq,j23_ZM_eq,gg_pos c1,gg_pos (by rw[hil];omega),mark_eq,w64_nat (n:=0) (by omega),if_pos rfl]
   simp[Lib.join_nil,intsOf]
  ·rw[br_pos (by omega),gg_pos (by rw[hil];omega),mark_eq,j23_ZM_eq,gg_pos c1,gg_pos (by rw[List.length_append,hil,hil];omega),mark_eq,w64_nat (n:=i) (by omega),if_neg h0,intsOf_append,intsOf_append]
 ·have c0:¬(xs.length:Int)<(xs.length:Int):=by omega
  rw[l8_ZM_eq,br_neg c0,List.take_length,bytes_ints]
theorem itm_len{t:Ty}(h:nForm t=true){i:Nat}(hi:i<t.args.length):(itm t.kind t.labels i (gt t.args (i:Int) Ty.zero)).length+3<=16*nSz (gt t.args (i:Int) Ty.zero):=by
 have h1:=nText_len _ (form_at h hi)
 unfold itm
 split
 ·rename_i h3
  have:=lab_len (form_lab h h3) i
  simp;omega
 ·omega
theorem parts_len{t:Ty}(h:nForm t=true):szL List.length (nTexts t.kind t.labels t.args 0)<=16*nSz t:=by
 have hc:∀u∈t.args,nForm u=true:=fun u hu=>by
  have h2:=h
  rw[nForm_eq]at h2
  simp only[Bool.and_eq_true]at h2
  have h3:=h2.1
  rw[nFormL_all]at h3
  exact List.all_eq_true.1 h3 u hu
 have:=nTexts_len t.kind t.labels (fun i h3=>lab_len (form_lab h h3) i) t.args 0 hc
 have:=nSz_eq t
 omega
theorem p_l4Text(nf:Nat)(hn:1000001<nf):∀(kf:Nat) (t:Ty),nSz t<kf->nForm t=true->nSz t<=1000->m_Zam nf kf t=some (nText t)
 |0,t,h,_,_=>absurd h (Nat.not_lt_zero _)
 |kf+1,t,h,hF,hb=>by
  have hns:=nSz_eq t
  have hla:t.args.length<=nSzL t.args:=by
   have:∀c:List Ty,c.length<=nSzL c:=by
    intro c
    induction c with
    |nil=>simp
    |cons x c ih=>have:=nSz_eq x;simp only[nSzL,List.length_cons];omega
   exact this _
  have hpl:=parts_len hF
  have b1:(t.kind==(1:Int))=decide (t.kind=1):=rfl
  have b2:(t.kind==(2:Int))=decide (t.kind=2):=rfl
  have b3:(t.kind==(3:Int))=decide (t.kind=3):=rfl
  have b4:(t.kind==(4:Int))=decide (t.kind=4):=rfl
  rw[m_Zam_eq,mark_eq]
  have:=for_loop (fun m i s=>l8_Zam nf (kf+1) m t i s) t.args.length (fun i=>nTexts t.kind t.labels (t.args.take i) 0) (some (nText t)) (fun m i hi=> ?_) (fun m=> ?_) nf (by omega)
  ·simpa[nTexts_nil]using this
  ·have c0:(i:Int)<(t.args.length:Int):=by omega
   have c1:0<=(i:Int)∧(i:Int)<(t.args.length:Int):=by omega
   have hsn:=nSz_at t.args hi
   have e:=p_l4Text nf hn kf (gt t.args (i:Int) Ty.zero) (by omega) (form_at hF hi) (by omega)
   have hil:=itm_len hF hi
   have hnl:=nText_len _ (form_at hF hi)
   have hg:(nTexts t.kind t.labels (t.args.take i) 0).length+([itm t.kind t.labels i (gt t.args (i:Int) Ty.zero)]:List Str).length<=33554432:=by
    rw[nTexts_length,List.length_take];simp;omega
   rw[l8_Zam_eq,br_pos c0,gg_pos c1,e,cb_some,b3,nTexts_take t.kind t.labels t.args hi]
   by_cases h3:t.kind=3
   ·have hl:=form_rec hF h3
    have hll:=lab_len (form_lab hF h3) i
    have ei:itm t.kind t.labels i (gt t.args (i:Int) Ty.zero)=gt t.labels (i:Int) ([]:Str)++[58]++nText (gt t.args (i:Int) Ty.zero):=by unfold itm;rw[if_pos h3]
    rw[ei]at hg⊢
    rw[decide_eq_true h3,br_true,gg_pos (by omega),gg_pos (by simp;omega),gg_pos (by simp;omega),mark_eq,j25_Zam_eq,gg_pos hg,mark_eq,w64_nat (n:=i) (by omega)]
   ·have ei:itm t.kind t.labels i (gt t.args (i:Int) Ty.zero)=nText (gt t.args (i:Int) Ty.zero):=by unfold itm;rw[if_neg h3]
    rw[ei]at hg⊢
    rw[decide_eq_false h3,br_false,mark_eq,j25_Zam_eq,gg_pos hg,mark_eq,w64_nat (n:=i) (by omega)]
  ·have c0:¬(t.args.length:Int)<(t.args.length:Int):=by omega
   rw[l8_Zam_eq,br_neg c0,mark_eq,List.take_length,j27_Zam_eq,b1,b2,b3,b4,nText_eq]
   have j1:=join_len [44] (by decide) (nTexts t.kind t.labels t.args 0)
   have j2:=join_len [62] (by decide) (nTexts t.kind t.labels t.args 0)
   by_cases k1:t.kind=1
   ·rw[br_pos k1,if_pos k1]
   rw[br_neg k1,if_neg k1]
   by_cases k2:t.kind=2
   ·rw[br_pos k2,if_pos k2]
   rw[br_neg k2,if_neg k2]
   by_cases k3:t.kind=3
   ·rw[br_pos k3,if_pos k3,p_join2 nf _ [44] (by decide) (by omega) hn,cb_some,gg_pos (by simp;omega),gg_pos (by simp;omega)]
   rw[br_neg k3,if_neg k3]
   by_cases k4:t.kind=4
   ·have hl:=form_bag hF k4
    have hl2:=nTexts_length t.kind t.labels t.args 0
    have hgl:=szL_at List.length (nTexts t.kind t.labels t.args 0) (i:=0) (by omega) ([]:Str)
    rw[show((0:Nat):Int)=0 from rfl]at hgl
    rw[br_pos k4,if_pos k4,gg_pos (by omega),gg_pos (by omega),gg_pos (by simp;omega),gg_pos (by simp;omega)]
   ·rw[br_neg k4,if_neg k4,p_join2 nf _ [62] (by decide) (by omega) hn,cb_some,gg_pos (by simp;omega),gg_pos (by simp;omega)]
def fmtT(t:Ty):Str:=if nVal t=true then nText t else []
theorem val_sz{t:Ty}(h:nVal t=true):nSz t<=24:=by simp only[nVal,Bool.and_eq_true,decide_eq_true_eq]at h;exact h.1
theorem val_dep{t:Ty}(h:nVal t=true):nDep t<=7:=by simp only[nVal,Bool.and_eq_true,decide_eq_true_eq]at h;exact h.2.1
theorem val_frm{t:Ty}(h:nVal t=true):nForm t=true:=by simp only[nVal,Bool.and_eq_true,decide_eq_true_eq]at h;exact h.2.2
theorem p_specFormat(nf:Nat)(hn:1000001<nf)(t:Ty)(h:8*zTy t+1<nf)(hb:zTy t<=16777216):m_ZJ nf t=some (fmtT t):=by
 rw[m_ZJ_eq,Ty.h_eq,p_specValid nf t h hb,cb_some]
 unfold fmtT
 cases hv:nVal t with
 |false=>rfl
 |true=>
  have hs:=val_sz hv
  rw[Bool.not_true,br_false,p_l4Text nf hn nf t (by omega) (val_frm hv) (by omega),cb_some]
  rfl
end Go.Q
