/- Types: what the program's side computes. -/
import Derived.Test.YteidofmblfglkaaD7p
import Derived.Test.YteidofmblfglkaaC3
import Derived.Test.YteidofmblfglkaaNTy
set_option linter.unusedVariables false
set_option linter.unusedSimpArgs false
set_option maxHeartbeats 1000000
namespace Go.Q
theorem p_isSmall(nf:Nat)(c:Int):m_Zn nf c=some (sml c):=by
 rw[m_Zn_eq];unfold sml
 cases decide ((97:Int)<=c)<;>rfl
theorem p_isDigit(nf:Nat)(c:Int):m_Zm nf c=some (dig c):=by
 rw[m_Zm_eq];unfold dig
 cases decide ((48:Int)<=c)<;>rfl
theorem p_implName(nf:Nat)(s:Str)(h:s.length+1<nf)(hb:s.length<=16777216):m_Zf nf s=some (nNm s):=by
 have hL:l14_Zf nf nf s (0:Int)=some (allF (fun i=>sml (chr s i)||dig (chr s i)) 0 s.length):=by
  have:=for_all (fun m i=>l14_Zf nf m s i) s.length (fun i=>sml (chr s i)||dig (chr s i)) (some true) (some false) 0 (fun m i hp hi=> ?_) (fun m i hi=> ?_) nf (by omega) (by omega)
  ·have e:((0:Nat):Int)=(0:Int):=rfl
   rw[e]at this
   rw[this,show s.length-0=s.length by omega]
   generalize allF (fun i:Nat=>sml (chr s i)||dig (chr s i)) 0 s.length=z
   cases z<;>rfl
  ·have c0:(i:Int)<(s.length:Int):=by omega
   have c1:0<=(i:Int)∧(i:Int)<(s.length:Int):=by omega
   have h27:∀b,j27_Zf nf m s (i:Int) b=br b (some false) (l14_Zf nf m s ((i+1:Nat):Int)):=fun b=>by rw[j27_Zf_eq,mark_eq,w64_nat (n:=i) (by omega)]
   rw[l14_Zf_eq,br_pos c0,gg_pos c1,p_isSmall,cb_some,gg_pos c1,p_isDigit,cb_some,h27,h27]
   generalize l14_Zf nf m s ((i+1:Nat):Int)=X
   have key:∀a b:Bool,br ((!a)==true) (mark (br (!b) (some false) X)) (mark (br false (some false) X))=if(a||b)=true then X else some false:=by
    intro a b
    cases a<;>cases b<;>rfl
   exact key _ _
  ·have c0:¬(i:Int)<(s.length:Int):=by omega
   rw[l14_Zf_eq,br_neg c0]
 rw[m_Zf_eq,nNm_eq]
 have h5:∀b,j5_Zf nf s b=some (!b&&allF (fun i=>sml (chr s i)||dig (chr s i)) 0 s.length):=fun b=>by
  rw[j5_Zf_eq,mark_eq,hL];cases b<;>rfl
 simp only[h5,mark_eq]
 by_cases h1:1<=s.length
 ·have c1:0<=(0:Int)∧(0:Int)<(List.length s:Int):=by omega
  rw[gg_pos c1,p_isSmall,cb_some,decide_eq_false (show¬(List.length s:Int)<1 by omega),decide_eq_true h1]
  have e4:decide ((4:Int)<(List.length s:Int))= !decide (s.length<=4):=dec_not (by omega)
  rw[e4]
  have key:∀x4 a i f z:Bool,br (false==false) (br ((!x4)==false) (br ((!a)==false) (br (i==false) (some (!f&&z)) (some (!true&&z))) (some (!true&&z))) (some (!true&&z))) (some (!true&&z))=some (true&&x4&&a&& !i&& !f&&z):=by
   intro x4 a i f z
   cases x4<;>cases a<;>cases i<;>cases f<;>cases z<;>rfl
  exact key _ _ _ _ _
 ·rw[decide_eq_true (show(List.length s:Int)<1 by omega),decide_eq_false h1]
  rfl
theorem p_implAsc(nf:Nat)(xs:List Str)(h:xs.length+1<nf)(hb:xs.length<=16777216):m_Zc nf xs=some (nAsc xs):=by
 rw[m_Zc_eq,mark_eq]
 have:=for_all (fun m i=>l6_Zc nf m xs i) xs.length (fun i=>Op.bytesLess (gt xs ((i:Int)-1) ([]:Str)) (gt xs (i:Int) ([]:Str))) (some true) (some false) 1 (fun m i hp hi=> ?_) (fun m i hi=> ?_) nf (by omega) (by omega)
 ·have e:((1:Nat):Int)=(1:Int):=rfl
  rw[e]at this
  rw[this]
  unfold nAsc
  cases allF (fun i:Nat=>Op.bytesLess (gt xs ((i:Int)-1) ([]:Str)) (gt xs (i:Int) ([]:Str))) 1 (xs.length-1)<;>rfl
 ·have c0:(i:Int)<(xs.length:Int):=by omega
  have c1:0<=(i:Int)∧(i:Int)<(xs.length:Int):=by omega
  have ew:w64 ((i:Int)-1)=(i:Int)-1:=w64_id (by omega) (by omega)
  have c2:0<=(i:Int)-1∧(i:Int)-1<(xs.length:Int):=by omega
  simp only[l6_Zc_eq,br_pos c0,ew,gg_pos c1,gg_pos c2,mark_eq,w64_nat (n:=i) (by omega)]
  cases Op.bytesLess (gt xs ((i:Int)-1) ([]:Str)) (gt xs (i:Int) ([]:Str))<;>rfl
 ·have c0:¬(i:Int)<(xs.length:Int):=by omega
  simp only[l6_Zc_eq,br_neg c0]
theorem p_labelsOk(nf:Nat)(xs:List Str)(h:8*szL List.length xs+1<nf)(hb:szL List.length xs<=16777216):m_Zo nf xs=some (labOk xs):=by
 have hl:xs.length<=szL List.length xs:=by unfold szL;omega
 have hI:m_Zb nf xs=some (findI (fun i=> !nNm (gt xs (i:Int) ([]:Str))) 0 xs.length):=by
  rw[m_Zb_eq,mark_eq]
  have:=for_find (fun m i=>l6_Zb nf m xs i) xs.length (fun i=> !nNm (gt xs (i:Int) ([]:Str))) 0 (fun m i hp hi=> ?_) (fun m i hi=> ?_) nf (by omega) (by omega)
  ·exact this
  ·have c0:(i:Int)<(xs.length:Int):=by omega
   have c1:0<=(i:Int)∧(i:Int)<(xs.length:Int):=by omega
   have hs:=szL_at List.length xs hi ([]:Str)
   have e:=p_implName nf (gt xs (i:Int) ([]:Str)) (by omega) (by omega)
   simp only[l6_Zb_eq,br_pos c0,gg_pos c1,m_Zp_eq,e,cb_some,mark_eq,w64_nat (n:=i) (by omega)]
   cases nNm (gt xs (i:Int) ([]:Str))<;>rfl
  ·have c0:¬(i:Int)<(xs.length:Int):=by omega
   simp only[l6_Zb_eq,br_neg c0]
 have hC:m_Za nf xs=some (xs.any fun s=> !nNm s):=by
  rw[m_Za_eq,hI,cb_some,findI_all]
  have e:(fun j:Nat=> !(!nNm (gt xs (j:Int) ([]:Str))))=fun j:Nat=>nNm (gt xs (j:Int) ([]:Str)):=by funext j;simp
  rw[e,allF_all nNm ([]:Str),List.all_eq_not_any_not]
  simp
 have h5:∀b,j5_Zo nf xs b=some (!b&& !xs.any fun s=> !nNm s):=fun b=>by
  rw[j5_Zo_eq,hC,cb_some];cases b<;>rfl
 rw[m_Zo_eq,p_implAsc nf xs (by omega) (by omega),cb_some]
 simp only[h5,mark_eq]
 unfold labOk
 have e1:decide ((List.length xs:Int)<(1:Int))=decide (xs.length<1):=decide_eq_decide.2 (by omega)
 have e2:decide ((4:Int)<(List.length xs:Int))=decide (4<xs.length):=decide_eq_decide.2 (by omega)
 rw[e1,e2]
 have key:∀a b c d:Bool,br (a==false) (br (b==false) (some (!(!c)&& !d)) (some (!true&& !d))) (some (!true&& !d))=some (!(a||b|| !c)&& !d):=by
  intro a b c d
  cases a<;>cases b<;>cases c<;>cases d<;>rfl
 exact key _ _ _ _
theorem p_implSize(nf:Nat):∀(kf:Nat) (t:Ty),8*zTy t+1<kf->8*zTy t+1<nf->zTy t<=16777216->m_Zi nf kf t=some (nSz t:Int)
 |0,t,h,_,_=>absurd h (Nat.not_lt_zero _)
 |kf+1,t,h,h',hb=>by
  have hz:=zTy_f t
  have l2:t.args.length<=szL zTy t.args:=by unfold szL;omega
  have hn:=nSz_eq t
  have hsz:=nSz_le t
  rw[m_Zi_eq,mark_eq]
  refine for_loop (fun m i (s:Int)=>l8_Zi nf (kf+1) m t s i) t.args.length (fun i=>((nSzL (t.args.take i)+1:Nat):Int)) _ (fun m i hi=> ?_) (fun m=> ?_) nf (by omega)
  ·have c0:(i:Int)<(t.args.length:Int):=by omega
   have c1:0<=(i:Int)∧(i:Int)<(t.args.length:Int):=by omega
   have hs:=szL_at zTy t.args hi Ty.zero
   have e:=p_implSize nf kf (gt t.args (i:Int) Ty.zero) (by omega) (by omega) (by omega)
   have hle:=nSzL_le t.args (i+1)
   have htk:=nSzL_take t.args hi
   have ew:w64 (((nSzL (t.args.take i)+1:Nat):Int)+(nSz (gt t.args (i:Int) Ty.zero):Int))=((nSzL (t.args.take (i+1))+1:Nat):Int):=by
    rw[w64_id (by omega) (by omega)];omega
   simp only[l8_Zi_eq,br_pos c0,gg_pos c1,Ty.h_eq,e,cb_some,mark_eq,w64_nat (n:=i) (by omega),ew]
  ·have c0:¬(t.args.length:Int)<(t.args.length:Int):=by omega
   simp only[l8_Zi_eq,br_neg c0,List.take_length,<-hn]
theorem p_many(k:Int)(n:Nat):mgt (kk:=kI) (vk:=kI) (mset (kk:=kI) (vk:=kI) (mset (kk:=kI) (vk:=kI) (mset (kk:=kI) (vk:=kI) [] (4:Int) (1:Int)) (5:Int) (2:Int)) (3:Int) (n:Int)) k=many k n:=by
 have e:mset (kk:=kI) (vk:=kI) (mset (kk:=kI) (vk:=kI) (mset (kk:=kI) (vk:=kI) [] (4:Int) (1:Int)) (5:Int) (2:Int)) (3:Int) (n:Int)=[((4:Int),(1:Int)),((5:Int),(2:Int)),((3:Int),(n:Int))]:=rfl
 rw[e]
 have b:∀x:Int,keq kI k x=decide (k=x):=fun _=>rfl
 unfold many
 simp only[mgt,b]
 by_cases h4:k=4
 ·simp[h4]
 ·by_cases h5:k=5
  ·simp[h5]
  ·by_cases h3:k=3
   ·simp[h3]
   ·simp[h3,h4,h5];rfl
theorem p_typeForm(nf:Nat):∀(kf:Nat) (t:Ty) (plain:Bool) (deep:Nat),8*zTy t+1<kf->8*zTy t+1<nf->zTy t<=16777216->deep<=8->m_Zy nf kf t plain (deep:Int)=some (tForm plain deep t)
 |0,t,_,_,h,_,_,_=>absurd h (Nat.not_lt_zero _)
 |kf+1,t,plain,deep,h,h',hb,hd=>by
  have hz:=zTy_f t
  have l2:t.args.length<=szL zTy t.args:=by unfold szL;omega
  have e1:=p_labelsOk nf t.labels (by omega) (by omega)
  have bk:∀x:Int,(t.kind==x)=decide (t.kind=x):=fun _=>rfl
  have bw:∀x:Int,((List.length t.args:Int)==x)=decide ((t.args.length:Int)=x):=fun _=>rfl
  rw[m_Zy_eq,mark_eq,p_many]
  by_cases hd7:7<deep
  ·rw[tForm_un,j4_Zy_eq,decide_eq_true hd7,decide_eq_true (show(7:Int)<(deep:Int) by omega)]
   have h8t:j8_Zy nf (kf+1) t plain (deep:Int) true=some false:=by rw[j8_Zy_eq,br_true]
   rw[mark_eq,mark_eq,h8t]
   have key:∀a b c d e:Bool,∀X:Option Bool,br (a==false) (br (b==false) (br (true==false) X (some false)) (some false)) (some false)=some (!(a||b||true||c)&&d&&e):=by
    intro a b c d e X
    cases a<;>cases b<;>rfl
   exact key _ _ _ _ _ _
  ·have hR:∀b,j29_Zy nf (kf+1) t (deep:Int) b=some (tFormL b (deep+1) t.args):=fun b=>by
    rw[j29_Zy_eq,mark_eq]
    have:=for_all (fun m i=>l33_Zy nf (kf+1) m t (deep:Int) b i) t.args.length (fun i=>tForm b (deep+1) (gt t.args (i:Int) Ty.zero)) (some true) (some false) 0 (fun m i hp hi=> ?_) (fun m i hi=> ?_) nf (by omega) (by omega)
    ·have e:((0:Nat):Int)=(0:Int):=rfl
     rw[e]at this
     rw[this,show t.args.length-0=t.args.length by omega,allF_all (tForm b (deep+1)) Ty.zero,tFormL_all]
     cases t.args.all (tForm b (deep+1))<;>rfl
    ·have c0:(i:Int)<(t.args.length:Int):=by omega
     have c1:0<=(i:Int)∧(i:Int)<(t.args.length:Int):=by omega
     have hs:=szL_at zTy t.args hi Ty.zero
     have e:=p_typeForm nf kf (gt t.args (i:Int) Ty.zero) b (deep+1) (by omega) (by omega) (by omega) (by omega)
     rw[l33_Zy_eq,br_pos c0,gg_pos c1,w64_nat (n:=deep) (by omega),e,cb_some,mark_eq,w64_nat (n:=i) (by omega)]
     cases tForm b (deep+1) (gt t.args (i:Int) Ty.zero)<;>rfl
    ·have c0:¬(i:Int)<(t.args.length:Int):=by omega
     rw[l33_Zy_eq,br_neg c0]
   have h22:∀b,j22_Zy nf (kf+1) t plain (deep:Int) b=some (!b&&tFormL (plain||decide (t.kind=3)||decide (t.kind=4)) (deep+1) t.args):=fun b=>by
    rw[j22_Zy_eq,bk,bk,mark_eq,mark_eq,hR,hR]
    have key:∀b pl k3 k4:Bool,∀R:Bool->Bool,br b (some false) (br (pl==false) (br (k3==false) (some (R k4)) (some (R true))) (some (R true)))=some (!b&&R (pl||k3||k4)):=by
     intro b pl k3 k4 R
     cases b<;>cases pl<;>cases k3<;>cases k4<;>rfl
    exact key b plain _ _ fun b=>tFormL b (deep+1) t.args
   generalize hzz:tFormL (plain||decide (t.kind=3)||decide (t.kind=4)) (deep+1) t.args=z at h22
   have e0:decide ((0:Int)<(List.length t.labels:Int))=decide (0<t.labels.length):=decide_eq_decide.2 (by omega)
   have h19:∀b,j19_Zy nf (kf+1) t plain (deep:Int) b=some (!(b||(!decide (t.kind=3)&&decide (0<t.labels.length)))&&z):=fun b=>by
    rw[j19_Zy_eq,bk,e0,mark_eq,mark_eq,mark_eq,h22,h22,h22]
    have key:∀b k3 l z:Bool,br b (some (!b&&z)) (br ((!k3)==true) (some (!l&&z)) (some (!false&&z)))=some (!(b||(!k3&&l))&&z):=by
     intro b k3 l z
     cases b<;>cases k3<;>cases l<;>cases z<;>rfl
    exact key _ _ _ _
   have h15:∀b,j15_Zy nf (kf+1) t plain (deep:Int) b=some (!(b||(decide (t.kind=3)&& !labOk t.labels)||(!decide (t.kind=3)&&decide (0<t.labels.length)))&&z):=fun b=>by
    rw[j15_Zy_eq,bk,e1,cb_some,mark_eq,mark_eq,mark_eq,h22,h19,h19]
    have key:∀b k3 l lo z:Bool,br b (some (!b&&z)) (br (k3==true) (some (!(!lo||(!k3&&l))&&z)) (some (!(false||(!k3&&l))&&z)))=some (!(b||(k3&& !lo)||(!k3&&l))&&z):=by
     intro b k3 l lo z
     cases b<;>cases k3<;>cases l<;>cases lo<;>cases z<;>rfl
    exact key _ _ _ _ _
   have h8:∀b,j8_Zy nf (kf+1) t plain (deep:Int) b=some (!b&&(!((decide (t.kind=5)&&plain)||(decide (t.kind=3)&& !labOk t.labels)||(!decide (t.kind=3)&&decide (0<t.labels.length)))&&z)):=fun b=>by
    rw[j8_Zy_eq,bk,mark_eq,mark_eq,h15,h15]
    have key:∀b k5 pl u v z:Bool,br b (some false) (br (k5==true) (some (!(pl||u||v)&&z)) (some (!(false||u||v)&&z)))=some (!b&&(!((k5&&pl)||u||v)&&z)):=by
     intro b k5 pl u v z
     cases b<;>cases k5<;>cases pl<;>cases u<;>cases v<;>rfl
    exact key _ _ _ _ _ _
   rw[tForm_un,hzz,j4_Zy_eq,decide_eq_false hd7,decide_eq_false (show¬(7:Int)<(deep:Int) by omega),bw,mark_eq,mark_eq,h8,h8]
   have key:∀A B D E:Bool,br (A==false) (br (B==false) (br (false==false) (some (!(!D)&&(!E&&z))) (some (!true&&(!E&&z)))) (some (!true&&(!E&&z)))) (some (!true&&(!E&&z)))=some (!(A||B||false|| !D)&& !E&&z):=by
    intro A B D E
    cases A<;>cases B<;>cases D<;>cases E<;>cases z<;>rfl
   exact key _ _ _ _
theorem p_implValid(nf:Nat)(t:Ty)(h:8*zTy t+1<nf)(hb:zTy t<=16777216):m_Zg nf t=some (nVal t):=by
 have e1:=p_typeForm nf nf t false 1 h h hb (by omega)
 have o1:((1:Nat):Int)=1:=rfl
 rw[o1]at e1
 rw[m_Zg_eq,Ty.h_eq,e1,cb_some,p_implSize nf nf t h h hb,cb_some,<-tForm_val]
 have e2:decide ((nSz t:Int)<=24)=decide (nSz t<=24):=decide_eq_decide.2 (by omega)
 rw[e2]
 cases tForm false 1 t<;>rfl
end Go.Q
