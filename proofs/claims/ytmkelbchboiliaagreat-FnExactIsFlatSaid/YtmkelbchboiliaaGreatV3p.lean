/- Terms, schemas and contexts: what both sides find valid. -/
import Derived.Test.YtmkelbchboiliaaGreatV2p
import Derived.Test.YtmkelbchboiliaaGreatV9p
import Derived.Test.YtmkelbchboiliaaGreatNTn
set_option linter.unusedVariables false
set_option linter.unusedSimpArgs false
set_option maxHeartbeats 2000000
namespace Go.Q
theorem br_tf{R:Type}(x y:Option R):br (true==false) x y=y:=rfl
theorem br_ff2{R:Type}(x y:Option R):br (false==false) x y=x:=rfl
theorem beqS(a b:Str):(a==b)=decide (a=b):=by by_cases h:a=b<;>simp[h]
theorem arity_b(op:Str):arity op=if(decide (op=[43])||decide (op=[45])||decide (op=[61])||decide (op=[60])||decide (op=[38])||decide (op=[124]))=true then 2 else if decide (op=[33])=true then 1 else 0:=by
 unfold arity
 simp[or_assoc]
theorem ar_key(a b c d e f g:Bool)(J:Bool->Option Int)(hJ:∀x,J x=br x (some (2:Int)) (br g (some (1:Int)) (some (0:Int)))):
  br a (J a) (br b (J b) (br c (J c) (br d (J d) (br e (J e) (J f)))))=some (if(a||b||c||d||e||f)=true then(2:Int)else if g=true then 1 else 0):=by
 simp only[hJ]
 cases a<;>cases b<;>cases c<;>cases d<;>cases e<;>cases f<;>cases g<;>rfl
theorem p_implAr(nf:Nat)(op:Str):m_Zu nf op=some (arity op):=by
 rw[m_Zu_eq,arity_b]
 simp only[mark_eq,beqS]
 exact ar_key _ _ _ _ _ _ _ (fun x=>j28_Zu nf op x) fun x=>by simp only[j28_Zu_eq,beqS]
theorem p_specAr(nf:Nat)(op:Str):m_Zbk nf op=some (arity op):=by
 rw[m_Zbk_eq,arity_b]
 simp only[mark_eq,beqS]
 exact ar_key _ _ _ _ _ _ _ (fun x=>j28_Zbk nf op x) fun x=>by simp only[j28_Zbk_eq,beqS]
theorem arity_nn(op:Str):0<=arity op∧arity op<=2:=by
 unfold arity
 split
 ·omega
 ·split<;>omega
theorem p_shape(nf:Nat)(e:Tm)(h:8*szL List.length e.labels+1<nf)(hb:szL List.length e.labels<=16777216):m_ZR nf e=some (shp e):=by
 have e1:=p_labelsOk nf e.labels h hb
 rw[labOk_eq]at e1
 have bk:∀x:Int,(e.kind==x)=decide (e.kind=x):=fun _=>rfl
 simp only[m_ZR_eq,j12_ZR_eq,j22_ZR_eq,j60_ZR_eq,j70_ZR_eq,mark_eq,p_implAr,e1,cb_some,bk]
 by_cases h1:e.kind=1
 ·simp[shp,h1,br]
 by_cases h2:e.kind=12
 ·simp[shp,h2,br]
 by_cases h3:e.kind=2
 ·simp[shp,h3,br]
 by_cases h4:e.kind=3
 ·simp[shp,h4,br]
 by_cases h5:e.kind=4
 ·simp[shp,h5,br]
 by_cases h6:e.kind=5
 ·simp[shp,h6,br]
 by_cases h7:e.kind=6
 ·simp[shp,h7,br]
 by_cases h8:e.kind=7
 ·simp[shp,h8,br]
 by_cases h9:e.kind=8
 ·simp[shp,h9,br]
 by_cases h10:e.kind=15
 ·simp[shp,h10,br]
 by_cases h11:e.kind=16
 ·simp[shp,h11,br]
 by_cases h12:e.kind=9
 ·simp[shp,h12,br]
 by_cases h13:e.kind=14
 ·simp[shp,h13,br]
 by_cases h14:e.kind=10
 ·simp[shp,h14,br]
 by_cases h15:e.kind=11
 ·simp[shp,h15,br]
 by_cases h16:e.kind=13
 ·simp[shp,h16,br]
 simp[shp,h1,h2,h3,h4,h5,h6,h7,h8,h9,h10,h11,h12,h13,h14,h15,h16,br]
theorem p_isZero(nf:Nat)(t:Ty):m_ZK nf t=some (tyNo t):=by
 rw[m_ZK_eq];unfold tyNo
 cases(t.kind==(0:Int))<;>cases((t.labels.length:Int)==(0:Int))<;>rfl
theorem p_node(nf:Nat)(e:Tm)(h:8*zTm e+1<nf)(hb:zTm e<=16777216):m_ZO nf e=some (nodeOk e):=by
 have hz:=zTm_f e
 have e1:=p_shape nf e (by omega) (by omega)
 have e2:=p_implName nf e.name (by omega) (by omega)
 have e3:=p_implValid nf e.type (by omega) (by omega)
 rw[m_ZO_eq,e1,cb_some]
 unfold nodeOk
 generalize shp e=r
 have h34:∀x,j34_ZO nf e r x=some (!x&&(if r.2.2.1=true then nVal e.type else tyNo e.type)):=fun x=>by
  rw[j34_ZO_eq,e3,cb_some,p_isZero,cb_some]
  cases x<;>cases r.2.2.1<;>rfl
 generalize (if r.2.2.1=true then nVal e.type else tyNo e.type)=T at h34⊢
 have h31:∀x,j31_ZO nf e r x=some (!x&&((r.2.1||(e.name==([]:Str)))&&T)):=fun x=>by
  rw[j31_ZO_eq]
  simp only[h34,mark_eq]
  generalize (e.name==([]:Str))=em
  cases x<;>cases r.2.1<;>cases em<;>cases T<;>rfl
 have h24:∀x,j24_ZO nf e r x=some (!x&&((if r.2.1=true then((e.kind==4)||nNm e.name)else(e.name==([]:Str)))&&T)):=fun x=>by
  rw[j24_ZO_eq,e2,cb_some]
  simp only[h31,mark_eq]
  generalize (e.name==([]:Str))=em
  generalize (e.kind==(4:Int))=k4
  cases x<;>cases r.2.1<;>cases em<;>cases T<;>cases k4<;>cases nNm e.name<;>rfl
 generalize ((if r.2.1=true then((e.kind==4)||nNm e.name)else(e.name==([]:Str)))&&T)=R at h24⊢
 have h21:∀x,j21_ZO nf e r x=some (!x&&(((e.kind==2)||((e.kind==3)||(e.n==0)))&&R)):=fun x=>by
  rw[j21_ZO_eq]
  simp only[h24,mark_eq]
  generalize (e.kind==(2:Int))=k2
  generalize (e.kind==(3:Int))=k3
  generalize (e.n==(0:Int))=n0
  cases x<;>cases k2<;>cases k3<;>cases n0<;>cases R<;>rfl
 have h17:∀x,j17_ZO nf e r x=some (!x&&((!(e.kind==3)||((e.n==0)||(e.n==1)))&&(((e.kind==2)||((e.kind==3)||(e.n==0)))&&R))):=fun x=>by
  rw[j17_ZO_eq]
  simp only[h21,mark_eq]
  generalize (e.kind==(2:Int))=k2
  generalize (e.kind==(3:Int))=k3
  generalize (e.n==(0:Int))=n0
  generalize (e.n==(1:Int))=n1
  cases x<;>cases k2<;>cases k3<;>cases n0<;>cases n1<;>cases R<;>rfl
 have h7:∀x,j7_ZO nf e r x=some (!x&&(numOk e&&R)):=fun x=>by
  rw[j7_ZO_eq]
  simp only[h17,mark_eq]
  unfold numOk
  by_cases k2:e.kind=2
  ·have d1:decide (e.n<0)= !decide (0<=e.n):=dec_not (by omega)
   have d2:decide (999<e.n)= !decide (e.n<=999):=dec_not (by omega)
   rw[if_pos k2,k2,d1,d2]
   cases x<;>cases decide (0<=e.n)<;>cases decide (e.n<=999)<;>cases R<;>rfl
  ·have b2:(e.kind==(2:Int))=false:=by simpa using k2
   rw[if_neg k2,b2]
   by_cases k3:e.kind=3
   ·rw[if_pos k3,k3]
    generalize (e.n==(0:Int))=n0
    generalize (e.n==(1:Int))=n1
    cases x<;>cases n0<;>cases n1<;>cases R<;>rfl
   ·have b3:(e.kind==(3:Int))=false:=by simpa using k3
    rw[if_neg k3,b3]
    generalize (e.n==(0:Int))=n0
    cases x<;>cases n0<;>cases R<;>rfl
 simp only[h7,mark_eq]
 generalize (numOk e&&R)=X
 generalize ((List.length e.args:Int)==r.1)=A
 generalize (e.kind==(5:Int))=k5
 generalize decide ((0:Int)<(List.length e.labels:Int))=L
 cases r.2.2.2<;>cases A<;>cases k5<;>cases L<;>cases X<;>rfl
theorem p_named(nf:Nat)(k:Int):m_ZbS nf k=some (decide (k=1)||(decide (k=6)||(decide (k=10)||(decide (k=12)||decide (k=13))))):=by
 rw[m_ZbS_eq]
 have bk:∀x:Int,(k==x)=decide (k=x):=fun _=>rfl
 simp only[bk]
 cases decide (k=1)<;>cases decide (k=6)<;>cases decide (k=10)<;>cases decide (k=12)<;>cases decide (k=13)<;>rfl
def fldB(e:Tm):Bool:=
 let nd:=decide (e.kind=1)||(decide (e.kind=6)||(decide (e.kind=10)||(decide (e.kind=12)||decide (e.kind=13))))
 let ty:=decide (e.kind=7)||decide (e.kind=13)
 let most:Int:=if e.kind=2 then 999 else if e.kind=3 then 1 else 0
 (if e.kind=4 then !(arity e.name==0)else(nd==nNm e.name)&&(nd||(e.name==([]:Str))))&&
  (((ty==nVal e.type)&&(ty||tyNo e.type))&&((if e.kind=5 then nLab e.labels else !decide (0<(e.labels.length:Int)))&&(decide (0<=e.n)&&decide (e.n<=most))))
theorem p_fields(nf:Nat)(e:Tm)(h:8*zTm e+1<nf)(hb:zTm e<=16777216):m_ZbQ nf e=some (fldB e):=by
 have hz:=zTm_f e
 have e1:=p_l3Labels nf e.labels (by omega) (by omega)
 have e2:=p_specName nf e.name (by omega) (by omega)
 have e3:=p_specValid nf e.type (by omega) (by omega)
 have bk:∀x:Int,(e.kind==x)=decide (e.kind=x):=fun _=>rfl
 unfold fldB
 extract_lets nd ty most
 have h33:∀x,j33_ZbQ nf e x=some (!x&&(decide (0<=e.n)&&decide (e.n<=most))):=fun x=>by
  rw[j33_ZbQ_eq]
  simp only[mark_eq,j53_ZbQ_eq,p_l1In,cb_some,bk,most]
  by_cases k2:e.kind=2
  ·simp only[k2,decide_true,if_true,br_true];cases x<;>rfl
  ·by_cases k3:e.kind=3
   ·have:¬(3:Int)=2:=by decide
    simp only[k3,this,decide_true,decide_false,if_true,if_false,br_true,br_false];cases x<;>rfl
   ·simp only[k2,k3,decide_false,if_false,br_false];cases x<;>rfl
 generalize (decide (0<=e.n)&&decide (e.n<=most))=Nn at h33⊢
 have h25:∀x,j25_ZbQ nf e x=some (!x&&((if e.kind=5 then nLab e.labels else !decide (0<(e.labels.length:Int)))&&Nn)):=fun x=>by
  rw[j25_ZbQ_eq,e1,cb_some]
  simp only[h33,mark_eq,bk]
  generalize decide ((0:Int)<(List.length e.labels:Int))=L
  by_cases k5:e.kind=5
  ·rw[decide_eq_true k5,if_pos k5]
   cases x<;>cases nLab e.labels<;>cases L<;>cases Nn<;>rfl
  ·rw[decide_eq_false k5,if_neg k5]
   cases x<;>cases nLab e.labels<;>cases L<;>cases Nn<;>rfl
 generalize ((if e.kind=5 then nLab e.labels else !decide (0<(e.labels.length:Int)))&&Nn)=R at h25⊢
 have d1:decide ((0:Int)<(e.type.labels.length:Int))= !((e.type.labels.length:Int)==0):=dec_not (q:=(e.type.labels.length:Int)=0) (by omega)
 have d2:decide ((0:Int)<(e.type.args.length:Int))= !((e.type.args.length:Int)==0):=dec_not (q:=(e.type.args.length:Int)=0) (by omega)
 have h22:∀x,j22_ZbQ nf e x=some (((x==nVal e.type)&&(x||tyNo e.type))&&R):=fun x=>by
  rw[j22_ZbQ_eq,Ty.h_eq,e3,cb_some]
  simp only[h25,mark_eq,d1,d2]
  unfold tyNo
  generalize (e.type.kind==(0:Int))=a
  generalize ((e.type.labels.length:Int)==0)=b
  generalize ((e.type.args.length:Int)==0)=c
  cases x<;>cases nVal e.type<;>cases a<;>cases b<;>cases c<;>cases R<;>rfl
 have h20:j20_ZbQ nf e=some (((ty==nVal e.type)&&(ty||tyNo e.type))&&R):=by
  rw[j20_ZbQ_eq]
  simp only[h22,mark_eq,bk,ty]
  cases decide (e.kind=7)<;>cases decide (e.kind=13)<;>rfl
 generalize (((ty==nVal e.type)&&(ty||tyNo e.type))&&R)=X at h20⊢
 have h15:∀x,j15_ZbQ nf e x=some (!x&&X):=fun x=>by
  rw[j15_ZbQ_eq]
  simp only[h20,mark_eq]
  cases x<;>rfl
 rw[m_ZbQ_eq]
 simp only[h20,h15,mark_eq,p_specAr,p_named,e2,cb_some,bk]
 by_cases k4:e.kind=4
 ·rw[decide_eq_true k4,br_true,if_pos k4]
  generalize (arity e.name==(0:Int))=z
  cases z<;>rfl
 ·rw[decide_eq_false k4,br_false,if_neg k4]
  change br ((!(nd==nNm e.name))==false) (br ((!nd)==true) (some (!(!(e.name==([]:Str)))&&X)) (some (!false&&X))) (some (!true&&X))=_
  generalize (e.name==([]:Str))=em
  cases nd<;>cases nNm e.name<;>cases em<;>cases X<;>rfl
def arB(e:Tm):Int:=if e.kind=1∨e.kind=2∨e.kind=3∨e.kind=7∨e.kind=12 then 0 else if e.kind=4 then arity e.name else if e.kind=5 then(e.labels.length:Int)
 else if e.kind=6∨e.kind=8∨e.kind=13∨e.kind=15∨e.kind=16 then 1 else if e.kind=9∨e.kind=10∨e.kind=14 then 2 else if e.kind=11 then 3 else-1
theorem p_arity(nf:Nat)(e:Tm):m_ZbP nf e=some (arB e):=by
 have bk:∀x:Int,(e.kind==x)=decide (e.kind=x):=fun _=>rfl
 simp only[m_ZbP_eq,j24_ZbP_eq,j58_ZbP_eq,j72_ZbP_eq,mark_eq,p_specAr,cb_some,bk]
 by_cases h1:e.kind=1
 ·simp[arB,h1,br]
 by_cases h2:e.kind=12
 ·simp[arB,h2,br]
 by_cases h3:e.kind=2
 ·simp[arB,h3,br]
 by_cases h4:e.kind=3
 ·simp[arB,h4,br]
 by_cases h5:e.kind=4
 ·simp[arB,h5,br]
 by_cases h6:e.kind=5
 ·simp[arB,h6,br]
 by_cases h7:e.kind=6
 ·simp[arB,h7,br]
 by_cases h8:e.kind=7
 ·simp[arB,h8,br]
 by_cases h9:e.kind=8
 ·simp[arB,h9,br]
 by_cases h10:e.kind=15
 ·simp[arB,h10,br]
 by_cases h11:e.kind=16
 ·simp[arB,h11,br]
 by_cases h12:e.kind=9
 ·simp[arB,h12,br]
 by_cases h13:e.kind=14
 ·simp[arB,h13,br]
 by_cases h14:e.kind=10
 ·simp[arB,h14,br]
 by_cases h15:e.kind=11
 ·simp[arB,h15,br]
 by_cases h16:e.kind=13
 ·simp[arB,h16,br]
 simp[arB,h1,h2,h3,h4,h5,h6,h7,h8,h9,h10,h11,h12,h13,h14,h15,h16,br]
theorem node_same(e:Tm):(fldB e&&((e.args.length:Int)==arB e))=nodeOk e:=by
 have ht:nVal e.type=true->tyNo e.type=false:=fun h=>by
  cases hn:tyNo e.type with
  |false=>rfl
  |true=>rw[tyNo_val hn]at h;cases h
 have hm:(e.name==([]:Str))=true->nNm e.name=false:=fun h=>by
  have:e.name=[]:=by simpa using h
  rw[this];exact nNm_nil
 have ha:=arity_nn e.name
 have hn0:(decide (0<=e.n)&&decide (e.n<=0))=(e.n==0):=by
  by_cases h:e.n=0
  ·simp[h]
  ·have:¬(0<=e.n∧e.n<=0):=by omega
   have h2:(e.n==(0:Int))=false:=by simpa using h
   rw[h2,<-Bool.decide_and,decide_eq_false this]
 have hn1:(decide (0<=e.n)&&decide (e.n<=1))=((e.n==0)||(e.n==1)):=by
  by_cases h:e.n=0
  ·simp[h]
  ·by_cases h1:e.n=1
   ·simp[h1]
   ·have:¬(0<=e.n∧e.n<=1):=by omega
    have h2:(e.n==(0:Int))=false:=by simpa using h
    have h3:(e.n==(1:Int))=false:=by simpa using h1
    rw[h2,h3,<-Bool.decide_and,decide_eq_false this];rfl
 have hz:(!(arity e.name==0))=decide (0<arity e.name):=by
  by_cases h:arity e.name=0
  ·simp[h]
  ·have h1:0<arity e.name:=by omega
   have h2:(arity e.name==(0:Int))=false:=by simpa using h
   rw[h2,decide_eq_true h1];rfl
 have fin:∀(nd ty:Bool) (A num:Bool),((((nd==nNm e.name)&&(nd||(e.name==([]:Str))))&&(((ty==nVal e.type)&&(ty||tyNo e.type))&&((!decide (0<(e.labels.length:Int)))&&num)))&&A)=
   (A&&((!decide (0<(e.labels.length:Int)))&&(num&&((if nd=true then nNm e.name else(e.name==([]:Str)))&&(if ty=true then nVal e.type else tyNo e.type))))):=by
  intro nd ty A num
  generalize (e.name==([]:Str))=em at hm⊢
  generalize nVal e.type=v at ht⊢
  generalize tyNo e.type=no at ht⊢
  generalize nNm e.name=nm at hm⊢
  generalize decide (0<(e.labels.length:Int))=L
  cases nd<;>cases ty<;>cases v<;>cases no<;>cases nm<;>cases em<;>simp_all<;>cases A<;>cases num<;>cases L<;>rfl
 by_cases h1:e.kind=1
 ·have f1:fldB e=(((true==nNm e.name)&&(true||(e.name==([]:Str))))&&(((false==nVal e.type)&&(false||tyNo e.type))&&((!decide (0<(e.labels.length:Int)))&&(decide (0<=e.n)&&decide (e.n<=0))))):=by unfold fldB;rw[h1];rfl
  have f2:nodeOk e=(((e.args.length:Int)==0)&&((!decide (0<(e.labels.length:Int)))&&((e.n==0)&&((if true=true then nNm e.name else(e.name==([]:Str)))&&(if false=true then nVal e.type else tyNo e.type))))):=by unfold nodeOk numOk shp;rw[h1];rfl
  have f3:arB e=0:=by unfold arB;rw[h1];rfl
  rw[f1,f2,f3,hn0]
  exact fin true false _ _
 by_cases h12:e.kind=12
 ·have f1:fldB e=(((true==nNm e.name)&&(true||(e.name==([]:Str))))&&(((false==nVal e.type)&&(false||tyNo e.type))&&((!decide (0<(e.labels.length:Int)))&&(decide (0<=e.n)&&decide (e.n<=0))))):=by unfold fldB;rw[h12];rfl
  have f2:nodeOk e=(((e.args.length:Int)==0)&&((!decide (0<(e.labels.length:Int)))&&((e.n==0)&&((if true=true then nNm e.name else(e.name==([]:Str)))&&(if false=true then nVal e.type else tyNo e.type))))):=by unfold nodeOk numOk shp;rw[h12];rfl
  have f3:arB e=0:=by unfold arB;rw[h12];rfl
  rw[f1,f2,f3,hn0]
  exact fin true false _ _
 by_cases h2:e.kind=2
 ·have f1:fldB e=(((false==nNm e.name)&&(false||(e.name==([]:Str))))&&(((false==nVal e.type)&&(false||tyNo e.type))&&((!decide (0<(e.labels.length:Int)))&&(decide (0<=e.n)&&decide (e.n<=999))))):=by unfold fldB;rw[h2];rfl
  have f2:nodeOk e=(((e.args.length:Int)==0)&&((!decide (0<(e.labels.length:Int)))&&((decide (0<=e.n)&&decide (e.n<=999))&&((if false=true then nNm e.name else(e.name==([]:Str)))&&(if false=true then nVal e.type else tyNo e.type))))):=by unfold nodeOk numOk shp;rw[h2];rfl
  have f3:arB e=0:=by unfold arB;rw[h2];rfl
  rw[f1,f2,f3]
  exact fin false false _ _
 by_cases h3:e.kind=3
 ·have f1:fldB e=(((false==nNm e.name)&&(false||(e.name==([]:Str))))&&(((false==nVal e.type)&&(false||tyNo e.type))&&((!decide (0<(e.labels.length:Int)))&&(decide (0<=e.n)&&decide (e.n<=1))))):=by unfold fldB;rw[h3];rfl
  have f2:nodeOk e=(((e.args.length:Int)==0)&&((!decide (0<(e.labels.length:Int)))&&(((e.n==0)||(e.n==1))&&((if false=true then nNm e.name else(e.name==([]:Str)))&&(if false=true then nVal e.type else tyNo e.type))))):=by unfold nodeOk numOk shp;rw[h3];rfl
  have f3:arB e=0:=by unfold arB;rw[h3];rfl
  rw[f1,f2,f3,hn1]
  exact fin false false _ _
 by_cases h6:e.kind=6
 ·have f1:fldB e=(((true==nNm e.name)&&(true||(e.name==([]:Str))))&&(((false==nVal e.type)&&(false||tyNo e.type))&&((!decide (0<(e.labels.length:Int)))&&(decide (0<=e.n)&&decide (e.n<=0))))):=by unfold fldB;rw[h6];rfl
  have f2:nodeOk e=(((e.args.length:Int)==1)&&((!decide (0<(e.labels.length:Int)))&&((e.n==0)&&((if true=true then nNm e.name else(e.name==([]:Str)))&&(if false=true then nVal e.type else tyNo e.type))))):=by unfold nodeOk numOk shp;rw[h6];rfl
  have f3:arB e=1:=by unfold arB;rw[h6];rfl
  rw[f1,f2,f3,hn0]
  exact fin true false _ _
 by_cases h7:e.kind=7
 ·have f1:fldB e=(((false==nNm e.name)&&(false||(e.name==([]:Str))))&&(((true==nVal e.type)&&(true||tyNo e.type))&&((!decide (0<(e.labels.length:Int)))&&(decide (0<=e.n)&&decide (e.n<=0))))):=by unfold fldB;rw[h7];rfl
  have f2:nodeOk e=(((e.args.length:Int)==0)&&((!decide (0<(e.labels.length:Int)))&&((e.n==0)&&((if false=true then nNm e.name else(e.name==([]:Str)))&&(if true=true then nVal e.type else tyNo e.type))))):=by unfold nodeOk numOk shp;rw[h7];rfl
  have f3:arB e=0:=by unfold arB;rw[h7];rfl
  rw[f1,f2,f3,hn0]
  exact fin false true _ _
 by_cases h8:e.kind=8
 ·have f1:fldB e=(((false==nNm e.name)&&(false||(e.name==([]:Str))))&&(((false==nVal e.type)&&(false||tyNo e.type))&&((!decide (0<(e.labels.length:Int)))&&(decide (0<=e.n)&&decide (e.n<=0))))):=by unfold fldB;rw[h8];rfl
  have f2:nodeOk e=(((e.args.length:Int)==1)&&((!decide (0<(e.labels.length:Int)))&&((e.n==0)&&((if false=true then nNm e.name else(e.name==([]:Str)))&&(if false=true then nVal e.type else tyNo e.type))))):=by unfold nodeOk numOk shp;rw[h8];rfl
  have f3:arB e=1:=by unfold arB;rw[h8];rfl
  rw[f1,f2,f3,hn0]
  exact fin false false _ _
 by_cases h15:e.kind=15
 ·have f1:fldB e=(((false==nNm e.name)&&(false||(e.name==([]:Str))))&&(((false==nVal e.type)&&(false||tyNo e.type))&&((!decide (0<(e.labels.length:Int)))&&(decide (0<=e.n)&&decide (e.n<=0))))):=by unfold fldB;rw[h15];rfl
  have f2:nodeOk e=(((e.args.length:Int)==1)&&((!decide (0<(e.labels.length:Int)))&&((e.n==0)&&((if false=true then nNm e.name else(e.name==([]:Str)))&&(if false=true then nVal e.type else tyNo e.type))))):=by unfold nodeOk numOk shp;rw[h15];rfl
  have f3:arB e=1:=by unfold arB;rw[h15];rfl
  rw[f1,f2,f3,hn0]
  exact fin false false _ _
 by_cases h16:e.kind=16
 ·have f1:fldB e=(((false==nNm e.name)&&(false||(e.name==([]:Str))))&&(((false==nVal e.type)&&(false||tyNo e.type))&&((!decide (0<(e.labels.length:Int)))&&(decide (0<=e.n)&&decide (e.n<=0))))):=by unfold fldB;rw[h16];rfl
  have f2:nodeOk e=(((e.args.length:Int)==1)&&((!decide (0<(e.labels.length:Int)))&&((e.n==0)&&((if false=true then nNm e.name else(e.name==([]:Str)))&&(if false=true then nVal e.type else tyNo e.type))))):=by unfold nodeOk numOk shp;rw[h16];rfl
  have f3:arB e=1:=by unfold arB;rw[h16];rfl
  rw[f1,f2,f3,hn0]
  exact fin false false _ _
 by_cases h9:e.kind=9
 ·have f1:fldB e=(((false==nNm e.name)&&(false||(e.name==([]:Str))))&&(((false==nVal e.type)&&(false||tyNo e.type))&&((!decide (0<(e.labels.length:Int)))&&(decide (0<=e.n)&&decide (e.n<=0))))):=by unfold fldB;rw[h9];rfl
  have f2:nodeOk e=(((e.args.length:Int)==2)&&((!decide (0<(e.labels.length:Int)))&&((e.n==0)&&((if false=true then nNm e.name else(e.name==([]:Str)))&&(if false=true then nVal e.type else tyNo e.type))))):=by unfold nodeOk numOk shp;rw[h9];rfl
  have f3:arB e=2:=by unfold arB;rw[h9];rfl
  rw[f1,f2,f3,hn0]
  exact fin false false _ _
 by_cases h14:e.kind=14
 ·have f1:fldB e=(((false==nNm e.name)&&(false||(e.name==([]:Str))))&&(((false==nVal e.type)&&(false||tyNo e.type))&&((!decide (0<(e.labels.length:Int)))&&(decide (0<=e.n)&&decide (e.n<=0))))):=by unfold fldB;rw[h14];rfl
  have f2:nodeOk e=(((e.args.length:Int)==2)&&((!decide (0<(e.labels.length:Int)))&&((e.n==0)&&((if false=true then nNm e.name else(e.name==([]:Str)))&&(if false=true then nVal e.type else tyNo e.type))))):=by unfold nodeOk numOk shp;rw[h14];rfl
  have f3:arB e=2:=by unfold arB;rw[h14];rfl
  rw[f1,f2,f3,hn0]
  exact fin false false _ _
 by_cases h10:e.kind=10
 ·have f1:fldB e=(((true==nNm e.name)&&(true||(e.name==([]:Str))))&&(((false==nVal e.type)&&(false||tyNo e.type))&&((!decide (0<(e.labels.length:Int)))&&(decide (0<=e.n)&&decide (e.n<=0))))):=by unfold fldB;rw[h10];rfl
  have f2:nodeOk e=(((e.args.length:Int)==2)&&((!decide (0<(e.labels.length:Int)))&&((e.n==0)&&((if true=true then nNm e.name else(e.name==([]:Str)))&&(if false=true then nVal e.type else tyNo e.type))))):=by unfold nodeOk numOk shp;rw[h10];rfl
  have f3:arB e=2:=by unfold arB;rw[h10];rfl
  rw[f1,f2,f3,hn0]
  exact fin true false _ _
 by_cases h11:e.kind=11
 ·have f1:fldB e=(((false==nNm e.name)&&(false||(e.name==([]:Str))))&&(((false==nVal e.type)&&(false||tyNo e.type))&&((!decide (0<(e.labels.length:Int)))&&(decide (0<=e.n)&&decide (e.n<=0))))):=by unfold fldB;rw[h11];rfl
  have f2:nodeOk e=(((e.args.length:Int)==3)&&((!decide (0<(e.labels.length:Int)))&&((e.n==0)&&((if false=true then nNm e.name else(e.name==([]:Str)))&&(if false=true then nVal e.type else tyNo e.type))))):=by unfold nodeOk numOk shp;rw[h11];rfl
  have f3:arB e=3:=by unfold arB;rw[h11];rfl
  rw[f1,f2,f3,hn0]
  exact fin false false _ _
 by_cases h13:e.kind=13
 ·have f1:fldB e=(((true==nNm e.name)&&(true||(e.name==([]:Str))))&&(((true==nVal e.type)&&(true||tyNo e.type))&&((!decide (0<(e.labels.length:Int)))&&(decide (0<=e.n)&&decide (e.n<=0))))):=by unfold fldB;rw[h13];rfl
  have f2:nodeOk e=(((e.args.length:Int)==1)&&((!decide (0<(e.labels.length:Int)))&&((e.n==0)&&((if true=true then nNm e.name else(e.name==([]:Str)))&&(if true=true then nVal e.type else tyNo e.type))))):=by unfold nodeOk numOk shp;rw[h13];rfl
  have f3:arB e=1:=by unfold arB;rw[h13];rfl
  rw[f1,f2,f3,hn0]
  exact fin true true _ _
 by_cases h4:e.kind=4
 ·have f1:fldB e=((!(arity e.name==0))&&(((false==nVal e.type)&&(false||tyNo e.type))&&((!decide (0<(e.labels.length:Int)))&&(decide (0<=e.n)&&decide (e.n<=0))))):=by unfold fldB;rw[h4];rfl
  have f2:nodeOk e=(decide (0<arity e.name)&&(((e.args.length:Int)==arity e.name)&&((!decide (0<(e.labels.length:Int)))&&((e.n==0)&&tyNo e.type)))):=by unfold nodeOk numOk shp;rw[h4];rfl
  have f3:arB e=arity e.name:=by unfold arB;rw[h4];rfl
  rw[f1,f2,f3,hn0,hz]
  generalize nVal e.type=v at ht⊢
  generalize tyNo e.type=no at ht⊢
  generalize decide (0<(e.labels.length:Int))=L
  generalize ((e.args.length:Int)==arity e.name)=A
  generalize (e.n==0)=n
  generalize decide (0<arity e.name)=r
  cases v<;>cases no<;>simp_all<;>cases r<;>cases A<;>cases L<;>cases n<;>rfl
 by_cases h5:e.kind=5
 ·have f1:fldB e=(((false==nNm e.name)&&(false||(e.name==([]:Str))))&&(((false==nVal e.type)&&(false||tyNo e.type))&&(nLab e.labels&&(decide (0<=e.n)&&decide (e.n<=0))))):=by unfold fldB;rw[h5];rfl
  have f2:nodeOk e=(nLab e.labels&&(((e.args.length:Int)==(e.labels.length:Int))&&((e.n==0)&&((e.name==([]:Str))&&tyNo e.type)))):=by unfold nodeOk numOk shp;rw[h5];rfl
  have f3:arB e=(e.labels.length:Int):=by unfold arB;rw[h5];rfl
  rw[f1,f2,f3,hn0]
  generalize (e.name==([]:Str))=em at hm⊢
  generalize nVal e.type=v at ht⊢
  generalize tyNo e.type=no at ht⊢
  generalize nNm e.name=nm at hm⊢
  generalize ((e.args.length:Int)==(e.labels.length:Int))=A
  generalize nLab e.labels=L
  generalize (e.n==0)=n
  cases v<;>cases no<;>cases nm<;>cases em<;>simp_all<;>cases A<;>cases L<;>cases n<;>rfl
 have f2:nodeOk e=false:=by unfold nodeOk shp;simp[h1,h2,h3,h4,h5,h6,h7,h8,h9,h10,h11,h12,h13,h14,h15,h16]
 have f3:arB e= -1:=by unfold arB;simp[h1,h2,h3,h4,h5,h6,h7,h8,h9,h10,h11,h12,h13,h14,h15,h16]
 have f4:((e.args.length:Int)==(-1:Int))=false:=by
  simp
 rw[f2,f3,f4,Bool.and_false]
end Go.Q
