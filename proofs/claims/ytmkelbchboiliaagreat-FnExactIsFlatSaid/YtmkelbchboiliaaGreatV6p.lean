/- Typing: a term that binds nothing, by the types of its parts. -/
import Derived.Test.YtmkelbchboiliaaGreatV5p
set_option linter.unusedVariables false
set_option linter.unusedSimpArgs false
set_option maxHeartbeats 2000000
namespace Go.Q
theorem br_ff{R:Type}(x y:Option R):br (false==true) x y=y:=rfl
theorem whenO_ans(b:Bool)(t:Ty):Ans (t,b) (whenO b t):=by
 cases b
 ·exact⟨rfl,fun _ h=>by cases h⟩
 ·exact⟨rfl,fun _ h=>by cases h;rfl⟩
theorem ans_false(t:Ty):Ans (t,false) none:=⟨rfl,fun _ h=>by cases h⟩
theorem opGive_b(op:Str):opGive op=if(decide (op=[61])||decide (op=[60])||decide (op=[38])||decide (op=[124])||decide (op=[33]))=true then 2 else 1:=by
 unfold opGive;simp[or_assoc]
theorem opAsk_b(op:Str):opAsk op=if(decide (op=[38])||decide (op=[124])||decide (op=[33]))=true then 2 else 1:=by
 unfold opAsk;simp[or_assoc]
theorem p_implOp(nf:Nat)(op:Str)(ts:List Ty)(h:ts.length+1<nf)(hb:ts.length<=16777216):m_ZP nf op ts=some (Ty.mk (opGive op) [] [],ts.all fun x=>x.kind==opAsk op):=by
 have hI:∀a:Int,m_Zh nf ts (some a)=some (findI (fun i=> !((gt ts (i:Int) Ty.zero).kind==a)) 0 ts.length):=fun a=>by
  rw[m_Zh_eq,mark_eq]
  have:=for_find (fun m i=>l6_Zh nf m ts (some a) i) ts.length (fun i=> !((gt ts (i:Int) Ty.zero).kind==a)) 0 (fun m i hp hi=> ?_) (fun m i hi=> ?_) nf (by omega) (by omega)
  ·exact this
  ·have c0:(i:Int)<(ts.length:Int):=by omega
   have c1:0<=(i:Int)∧(i:Int)<(ts.length:Int):=by omega
   rw[l6_Zh_eq,br_pos c0,gg_pos c1,Option.bind_some,m_ZQ_eq,cb_some,mark_eq,w64_nat (n:=i) (by omega)]
   cases((gt ts (i:Int) Ty.zero).kind==a)<;>rfl
  ·have c0:¬(i:Int)<(ts.length:Int):=by omega
   rw[l6_Zh_eq,br_neg c0]
 have hC:∀a:Int,m_Zd nf ts (some a)=some (!ts.all fun x=>x.kind==a):=fun a=>by
  rw[m_Zd_eq,hI,cb_some,findI_all]
  have e:(fun j:Nat=> !(!((gt ts (j:Int) Ty.zero).kind==a)))=fun j:Nat=>(fun x:Ty=>x.kind==a) (gt ts (j:Int) Ty.zero):=by funext j;simp
  rw[e,allF_all (fun x:Ty=>x.kind==a) Ty.zero]
 have h29:∀g a:Int,j29_ZP nf ts g a=some (Ty.mk g [] [],ts.all fun x=>x.kind==a):=fun g a=>by
  rw[j29_ZP_eq,hC,cb_some,Bool.not_not]
 rw[m_ZP_eq,opGive_b,opAsk_b]
 simp only[j14_ZP_eq,j26_ZP_eq,h29,mark_eq,beqS]
 by_cases h1:op=[61]
 ·subst h1;rfl
 by_cases h2:op=[60]
 ·subst h2;rfl
 rw[decide_eq_false h1,decide_eq_false h2]
 cases decide (op=[38])<;>cases decide (op=[124])<;>cases decide (op=[33])<;>rfl
theorem p_specOp(nf:Nat)(op:Str)(ts:List Ty)(ho:0<arity op)(h:ts.length+1<nf)(hb:ts.length<=16777216):m_Zbr nf op ts=some (ansO (whenO (ts.all fun x=>x.kind==opAsk op) (Ty.mk (opGive op) [] []))):=by
 have h31:j31_Zbr nf op=some (Ty.mk (opGive op) [] [],true):=by
  simp only[j31_Zbr_eq,j34_Zbr_eq,m_ZbK_eq,m_ZbF_eq,cb_some,mark_eq,Ty.h_eq,beqS]
  rw[arity_b]at ho
  rw[opGive_b]
  by_cases h1:op=[43]
  ·subst h1;rfl
  ·by_cases h2:op=[45]
   ·subst h2;rfl
   ·rw[decide_eq_false h1,decide_eq_false h2]at*
    generalize decide (op=[61])=a at*
    generalize decide (op=[60])=b at*
    generalize decide (op=[38])=c at*
    generalize decide (op=[124])=d at*
    generalize decide (op=[33])=e at*
    cases a<;>cases b<;>cases c<;>cases d<;>cases e<;>first|rfl|(exfalso;revert ho;decide)
 have h10:∀a:Int,j10_Zbr nf op ts a=some (ansO (whenO (ts.all fun x=>x.kind==a) (Ty.mk (opGive op) [] []))):=fun a=>by
  rw[j10_Zbr_eq,mark_eq]
  have:=for_all (fun m i=>l14_Zbr nf m op ts a i) ts.length (fun i=>(gt ts (i:Int) Ty.zero).kind==a) (some (Ty.mk (opGive op) [] [],true)) (some (Ty.mk (0:Int) ([]:List Str) ([]:List Ty),false)) 0 (fun m i hp hi=> ?_) (fun m i hi=> ?_) nf (by omega) (by omega)
  ·have e0:((0:Nat):Int)=(0:Int):=rfl
   rw[e0]at this
   rw[this,show ts.length-0=ts.length by omega,allF_all (fun x:Ty=>x.kind==a) Ty.zero]
   cases(ts.all fun x:Ty=>x.kind==a)<;>rfl
  ·have c0:(i:Int)<(ts.length:Int):=by omega
   have c1:0<=(i:Int)∧(i:Int)<(ts.length:Int):=by omega
   rw[l14_Zbr_eq,br_pos c0,gg_pos c1,mark_eq,w64_nat (n:=i) (by omega)]
   cases((gt ts (i:Int) Ty.zero).kind==a)<;>rfl
  ·have c0:¬(i:Int)<(ts.length:Int):=by omega
   rw[l14_Zbr_eq,br_neg c0,mark_eq,h31]
 rw[m_Zbr_eq,opAsk_b]
 simp only[j7_Zbr_eq,h10,mark_eq,beqS]
 cases decide (op=[38])<;>cases decide (op=[124])<;>cases decide (op=[33])<;>rfl
theorem p_specBag(nf:Nat)(t:Ty)(h:8*zTy t+1<nf)(hb:zTy t<=16777216):m_ZbD nf t=some (tBag t):=by
 rw[m_ZbD_eq,Ty.h_eq,p_l3Copy nf nf t h h hb,cb_some];rfl
theorem p_implBag(nf:Nat)(t:Ty):m_Zx nf t=some (tBag t):=by rw[m_Zx_eq,Ty.h_eq];rfl
theorem p_specRec(nf:Nat)(ls:List Str)(ts:List Ty)(hv:∀i,i<ts.length->nVal (gt ts (i:Int) Ty.zero)=true)(hl:ls.length<=100)(ht:ts.length<=100)(hn:100000<nf):m_ZbN nf ls ts=some (Ty.mk 3 ls ts):=by
 rw[m_ZbN_eq,gg_pos (by omega),mark_eq]
 refine for_loop (fun m i s=>l8_ZbN nf m ts ls i s) ts.length (fun i=>ts.take i) _ (fun m i hi=> ?_) (fun m=> ?_) nf (by omega)
 ·have c0:(i:Int)<(ts.length:Int):=by omega
  have c1:0<=(i:Int)∧(i:Int)<(ts.length:Int):=by omega
  have hz:=val_z (hv i hi)
  rw[l8_ZbN_eq,br_pos c0,gg_pos c1,p_l3Copy nf nf _ (by omega) (by omega) (by omega),cb_some,gg_pos (by simp;omega),mark_eq,w64_nat (n:=i) (by omega),take_gt ts hi Ty.zero]
 ·have c0:¬(ts.length:Int)<(ts.length:Int):=by omega
  rw[l8_ZbN_eq,br_neg c0,List.take_length]
theorem node_len{e:Tm}(h:nodeOk e=true):(e.args.length:Int)=(shp e).1:=by
 unfold nodeOk at h
 simp only[Bool.and_eq_true,beq_iff_eq]at h
 exact h.2.1
theorem node_ok{e:Tm}(h:nodeOk e=true):(shp e).2.2.2=true:=by
 unfold nodeOk at h
 simp only[Bool.and_eq_true]at h
 exact h.1
theorem p_implPlain(nf:Nat)(y:Typer)(e:Tm)(t:List Ty)(hN:nodeOk e=true)(hl:t.length=e.args.length)(hv:∀i,i<t.length->nVal (gt t (i:Int) Ty.zero)=true)(hk:e.kind=4∨e.kind=5∨e.kind=6∨e.kind=8∨e.kind=9∨e.kind=11∨e.kind=14∨e.kind=15∨e.kind=16)(hz:szL List.length e.labels<=16777216)(hn:200000000<nf):∃r,m_ZY nf y e t=some r∧Ans r (nPlain e t):=by
 have hL:=node_len hN
 have hO:=node_ok hN
 have v0:∀i:Nat,i<t.length->zTy (gt t (i:Int) Ty.zero)<=527:=fun i hi=>val_z (hv i hi)
 rcases hk with hk|hk|hk|hk|hk|hk|hk|hk|hk
 ·rw[m_ZY_eq,hk]
  simp only[show((4:Int)==(4:Int))=true from rfl,show((4:Int)==(5:Int))=false from rfl,show((4:Int)==(6:Int))=false from rfl,show((4:Int)==(8:Int))=false from rfl,show((4:Int)==(9:Int))=false from rfl,show((4:Int)==(11:Int))=false from rfl,show((4:Int)==(14:Int))=false from rfl,show((4:Int)==(15:Int))=false from rfl,show((4:Int)==(16:Int))=false from rfl,br_true,br_false]
  have e1:shp e=(arity e.name,true,false,decide (0<arity e.name)):=by unfold shp;rw[hk];rfl
  have hp:nPlain e t=whenO (t.all fun x=>x.kind==opAsk e.name) (.mk (opGive e.name) [] []):=by unfold nPlain;rw[hk];rfl
  rw[e1]at hL hO
  have ha:=arity_nn e.name
  simp only at hL hO
  rw[p_implOp nf e.name t (by omega) (by omega),cb_some,hp,Ty.h_eq]
  exact⟨_,rfl,whenO_ans _ _⟩
 ·rw[m_ZY_eq,hk]
  simp only[show((5:Int)==(4:Int))=false from rfl,show((5:Int)==(5:Int))=true from rfl,show((5:Int)==(6:Int))=false from rfl,show((5:Int)==(8:Int))=false from rfl,show((5:Int)==(9:Int))=false from rfl,show((5:Int)==(11:Int))=false from rfl,show((5:Int)==(14:Int))=false from rfl,show((5:Int)==(15:Int))=false from rfl,show((5:Int)==(16:Int))=false from rfl,br_true,br_false]
  have e1:shp e=((e.labels.length:Int),false,false,nLab e.labels):=by unfold shp;rw[hk];rfl
  have hp:nPlain e t=some (.mk 3 e.labels t):=by unfold nPlain;rw[hk];rfl
  rw[e1]at hL hO
  simp only at hL hO
  have hlb:e.labels.length<=4:=by simp only[nLab,Bool.and_eq_true,decide_eq_true_eq]at hO;omega
  rw[hp]
  exact⟨_,rfl,rfl,fun _ h=>by cases h;rfl⟩
 ·rw[m_ZY_eq,hk]
  simp only[show((6:Int)==(4:Int))=false from rfl,show((6:Int)==(5:Int))=false from rfl,show((6:Int)==(6:Int))=true from rfl,show((6:Int)==(8:Int))=false from rfl,show((6:Int)==(9:Int))=false from rfl,show((6:Int)==(11:Int))=false from rfl,show((6:Int)==(14:Int))=false from rfl,show((6:Int)==(15:Int))=false from rfl,show((6:Int)==(16:Int))=false from rfl,br_true,br_false]
  have e1:(shp e).1=1:=by unfold shp;rw[hk];rfl
  have hlt:t.length=1:=by omega
  have z0:((0:Nat):Int)=0:=rfl
  have w0:=v0 0 (by omega)
  have x0:=hv 0 (by omega)
  rw[z0]at w0 x0
  have c0:0<=(0:Int)∧(0:Int)<(t.length:Int):=by omega
  have hp:nPlain e t=fieldO (gt t (0:Int) Ty.zero) e.name:=by unfold nPlain;rw[hk];rfl
  rw[gg_pos c0,p_implField nf _ e.name (by omega) (by omega),cb_some,hp,Ty.h_eq]
  exact⟨_,rfl,ansO_ans _⟩
 ·rw[m_ZY_eq,hk]
  simp only[show((8:Int)==(4:Int))=false from rfl,show((8:Int)==(5:Int))=false from rfl,show((8:Int)==(6:Int))=false from rfl,show((8:Int)==(8:Int))=true from rfl,show((8:Int)==(9:Int))=false from rfl,show((8:Int)==(11:Int))=false from rfl,show((8:Int)==(14:Int))=false from rfl,show((8:Int)==(15:Int))=false from rfl,show((8:Int)==(16:Int))=false from rfl,br_true,br_false]
  have e1:(shp e).1=1:=by unfold shp;rw[hk];rfl
  have hlt:t.length=1:=by omega
  have z0:((0:Nat):Int)=0:=rfl
  have w0:=v0 0 (by omega)
  have x0:=hv 0 (by omega)
  rw[z0]at w0 x0
  have c0:0<=(0:Int)∧(0:Int)<(t.length:Int):=by omega
  have hp:nPlain e t=some (tBag (gt t (0:Int) Ty.zero)):=by unfold nPlain;rw[hk];rfl
  rw[gg_pos c0,p_implBag,cb_some,hp,Ty.h_eq]
  exact⟨_,rfl,rfl,fun _ h=>by cases h;rfl⟩
 ·rw[m_ZY_eq,hk]
  simp only[show((9:Int)==(4:Int))=false from rfl,show((9:Int)==(5:Int))=false from rfl,show((9:Int)==(6:Int))=false from rfl,show((9:Int)==(8:Int))=false from rfl,show((9:Int)==(9:Int))=true from rfl,show((9:Int)==(11:Int))=false from rfl,show((9:Int)==(14:Int))=false from rfl,show((9:Int)==(15:Int))=false from rfl,show((9:Int)==(16:Int))=false from rfl,br_true,br_false]
  have e1:(shp e).1=2:=by unfold shp;rw[hk];rfl
  have hlt:t.length=2:=by omega
  have z0:((0:Nat):Int)=0:=rfl
  have w0:=v0 0 (by omega)
  have x0:=hv 0 (by omega)
  rw[z0]at w0 x0
  have c0:0<=(0:Int)∧(0:Int)<(t.length:Int):=by omega
  have z1:((1:Nat):Int)=1:=rfl
  have w1:=v0 1 (by omega)
  have x1:=hv 1 (by omega)
  rw[z1]at w1 x1
  have c1:0<=(1:Int)∧(1:Int)<(t.length:Int):=by omega
  have hp:nPlain e t=whenO (((gt t (0:Int) Ty.zero).kind==4)&&eqT (gt t (0:Int) Ty.zero) (gt t (1:Int) Ty.zero)) (gt t (0:Int) Ty.zero):=by unfold nPlain;rw[hk];rfl
  rw[gg_pos c0,gg_pos c0,gg_pos c0,gg_pos c1,p_implEq nf nf _ _ (by omega) (by omega) (by omega),cb_some,hp,Ty.h_eq]
  cases((gt t (0:Int) Ty.zero).kind==(4:Int))
  ·exact⟨_,rfl,ans_false _⟩
  ·exact⟨_,rfl,whenO_ans _ _⟩
 ·rw[m_ZY_eq,hk]
  simp only[show((11:Int)==(4:Int))=false from rfl,show((11:Int)==(5:Int))=false from rfl,show((11:Int)==(6:Int))=false from rfl,show((11:Int)==(8:Int))=false from rfl,show((11:Int)==(9:Int))=false from rfl,show((11:Int)==(11:Int))=true from rfl,show((11:Int)==(14:Int))=false from rfl,show((11:Int)==(15:Int))=false from rfl,show((11:Int)==(16:Int))=false from rfl,br_true,br_false]
  have e1:(shp e).1=3:=by unfold shp;rw[hk];rfl
  have hlt:t.length=3:=by omega
  have z0:((0:Nat):Int)=0:=rfl
  have w0:=v0 0 (by omega)
  have x0:=hv 0 (by omega)
  rw[z0]at w0 x0
  have c0:0<=(0:Int)∧(0:Int)<(t.length:Int):=by omega
  have z1:((1:Nat):Int)=1:=rfl
  have w1:=v0 1 (by omega)
  have x1:=hv 1 (by omega)
  rw[z1]at w1 x1
  have c1:0<=(1:Int)∧(1:Int)<(t.length:Int):=by omega
  have c2:0<=(2:Int)∧(2:Int)<(t.length:Int):=by omega
  have hp:nPlain e t=whenO (((gt t (0:Int) Ty.zero).kind==2)&&eqT (gt t (1:Int) Ty.zero) (gt t (2:Int) Ty.zero)) (gt t (1:Int) Ty.zero):=by unfold nPlain;rw[hk];rfl
  rw[gg_pos c1,gg_pos c0,gg_pos c1,gg_pos c2,p_implEq nf nf _ _ (by omega) (by omega) (by omega),cb_some,hp,Ty.h_eq]
  cases((gt t (0:Int) Ty.zero).kind==(2:Int))
  ·exact⟨_,rfl,ans_false _⟩
  ·exact⟨_,rfl,whenO_ans _ _⟩
 ·rw[m_ZY_eq,hk]
  simp only[show((14:Int)==(4:Int))=false from rfl,show((14:Int)==(5:Int))=false from rfl,show((14:Int)==(6:Int))=false from rfl,show((14:Int)==(8:Int))=false from rfl,show((14:Int)==(9:Int))=false from rfl,show((14:Int)==(11:Int))=false from rfl,show((14:Int)==(14:Int))=true from rfl,show((14:Int)==(15:Int))=false from rfl,show((14:Int)==(16:Int))=false from rfl,br_true,br_false]
  have e1:(shp e).1=2:=by unfold shp;rw[hk];rfl
  have hlt:t.length=2:=by omega
  have z0:((0:Nat):Int)=0:=rfl
  have w0:=v0 0 (by omega)
  have x0:=hv 0 (by omega)
  rw[z0]at w0 x0
  have c0:0<=(0:Int)∧(0:Int)<(t.length:Int):=by omega
  have z1:((1:Nat):Int)=1:=rfl
  have w1:=v0 1 (by omega)
  have x1:=hv 1 (by omega)
  rw[z1]at w1 x1
  have c1:0<=(1:Int)∧(1:Int)<(t.length:Int):=by omega
  have hp:nPlain e t=whenO (((gt t (0:Int) Ty.zero).kind==5)&&eqT (gt (gt t (0:Int) Ty.zero).args (0:Int) Ty.zero) (gt t (1:Int) Ty.zero)) (gt (gt t (0:Int) Ty.zero).args (1:Int) Ty.zero):=by unfold nPlain;rw[hk];rfl
  rw[gg_pos c0,hp]
  have bk:((gt t (0:Int) Ty.zero).kind==(5:Int))=decide ((gt t (0:Int) Ty.zero).kind=5):=rfl
  rw[bk]
  by_cases h5:(gt t (0:Int) Ty.zero).kind=5
  ·have hla:=form_fun (val_form x0) h5
   have d0:0<=(0:Int)∧(0:Int)<((gt t (0:Int) Ty.zero).args.length:Int):=by omega
   have d1:0<=(1:Int)∧(1:Int)<((gt t (0:Int) Ty.zero).args.length:Int):=by omega
   have y0:=val_z (val_at x0 (i:=0) (by omega))
   have y1:=val_z (val_at x0 (i:=1) (by omega))
   rw[z0]at y0
   rw[z1]at y1
   rw[decide_eq_true h5]
   rw[Bool.not_true,br_ff2,gg_pos c0,gg_pos d0,gg_pos c1,p_implEq nf nf _ _ (by omega) (by omega) (by omega),cb_some,mark_eq,j48_ZY_eq,gg_pos c0,gg_pos d1,Ty.h_eq]
   cases eqT (gt (gt t (0:Int) Ty.zero).args (0:Int) Ty.zero) (gt t (1:Int) Ty.zero)
   ·exact⟨_,rfl,ans_false _⟩
   ·exact⟨_,rfl,whenO_ans true _⟩
  ·rw[decide_eq_false h5,Bool.not_false,br_tf,mark_eq,j48_ZY_eq,br_true]
   exact⟨_,rfl,ans_false _⟩
 ·rw[m_ZY_eq,hk]
  simp only[show((15:Int)==(4:Int))=false from rfl,show((15:Int)==(5:Int))=false from rfl,show((15:Int)==(6:Int))=false from rfl,show((15:Int)==(8:Int))=false from rfl,show((15:Int)==(9:Int))=false from rfl,show((15:Int)==(11:Int))=false from rfl,show((15:Int)==(14:Int))=false from rfl,show((15:Int)==(15:Int))=true from rfl,show((15:Int)==(16:Int))=false from rfl,br_true,br_false]
  have e1:(shp e).1=1:=by unfold shp;rw[hk];rfl
  have hlt:t.length=1:=by omega
  have z0:((0:Nat):Int)=0:=rfl
  have w0:=v0 0 (by omega)
  have x0:=hv 0 (by omega)
  rw[z0]at w0 x0
  have c0:0<=(0:Int)∧(0:Int)<(t.length:Int):=by omega
  have hp:nPlain e t=whenO ((gt t (0:Int) Ty.zero).kind==4) tBool:=by unfold nPlain;rw[hk];rfl
  rw[m_Zz_eq,cb_some,gg_pos c0,hp,Ty.h_eq]
  exact⟨_,rfl,whenO_ans _ _⟩
 ·rw[m_ZY_eq,hk]
  simp only[show((16:Int)==(4:Int))=false from rfl,show((16:Int)==(5:Int))=false from rfl,show((16:Int)==(6:Int))=false from rfl,show((16:Int)==(8:Int))=false from rfl,show((16:Int)==(9:Int))=false from rfl,show((16:Int)==(11:Int))=false from rfl,show((16:Int)==(14:Int))=false from rfl,show((16:Int)==(15:Int))=false from rfl,show((16:Int)==(16:Int))=true from rfl,br_true,br_false]
  have e1:(shp e).1=1:=by unfold shp;rw[hk];rfl
  have hlt:t.length=1:=by omega
  have z0:((0:Nat):Int)=0:=rfl
  have w0:=v0 0 (by omega)
  have x0:=hv 0 (by omega)
  rw[z0]at w0 x0
  have c0:0<=(0:Int)∧(0:Int)<(t.length:Int):=by omega
  have hp:nPlain e t=whenO ((gt t (0:Int) Ty.zero).kind==4) tInt:=by unfold nPlain;rw[hk];rfl
  rw[m_ZF_eq,cb_some,gg_pos c0,hp,Ty.h_eq]
  exact⟨_,rfl,whenO_ans _ _⟩
theorem p_specPlain(nf:Nat)(e:Tm)(t:List Ty)(hN:nodeOk e=true)(hl:t.length=e.args.length)(hv:∀i,i<t.length->nVal (gt t (i:Int) Ty.zero)=true)(hk:e.kind=4∨e.kind=5∨e.kind=6∨e.kind=8∨e.kind=9∨e.kind=11∨e.kind=14∨e.kind=15∨e.kind=16)(hz:szL List.length e.labels<=16777216)(hn:200000000<nf):∃r,m_Zbo nf e t=some r∧Ans r (nPlain e t):=by
 have hL:=node_len hN
 have hO:=node_ok hN
 have v0:∀i:Nat,i<t.length->zTy (gt t (i:Int) Ty.zero)<=527:=fun i hi=>val_z (hv i hi)
 rcases hk with hk|hk|hk|hk|hk|hk|hk|hk|hk
 ·rw[m_Zbo_eq,hk]
  simp only[show((4:Int)==(4:Int))=true from rfl,show((4:Int)==(5:Int))=false from rfl,show((4:Int)==(6:Int))=false from rfl,show((4:Int)==(8:Int))=false from rfl,show((4:Int)==(9:Int))=false from rfl,show((4:Int)==(11:Int))=false from rfl,show((4:Int)==(14:Int))=false from rfl,show((4:Int)==(15:Int))=false from rfl,show((4:Int)==(16:Int))=false from rfl,br_true,br_false]
  have e1:shp e=(arity e.name,true,false,decide (0<arity e.name)):=by unfold shp;rw[hk];rfl
  have hp:nPlain e t=whenO (t.all fun x=>x.kind==opAsk e.name) (.mk (opGive e.name) [] []):=by unfold nPlain;rw[hk];rfl
  rw[e1]at hL hO
  have ha:=arity_nn e.name
  simp only at hL hO
  rw[p_specOp nf e.name t (by simpa using hO) (by omega) (by omega),cb_some,hp,Ty.h_eq]
  exact⟨_,rfl,ansO_ans _⟩
 ·rw[m_Zbo_eq,hk]
  simp only[show((5:Int)==(4:Int))=false from rfl,show((5:Int)==(5:Int))=true from rfl,show((5:Int)==(6:Int))=false from rfl,show((5:Int)==(8:Int))=false from rfl,show((5:Int)==(9:Int))=false from rfl,show((5:Int)==(11:Int))=false from rfl,show((5:Int)==(14:Int))=false from rfl,show((5:Int)==(15:Int))=false from rfl,show((5:Int)==(16:Int))=false from rfl,br_true,br_false]
  have e1:shp e=((e.labels.length:Int),false,false,nLab e.labels):=by unfold shp;rw[hk];rfl
  have hp:nPlain e t=some (.mk 3 e.labels t):=by unfold nPlain;rw[hk];rfl
  rw[e1]at hL hO
  simp only at hL hO
  have hlb:e.labels.length<=4:=by simp only[nLab,Bool.and_eq_true,decide_eq_true_eq]at hO;omega
  rw[p_specRec nf e.labels t hv (by omega) (by omega) (by omega),cb_some,hp,Ty.h_eq]
  exact⟨_,rfl,rfl,fun _ h=>by cases h;rfl⟩
 ·rw[m_Zbo_eq,hk]
  simp only[show((6:Int)==(4:Int))=false from rfl,show((6:Int)==(5:Int))=false from rfl,show((6:Int)==(6:Int))=true from rfl,show((6:Int)==(8:Int))=false from rfl,show((6:Int)==(9:Int))=false from rfl,show((6:Int)==(11:Int))=false from rfl,show((6:Int)==(14:Int))=false from rfl,show((6:Int)==(15:Int))=false from rfl,show((6:Int)==(16:Int))=false from rfl,br_true,br_false]
  have e1:(shp e).1=1:=by unfold shp;rw[hk];rfl
  have hlt:t.length=1:=by omega
  have z0:((0:Nat):Int)=0:=rfl
  have w0:=v0 0 (by omega)
  have x0:=hv 0 (by omega)
  rw[z0]at w0 x0
  have c0:0<=(0:Int)∧(0:Int)<(t.length:Int):=by omega
  have hp:nPlain e t=fieldO (gt t (0:Int) Ty.zero) e.name:=by unfold nPlain;rw[hk];rfl
  rw[gg_pos c0,p_specField nf _ e.name (by omega) (by omega),cb_some,hp,Ty.h_eq]
  exact⟨_,rfl,ansO_ans _⟩
 ·rw[m_Zbo_eq,hk]
  simp only[show((8:Int)==(4:Int))=false from rfl,show((8:Int)==(5:Int))=false from rfl,show((8:Int)==(6:Int))=false from rfl,show((8:Int)==(8:Int))=true from rfl,show((8:Int)==(9:Int))=false from rfl,show((8:Int)==(11:Int))=false from rfl,show((8:Int)==(14:Int))=false from rfl,show((8:Int)==(15:Int))=false from rfl,show((8:Int)==(16:Int))=false from rfl,br_true,br_false]
  have e1:(shp e).1=1:=by unfold shp;rw[hk];rfl
  have hlt:t.length=1:=by omega
  have z0:((0:Nat):Int)=0:=rfl
  have w0:=v0 0 (by omega)
  have x0:=hv 0 (by omega)
  rw[z0]at w0 x0
  have c0:0<=(0:Int)∧(0:Int)<(t.length:Int):=by omega
  have hp:nPlain e t=some (tBag (gt t (0:Int) Ty.zero)):=by unfold nPlain;rw[hk];rfl
  rw[gg_pos c0,p_specBag nf _ (by omega) (by omega),cb_some,hp,Ty.h_eq]
  exact⟨_,rfl,rfl,fun _ h=>by cases h;rfl⟩
 ·rw[m_Zbo_eq,hk]
  simp only[show((9:Int)==(4:Int))=false from rfl,show((9:Int)==(5:Int))=false from rfl,show((9:Int)==(6:Int))=false from rfl,show((9:Int)==(8:Int))=false from rfl,show((9:Int)==(9:Int))=true from rfl,show((9:Int)==(11:Int))=false from rfl,show((9:Int)==(14:Int))=false from rfl,show((9:Int)==(15:Int))=false from rfl,show((9:Int)==(16:Int))=false from rfl,br_true,br_false]
  have e1:(shp e).1=2:=by unfold shp;rw[hk];rfl
  have hlt:t.length=2:=by omega
  have z0:((0:Nat):Int)=0:=rfl
  have w0:=v0 0 (by omega)
  have x0:=hv 0 (by omega)
  rw[z0]at w0 x0
  have c0:0<=(0:Int)∧(0:Int)<(t.length:Int):=by omega
  have z1:((1:Nat):Int)=1:=rfl
  have w1:=v0 1 (by omega)
  have x1:=hv 1 (by omega)
  rw[z1]at w1 x1
  have c1:0<=(1:Int)∧(1:Int)<(t.length:Int):=by omega
  have hp:nPlain e t=whenO (((gt t (0:Int) Ty.zero).kind==4)&&eqT (gt t (0:Int) Ty.zero) (gt t (1:Int) Ty.zero)) (gt t (0:Int) Ty.zero):=by unfold nPlain;rw[hk];rfl
  rw[gg_pos c0,gg_pos c0,gg_pos c0,gg_pos c1,p_specEq nf nf _ _ (by omega) (by omega) (by omega),cb_some,hp,Ty.h_eq]
  cases((gt t (0:Int) Ty.zero).kind==(4:Int))
  ·exact⟨_,rfl,ans_false _⟩
  ·exact⟨_,rfl,whenO_ans _ _⟩
 ·rw[m_Zbo_eq,hk]
  simp only[show((11:Int)==(4:Int))=false from rfl,show((11:Int)==(5:Int))=false from rfl,show((11:Int)==(6:Int))=false from rfl,show((11:Int)==(8:Int))=false from rfl,show((11:Int)==(9:Int))=false from rfl,show((11:Int)==(11:Int))=true from rfl,show((11:Int)==(14:Int))=false from rfl,show((11:Int)==(15:Int))=false from rfl,show((11:Int)==(16:Int))=false from rfl,br_true,br_false]
  have e1:(shp e).1=3:=by unfold shp;rw[hk];rfl
  have hlt:t.length=3:=by omega
  have z0:((0:Nat):Int)=0:=rfl
  have w0:=v0 0 (by omega)
  have x0:=hv 0 (by omega)
  rw[z0]at w0 x0
  have c0:0<=(0:Int)∧(0:Int)<(t.length:Int):=by omega
  have z1:((1:Nat):Int)=1:=rfl
  have w1:=v0 1 (by omega)
  have x1:=hv 1 (by omega)
  rw[z1]at w1 x1
  have c1:0<=(1:Int)∧(1:Int)<(t.length:Int):=by omega
  have c2:0<=(2:Int)∧(2:Int)<(t.length:Int):=by omega
  have hp:nPlain e t=whenO (((gt t (0:Int) Ty.zero).kind==2)&&eqT (gt t (1:Int) Ty.zero) (gt t (2:Int) Ty.zero)) (gt t (1:Int) Ty.zero):=by unfold nPlain;rw[hk];rfl
  rw[gg_pos c1,gg_pos c0,gg_pos c1,gg_pos c2,p_specEq nf nf _ _ (by omega) (by omega) (by omega),cb_some,hp,Ty.h_eq]
  cases((gt t (0:Int) Ty.zero).kind==(2:Int))
  ·exact⟨_,rfl,ans_false _⟩
  ·exact⟨_,rfl,whenO_ans _ _⟩
 ·rw[m_Zbo_eq,hk]
  simp only[show((14:Int)==(4:Int))=false from rfl,show((14:Int)==(5:Int))=false from rfl,show((14:Int)==(6:Int))=false from rfl,show((14:Int)==(8:Int))=false from rfl,show((14:Int)==(9:Int))=false from rfl,show((14:Int)==(11:Int))=false from rfl,show((14:Int)==(14:Int))=true from rfl,show((14:Int)==(15:Int))=false from rfl,show((14:Int)==(16:Int))=false from rfl,br_true,br_false]
  have e1:(shp e).1=2:=by unfold shp;rw[hk];rfl
  have hlt:t.length=2:=by omega
  have z0:((0:Nat):Int)=0:=rfl
  have w0:=v0 0 (by omega)
  have x0:=hv 0 (by omega)
  rw[z0]at w0 x0
  have c0:0<=(0:Int)∧(0:Int)<(t.length:Int):=by omega
  have z1:((1:Nat):Int)=1:=rfl
  have w1:=v0 1 (by omega)
  have x1:=hv 1 (by omega)
  rw[z1]at w1 x1
  have c1:0<=(1:Int)∧(1:Int)<(t.length:Int):=by omega
  have hp:nPlain e t=whenO (((gt t (0:Int) Ty.zero).kind==5)&&eqT (gt (gt t (0:Int) Ty.zero).args (0:Int) Ty.zero) (gt t (1:Int) Ty.zero)) (gt (gt t (0:Int) Ty.zero).args (1:Int) Ty.zero):=by unfold nPlain;rw[hk];rfl
  rw[gg_pos c0,hp]
  have bk:((gt t (0:Int) Ty.zero).kind==(5:Int))=decide ((gt t (0:Int) Ty.zero).kind=5):=rfl
  rw[bk]
  by_cases h5:(gt t (0:Int) Ty.zero).kind=5
  ·have hla:=form_fun (val_form x0) h5
   have d0:0<=(0:Int)∧(0:Int)<((gt t (0:Int) Ty.zero).args.length:Int):=by omega
   have d1:0<=(1:Int)∧(1:Int)<((gt t (0:Int) Ty.zero).args.length:Int):=by omega
   have y0:=val_z (val_at x0 (i:=0) (by omega))
   have y1:=val_z (val_at x0 (i:=1) (by omega))
   rw[z0]at y0
   rw[z1]at y1
   rw[decide_eq_true h5]
   rw[beq_self_eq_true,br_true,gg_pos c0,gg_pos d0,gg_pos c1,p_specEq nf nf _ _ (by omega) (by omega) (by omega),cb_some,mark_eq,j51_Zbo_eq,gg_pos c0,gg_pos d1,p_l3Copy nf nf _ (by omega) (by omega) (by omega),cb_some,Ty.h_eq]
   cases eqT (gt (gt t (0:Int) Ty.zero).args (0:Int) Ty.zero) (gt t (1:Int) Ty.zero)
   ·exact⟨_,rfl,ans_false _⟩
   ·exact⟨_,rfl,whenO_ans true _⟩
  ·rw[decide_eq_false h5,br_ff,mark_eq,j51_Zbo_eq,br_false]
   exact⟨_,rfl,ans_false _⟩
 ·rw[m_Zbo_eq,hk]
  simp only[show((15:Int)==(4:Int))=false from rfl,show((15:Int)==(5:Int))=false from rfl,show((15:Int)==(6:Int))=false from rfl,show((15:Int)==(8:Int))=false from rfl,show((15:Int)==(9:Int))=false from rfl,show((15:Int)==(11:Int))=false from rfl,show((15:Int)==(14:Int))=false from rfl,show((15:Int)==(15:Int))=true from rfl,show((15:Int)==(16:Int))=false from rfl,br_true,br_false]
  have e1:(shp e).1=1:=by unfold shp;rw[hk];rfl
  have hlt:t.length=1:=by omega
  have z0:((0:Nat):Int)=0:=rfl
  have w0:=v0 0 (by omega)
  have x0:=hv 0 (by omega)
  rw[z0]at w0 x0
  have c0:0<=(0:Int)∧(0:Int)<(t.length:Int):=by omega
  have hp:nPlain e t=whenO ((gt t (0:Int) Ty.zero).kind==4) tBool:=by unfold nPlain;rw[hk];rfl
  rw[m_ZbF_eq,cb_some,gg_pos c0,hp,Ty.h_eq]
  exact⟨_,rfl,whenO_ans _ _⟩
 ·rw[m_Zbo_eq,hk]
  simp only[show((16:Int)==(4:Int))=false from rfl,show((16:Int)==(5:Int))=false from rfl,show((16:Int)==(6:Int))=false from rfl,show((16:Int)==(8:Int))=false from rfl,show((16:Int)==(9:Int))=false from rfl,show((16:Int)==(11:Int))=false from rfl,show((16:Int)==(14:Int))=false from rfl,show((16:Int)==(15:Int))=false from rfl,show((16:Int)==(16:Int))=true from rfl,br_true,br_false]
  have e1:(shp e).1=1:=by unfold shp;rw[hk];rfl
  have hlt:t.length=1:=by omega
  have z0:((0:Nat):Int)=0:=rfl
  have w0:=v0 0 (by omega)
  have x0:=hv 0 (by omega)
  rw[z0]at w0 x0
  have c0:0<=(0:Int)∧(0:Int)<(t.length:Int):=by omega
  have hp:nPlain e t=whenO ((gt t (0:Int) Ty.zero).kind==4) tInt:=by unfold nPlain;rw[hk];rfl
  rw[m_ZbK_eq,cb_some,gg_pos c0,hp,Ty.h_eq]
  exact⟨_,rfl,whenO_ans _ _⟩
end Go.Q
