/- Typing: the reference's side. -/
import Derived.Test.YtmkelbchboiliaaGreatV8p
set_option linter.unusedVariables false
set_option linter.unusedSimpArgs false
set_option maxHeartbeats 2000000
namespace Go.Q
def AnsZ(r:Ty×Bool)(o:Option Ty):Prop:=Ans r o∧(o=none->r.1=Ty.mk 0 [] [])
theorem zZero:zTy (Ty.mk 0 [] [])=0:=by rw[zTy_f];simp[Ty.labels,Ty.args,szL]
theorem cb_pair(o:Option (Ty×Bool)):(cb o fun r=>some (Ty.h r.1,r.2))=o:=by
 cases o with
 |none=>rfl
 |some r=>rw[cb_some,Ty.h_eq]
theorem some_loop(nf kf:Nat)(s:Schema)(ctx:List Typing)(e:Tm)(f:Tm->Option Ty)(g:List Ty->Option Ty)(hof:∀i,i<e.args.length->∃r,m_Zbt nf kf s ctx (gt e.args (i:Int) Tm.zero)=some r∧Ans r (f (gt e.args (i:Int) Tm.zero)))
  (hg:∀ts,mapO f e.args=some ts->∃r,m_Zbo nf e ts=some r∧Ans r (g ts)) (hl:e.args.length+1<nf) (hb:e.args.length<=16777216):
  ∃r,l28_Zbs nf (kf+1) nf ctx s e (0:Int) ([]:List Ty)=some r∧Ans r ((mapO f e.args).bind g):=by
 refine for_rel (fun m i (y:List Ty)=>l28_Zbs nf (kf+1) m ctx s e i y) e.args.length (fun i y=>mapO f (e.args.take i)=some y) (fun r=>Ans r ((mapO f e.args).bind g)) (fun m i y hi hI=> ?_) (fun m y hI=> ?_) nf [] (by omega) rfl
 ·have c0:(i:Int)<(e.args.length:Int):=by omega
  have c1:0<=(i:Int)∧(i:Int)<(e.args.length:Int):=by omega
  obtain⟨r,e1,h1,h2⟩:=hof i hi
  have hlen:=mapO_len hI
  rw[List.length_take]at hlen
  rw[l28_Zbs_eq,br_pos c0,gg_pos c1,e1,cb_some,mark_eq,w64_nat (n:=i) (by omega),Ty.h_eq]
  cases hf:f (gt e.args (i:Int) Tm.zero)with
  |none=>
   rw[hf]at h1
   refine .inl ⟨(Ty.mk 0 [] [],false),by rw[h1];rfl,?_⟩
   rw[mapO_none f e.args hi hf]
   exact ans_false _
  |some t=>
   rw[hf]at h1 h2
   refine .inr ⟨y++[t],?_,?_⟩
   ·rw[mapO_take f e.args hi,hI,hf];rfl
   ·rw[h1,h2 t rfl]
    simp only[Option.isSome,Bool.not_true,br_false]
    rw[gg_pos (by simp;omega)]
 ·have c0:¬(e.args.length:Int)<(e.args.length:Int):=by omega
  rw[List.take_length]at hI
  obtain⟨r,e1,h1⟩:=hg y hI
  refine⟨r,by rw[l28_Zbs_eq,br_neg c0,mark_eq,j49_Zbs_eq,Tm.h_eq,e1,cb_some,Ty.h_eq],?_⟩
  rw[hI]
  exact h1
theorem T_spec(nf:Nat)(hn:200000000<nf)(s:Schema)(hS:8*zSchema s+1<nf)(hSb:zSchema s<=16777216)(hR:∀x∈s.tables,nVal x.row=true):
  ∀(d kf:Nat) (ctx:List Typing) (e:Tm),3*d+3<=kf->nDepT e<=d->Cx ctx d->nFormT e=true->8*zTm e+1<nf->zTm e<=16777216->∃r,m_Zbt nf kf s ctx e=some r∧AnsZ r (nT s d ctx e)
 |0,kf,ctx,e,_,hd,_,_,_,_=>by
  have:=nDepT_eq e
  omega
 |d+1,kf0,ctx,e,hk,hd,hC,hF,hz,hzb=>by
  obtain⟨k,rfl⟩:∃k,kf0=k+3:=⟨kf0-3,by omega⟩
  have hde:=nDepT_eq e
  have hze:=zTm_f e
  have hlen:=zTm_len e
  rw[nFormT_eq,Bool.and_eq_true]at hF
  obtain⟨hN,hA⟩:=hF
  have hL:=node_len hN
  have hO:=node_ok hN
  have ih:∀(kf:Nat) (ctx:List Typing) (i:Nat),i<e.args.length->3*d+3<=kf->Cx ctx d->∃r,m_Zbt nf kf s ctx (gt e.args (i:Int) Tm.zero)=some r∧AnsZ r (nT s d ctx (gt e.args (i:Int) Tm.zero)):=fun kf ctx i hi hkf hc=>by
   have h1:=nDepTL_at e.args hi
   have h2:=zTm_at e hi
   exact T_spec nf hn s hS hSb hR d kf ctx _ hkf (by omega) hc (all_at hA hi Tm.zero) (by omega) (by omega)
  have hC0:Cx ctx d:=⟨by have:=hC.len;omega,hC.val⟩
  have hcl:ctx.length<=8000000:=by have:=hC.len;omega
  have z0:((0:Nat):Int)=0:=rfl
  have z1:((1:Nat):Int)=1:=rfl
  have b10:(e.kind==(10:Int))=decide (e.kind=10):=rfl
  have b13:(e.kind==(13:Int))=decide (e.kind=13):=rfl
  have hform:∃r,m_Zbs nf (k+2) s ctx e=some r∧Ans r (formO s d ctx e):=by
   have leaf:e.args.length=0->¬e.kind=13->¬e.kind=10->m_Zbs nf (k+2) s ctx e=m_Zbp nf s ctx e:=fun h0 h1 h2=>by
    have h3:((e.args.length:Int)==(0:Int))=true:=by simp[h0]
    rw[m_Zbs_eq,b13,decide_eq_false h1,br_ff2,mark_eq,b10,decide_eq_false h2,j5_Zbs_eq,br_false,h3,br_true,Tm.h_eq]
    exact cb_pair _
   have bind:e.kind=13∨e.kind=10->m_Zbs nf (k+2) s ctx e=m_Zbn nf (k+1) s ctx e:=fun h=>by
    have h5:j5_Zbs nf (k+2) ctx s e true=m_Zbn nf (k+1) s ctx e:=by
     rw[j5_Zbs_eq,br_true,Tm.h_eq]
     exact cb_pair _
    rw[m_Zbs_eq]
    rcases h with h|h
    ·rw[b13,decide_eq_true h,br_tf,mark_eq,h5]
    ·rw[b13,decide_eq_false (by omega),br_ff2,b10,decide_eq_true h,mark_eq,h5]
   rcases node_kind hN with hk|hk|hk|hk|hk|hk|hk|hk
   ·have hp:formO s d ctx e=(okO (lookN e.name ctx ctx.length)):=by unfold formO;rw[hk];rfl
    have e1:(shp e).1=0:=by unfold shp;rw[hk];rfl
    rw[leaf (by omega) (by omega) (by omega),m_Zbp_eq,hk,hp]
    simp only[show((1:Int)==(1:Int))=true from rfl,show((1:Int)==(2:Int))=false from rfl,show((1:Int)==(3:Int))=false from rfl,show((1:Int)==(7:Int))=false from rfl,br_true,br_false]
    rw[p_specLook nf ctx e.name (fun i hi=>by have:=val_z (hC.val i hi);omega) hcl hn,cb_some,Ty.h_eq]
    generalize lookN e.name ctx ctx.length=r
    obtain⟨t,b⟩:=r
    exact⟨_,rfl,whenO_ans b t⟩
   ·have hp:formO s d ctx e=(some tInt):=by unfold formO;rw[hk];rfl
    have e1:(shp e).1=0:=by unfold shp;rw[hk];rfl
    rw[leaf (by omega) (by omega) (by omega),m_Zbp_eq,hk,hp]
    simp only[show((2:Int)==(1:Int))=false from rfl,show((2:Int)==(2:Int))=true from rfl,show((2:Int)==(3:Int))=false from rfl,show((2:Int)==(7:Int))=false from rfl,br_true,br_false]
    rw[m_ZbK_eq,cb_some,Ty.h_eq]
    exact⟨_,rfl,rfl,fun _ h=>by cases h;rfl⟩
   ·have hp:formO s d ctx e=(some tBool):=by unfold formO;rw[hk];rfl
    have e1:(shp e).1=0:=by unfold shp;rw[hk];rfl
    rw[leaf (by omega) (by omega) (by omega),m_Zbp_eq,hk,hp]
    simp only[show((3:Int)==(1:Int))=false from rfl,show((3:Int)==(2:Int))=false from rfl,show((3:Int)==(3:Int))=true from rfl,show((3:Int)==(7:Int))=false from rfl,br_true,br_false]
    rw[m_ZbF_eq,cb_some,Ty.h_eq]
    exact⟨_,rfl,rfl,fun _ h=>by cases h;rfl⟩
   ·have hp:formO s d ctx e=((rowO e.name s.tables).map tBag):=by unfold formO;rw[hk];rfl
    have e1:(shp e).1=0:=by unfold shp;rw[hk];rfl
    rw[leaf (by omega) (by omega) (by omega),m_Zbp_eq,hk,hp]
    simp only[show((12:Int)==(1:Int))=false from rfl,show((12:Int)==(2:Int))=false from rfl,show((12:Int)==(3:Int))=false from rfl,show((12:Int)==(7:Int))=false from rfl,br_true,br_false]
    rw[p_specRowType nf s e.name hS hSb,cb_some,Ty.h_eq]
    cases hr:rowO e.name s.tables with
    |none=>
     have:zTy (ansO none).1=0:=zZero
     rw[p_specBag nf _ (by omega) (by omega),cb_some]
     exact⟨_,rfl,ans_false _⟩
    |some u=>
     obtain⟨x,hx,hu⟩:=rowO_some hr
     have hzu:=val_z (hR x hx)
     rw[hu]at hzu
     rw[show(ansO (some u)).1=u from rfl,show(ansO (some u)).2=true from rfl,p_specBag nf u (show 8*zTy u+1<nf by omega) (show zTy u<=16777216 by omega),cb_some,Ty.h_eq]
     exact⟨_,rfl,rfl,fun _ h=>by cases h;rfl⟩
   ·have hp:formO s d ctx e=(some (tBag e.type)):=by unfold formO;rw[hk];rfl
    have e1:(shp e).1=0:=by unfold shp;rw[hk];rfl
    rw[leaf (by omega) (by omega) (by omega),m_Zbp_eq,hk,hp]
    simp only[show((7:Int)==(1:Int))=false from rfl,show((7:Int)==(2:Int))=false from rfl,show((7:Int)==(3:Int))=false from rfl,show((7:Int)==(7:Int))=true from rfl,br_true,br_false]
    have hzt:=val_z (node_type hN (.inl hk))
    rw[Ty.h_eq,p_specBag nf _ (by omega) (by omega),cb_some,Ty.h_eq]
    exact⟨_,rfl,rfl,fun _ h=>by cases h;rfl⟩
   ·have hp:formO s d ctx e=((nT s d ctx (gt e.args (0:Int) Tm.zero)).bind fun a=>if a.kind=4 then(nT s d (ctx++[⟨e.name,gt a.args (0:Int) Ty.zero⟩]) (gt e.args (1:Int) Tm.zero)).bind fun b=>whenO (b.kind==4) b else none):=by unfold formO;rw[hk];rfl
    have e1:(shp e).1=2:=by unfold shp;rw[hk];rfl
    have c0:0<=(0:Int)∧(0:Int)<(e.args.length:Int):=by omega
    have c1:0<=(1:Int)∧(1:Int)<(e.args.length:Int):=by omega
    obtain⟨r,er,⟨h1,h2⟩,_⟩:=ih k ctx 0 (by omega) (by omega) hC0
    rw[z0]at er h1 h2
    rw[bind (.inr hk),hp,m_Zbn_eq,b13,decide_eq_false (by omega),br_false,gg_pos c0,er,cb_some]
    have h17:j17_Zbn nf (k+1) ctx s e r true=some (Ty.mk (0:Int) ([]:List Str) ([]:List Ty),false):=by rw[j17_Zbn_eq,br_true]
    cases ha:nT s d ctx (gt e.args (0:Int) Tm.zero)with
    |none=>
     rw[ha]at h1
     rw[h1,show(!(none:Option Ty).isSome)=true from rfl,br_tf,mark_eq,h17]
     exact⟨_,rfl,ans_false _⟩
    |some a=>
     rw[ha]at h1 h2
     have hva:=nT_val ha
     have h3:=h2 a rfl
     rw[h1,show(!(some a:Option Ty).isSome)=false from rfl,br_ff2,h3,mark_eq]
     simp only[Option.bind_some]
     by_cases h4:a.kind=4
     ·have hl1:=form_bag (val_form hva) h4
      have d0:0<=(0:Int)∧(0:Int)<(a.args.length:Int):=by omega
      have hv0:=val_at hva (i:=0) (by omega)
      rw[z0]at hv0
      have h4b:(!(a.kind==(4:Int)))=false:=by simp[h4]
      obtain⟨r2,er2,⟨g1,g2⟩,_⟩:=ih k (ctx++[⟨e.name,gt a.args (0:Int) Ty.zero⟩]) 1 (by omega) (by omega) (hC.snoc e.name hv0)
      rw[z1]at er2 g1 g2
      rw[if_pos h4,h4b,j17_Zbn_eq,br_false,h3,gg_pos d0,p_l10With nf ctx e.name _ hcl,cb_some,gg_pos c1,er2,cb_some]
      simp only[Ty.h_eq]
      cases hb:nT s d (ctx++[⟨e.name,gt a.args (0:Int) Ty.zero⟩]) (gt e.args (1:Int) Tm.zero)with
      |none=>
       rw[hb]at g1
       rw[g1]
       exact⟨_,rfl,ans_false _⟩
      |some b=>
       rw[hb]at g1 g2
       rw[g1,g2 b rfl]
       exact⟨_,rfl,whenO_ans _ _⟩
     ·have h4b:(!(a.kind==(4:Int)))=true:=by simp[h4]
      rw[if_neg h4,h4b,h17]
      exact⟨_,rfl,ans_false _⟩
   ·have hp:formO s d ctx e=((nT s d (ctx++[⟨e.name,e.type⟩]) (gt e.args (0:Int) Tm.zero)).map fun b=>.mk 5 [] [e.type,b]):=by unfold formO;rw[hk];rfl
    have e1:(shp e).1=1:=by unfold shp;rw[hk];rfl
    have c0:0<=(0:Int)∧(0:Int)<(e.args.length:Int):=by omega
    have hvt:=node_type hN (.inr hk)
    have hzt:=val_z hvt
    obtain⟨r,er,⟨h1,h2⟩,h3⟩:=ih k (ctx++[⟨e.name,e.type⟩]) 0 (by omega) (by omega) (hC.snoc e.name hvt)
    rw[z0]at er h1 h2 h3
    rw[bind (.inl hk),hp,m_Zbn_eq,b13,decide_eq_true hk,br_true,Ty.h_eq,p_l10With nf ctx e.name _ hcl,cb_some,gg_pos c0,er,cb_some,Ty.h_eq,m_ZbI_eq,Ty.h_eq,p_l3Copy nf nf _ (by omega) (by omega) (by omega),cb_some,Ty.h_eq]
    cases hb:nT s d (ctx++[⟨e.name,e.type⟩]) (gt e.args (0:Int) Tm.zero)with
    |none=>
     rw[hb]at h1 h3
     have hz3:zTy r.1=0:=by rw[h3 rfl];exact zZero
     rw[p_l3Copy nf nf r.1 (by omega) (by omega) (by omega),cb_some,cb_some]
     exact⟨_,rfl,h1,fun _ h=>by cases h⟩
    |some b=>
     rw[hb]at h1 h2
     have hzb:=val_z (nT_val hb)
     rw[h2 b rfl,p_l3Copy nf nf b (by omega) (by omega) (by omega),cb_some,cb_some,Ty.h_eq]
     exact⟨_,rfl,h1,fun _ h=>by cases h;rfl⟩
   ·have hp:formO s d ctx e=(mapO (nT s d ctx) e.args).bind (nPlain e):=by
     unfold formO
     rcases hk with hk|hk|hk|hk|hk|hk|hk|hk|hk<;>(rw[hk];rfl)
    have hpos:0<(e.args.length:Int):=by
     rcases hk with hk|hk|hk|hk|hk|hk|hk|hk|hk
     ·have e1:shp e=(arity e.name,true,false,decide (0<arity e.name)):=by unfold shp;rw[hk];rfl
      rw[e1]at hL hO
      simp only[decide_eq_true_eq]at hL hO
      omega
     ·have e1:shp e=((e.labels.length:Int),false,false,nLab e.labels):=by unfold shp;rw[hk];rfl
      rw[e1]at hL hO
      simp only at hL hO
      simp only[nLab,Bool.and_eq_true,decide_eq_true_eq]at hO
      omega
     all_goals
      have e1:1<=(shp e).1:=by unfold shp;simp[hk]
      omega
    have hb0:((e.args.length:Int)==(0:Int))=false:=by
     have:¬(e.args.length:Int)=0:=by omega
     simpa using this
    have hm:m_Zbs nf (k+2) s ctx e=l28_Zbs nf (k+2) nf ctx s e (0:Int) ([]:List Ty):=by
     rw[m_Zbs_eq,b13,decide_eq_false (by omega),br_ff2,mark_eq,b10,decide_eq_false (by omega),j5_Zbs_eq,br_false,hb0,br_false,mark_eq]
    rw[hm,hp]
    refine some_loop nf (k+1) s ctx e (nT s d ctx) (nPlain e) (fun i hi=> ?_) (fun ts hts=> ?_) (by omega) (by omega)
    ·obtain⟨r,er,h1,_⟩:=ih (k+1) ctx i hi (by omega) hC0
     exact⟨r,er,h1⟩
    ·have hv:=mapO_val (fun e t h=>nT_val h) hts
     exact p_specPlain nf e ts hN (mapO_len hts) (fun i hi=>hv _ (gt_mem ts hi _)) hk (by omega) hn
  obtain⟨r,er,h1,h2⟩:=hform
  have hN':=hN
  have h7:∀b,j7_Zbt nf (k+3) r b=some (if b=true then(Ty.mk (0:Int) ([]:List Str) ([]:List Ty),false)else(r.1,true)):=fun b=>by
   rw[j7_Zbt_eq,Ty.h_eq];cases b<;>rfl
  rw[nT_succ,m_Zbt_eq,Tm.h_eq,er,cb_some]
  simp only[h7,mark_eq,Ty.h_eq]
  cases hf:formO s d ctx e with
  |none=>
   rw[hf]at h1
   rw[h1]
   exact⟨_,rfl,ans_false _,fun _=>rfl⟩
  |some t=>
   rw[hf]at h1 h2
   have hb:=form_bd hR hC.val hN' hf
   have h3:=h2 t rfl
   rw[h1,h3,p_specValid nf t (by omega) (by omega),cb_some]
   refine⟨_,rfl,?_⟩
   cases hv:nVal t with
   |false=>
    have:vO (some t)=none:=by simp[vO,whenO,hv]
    rw[this]
    exact⟨ans_false _,fun _=>rfl⟩
   |true=>
    have:vO (some t)=some t:=by simp[vO,whenO,hv]
    rw[this]
    exact⟨⟨rfl,fun _ h=>by cases h;rfl⟩,fun h=>by cases h⟩
end Go.Q
