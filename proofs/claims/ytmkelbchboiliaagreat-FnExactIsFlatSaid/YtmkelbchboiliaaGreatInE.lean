/- impl.inCtx: its contract, as an entry of a table. -/
import Derived.Test.YtmkelbchboiliaaGreatInD
set_option linter.unusedVariables false
set_option linter.unusedSimpArgs false
namespace Go.Q
open Go.Proofs Go.RowKit Inx
def lookN(nm:Str)(ctx:List Typing):Nat->Ty×Bool
 |0=>(Ty.zero,false)
 |k+1=>if(gt ctx (k:Int) Typing.zero).name=nm then((gt ctx (k:Int) Typing.zero).type,true)else lookN nm ctx k
def m_ZE(nf:Nat)(ctx:List Typing)(name:Str):Option (Ty×Bool):=some (lookN name ctx ctx.length)
section
variable {F:Nat->Prop} {w:World}
theorem el_of{t:Typing}{es:List Value}(h:Kx F w (kR 8) t es):∃e:Inx.El,es=[.string e.s,.int .i64 e.k,.slice e.a1 e.n1 e.c1,.slice e.a2 e.n2 e.c2]∧e.s=⟨t.name.toArray⟩∧Kx F w (kR 0) t.type [.int .i64 e.k,.slice e.a1 e.n1 e.c1,.slice e.a2 e.n2 e.c2]:=by
 obtain⟨a,b,rfl,_,h1,a2,b2,rfl,_,h2,rfl⟩:=Kx_struct.1 h
 obtain⟨rfl,_⟩:=Kx_str.1 h1
 have h2':=h2
 obtain⟨c,d,rfl,_,k1,c2,d2,rfl,_,k2,c3,d3,rfl,_,k3,rfl⟩:=Kx_struct.1 h2
 obtain⟨rfl,_⟩:=Kx_int.1 k1
 obtain⟨A1,cap1,rfl,_⟩:=Kx_slice.1 k2
 obtain⟨A2,cap2,rfl,_⟩:=Kx_slice.1 k3
 refine⟨⟨⟨t.name.toArray⟩,_,A1,_,cap1,A2,_,cap2⟩,rfl,rfl,?_⟩
 rw[List.append_nil]at h2'
 exact h2'
theorem ba_str{s t:Str}:(⟨s.toArray⟩:ByteArray)=⟨t.toArray⟩↔s=t:=by
 constructor
 ·intro h
  have:=congrArg (fun b:ByteArray=>b.data.toList) h
  simpa using this
 ·rintro rfl;rfl
noncomputable def e_ZE(nf:Nat):XE:=eF 82 [.v (kL (kR 8)),.v kS] [.v (kR 0),.v .bool] (fun t=>m_ZE nf t.1 t.2.1)
theorem o_ZE(nf:Nat):conOK Tryz.prog 82 (e_ZE nf).con:=by
 refine eF_ok fun t x h=> ?_
 obtain⟨ctx,name,_⟩:=t
 have hx:x=lookN name ctx ctx.length:=by cases h;rfl
 subst hx
 show Sp Tryz.prog 82 [.v (kL (kR 8)) ctx,.v kS name] (.t [.v (kR 0) (lookN name ctx ctx.length).1,.v .bool (lookN name ctx ctx.length).2])
 refine⟨by kernel_rfl,fun F w us hF hL hargs=> ?_,fun _ _ _ h=>(by cases h),fun _ _ _ _ _ _ h=>(by cases h)⟩
 obtain⟨u,r,rfl,hu,hr⟩:=hargs
 obtain⟨u2,r2,rfl,hu2,hr2⟩:=hr
 cases hr2
 obtain⟨A,cap,rfl,hc1,hc2,hel⟩:=RepV_slice.1 hu
 obtain⟨rfl,_⟩:=RepV_str.1 hu2
 have hex:∀j,∃e:Inx.El,∀hj:j<ctx.length,e.s=⟨(gt ctx (j:Int) Typing.zero).name.toArray⟩∧Kx F w (kR 0) (gt ctx (j:Int) Typing.zero).type [.int .i64 e.k,.slice e.a1 e.n1 e.c1,.slice e.a2 e.n2 e.c2]∧
   ∃b off,A=some ⟨b,off,none⟩∧b<w.heap.size∧At w b (off+j*4) e:=fun j=>by
  by_cases hj:j<ctx.length
  ·obtain⟨ad,es,eA,hFa,hl,hcs,hk⟩:=hel j hj
   rw[<-gt_at ctx j hj Typing.zero]at hk
   obtain⟨e,rfl,h1,h2⟩:=el_of hk
   refine⟨e,fun _=>⟨h1,h2,?_⟩⟩
   obtain⟨b,off,spot⟩:=ad
   have hsp:spot=none:=by
    obtain⟨ad0,es0,eA0,_,hl0,hcs0,hk0⟩:=hel 0 (by omega)
    rw[eA]at eA0
    cases eA0
    obtain⟨e0,rfl,_,_⟩:=el_of hk0
    have:=hcs0 0 _ rfl
    exact World.cell?_spot (by simpa[Addr.add]using this)
   subst hsp
   have at_:∀(i:Nat) v,[Value.string e.s,.int .i64 e.k,.slice e.a1 e.n1 e.c1,.slice e.a2 e.n2 e.c2][i]? =some v->w.cell? ⟨b,off+j*4+i,none⟩=some v:=fun i v hv=>by
    have:=hcs i v hv
    rw[Addr.add_lit,Addr.add_lit]at this
    exact this
   exact⟨b,off,eA,hF _ hFa,⟨at_ 0 _ rfl,at_ 1 _ rfl,at_ 2 _ rfl,at_ 3 _ rfl⟩⟩
  ·exact⟨⟨⟨#[]⟩,0,none,0,0,none,0,0⟩,fun h=>absurd h hj⟩
 obtain⟨zs,hzs⟩:∃zs:Nat->Inx.El,∀j (hj:j<ctx.length),(zs j).s=⟨(gt ctx (j:Int) Typing.zero).name.toArray⟩∧Kx F w (kR 0) (gt ctx (j:Int) Typing.zero).type [.int .i64 (zs j).k,.slice (zs j).a1 (zs j).n1 (zs j).c1,.slice (zs j).a2 (zs j).n2 (zs j).c2]∧
   ∃b off,A=some ⟨b,off,none⟩∧b<w.heap.size∧At w b (off+j*4) (zs j):=⟨fun j=>Classical.choose (hex j),fun j hj=>Classical.choose_spec (hex j) hj⟩
 have hEls:Els w.heap.size w (.slice A ctx.length cap) ctx.length zs:=by
  by_cases h0:ctx.length=0
  ·rw[h0];exact .inl ⟨A,cap,rfl,rfl⟩
  ·obtain⟨b,off,hA,hb,_⟩:=(hzs 0 (by omega)).2.2
   refine .inr ⟨b,off,cap,by rw[hA],hb,fun j hj=> ?_⟩
   obtain⟨b',off',hA',_,hat⟩:=(hzs j hj).2.2
   rw[hA]at hA'
   cases hA'
   exact hat
 have hmax:(ctx.length:Int)<=9223372036854775807:=by
  have:maxLen<=9223372036854775807:=by decide
  omega
 have hcall:=callsIn_wide.1 (inCtx_in Fence.wide 3 trivial trivial trivial rfl (by omega) A ctx.length cap ⟨name.toArray⟩ zs hmax w hEls)
 refine hcall.mono ?_
 rintro e w' ⟨rfl,hB⟩
 have hfind:∀k,k<=ctx.length->∃cs,findB zs ⟨name.toArray⟩ k= .tuple #[.agg cs.toArray,.bool (lookN name ctx k).2]∧Kx F w (kR 0) (lookN name ctx k).1 cs:=by
  intro k
  induction k with
  |zero=>
   intro _
   refine⟨[.int .i64 0,.slice none 0 0,.slice none 0 0],rfl,?_⟩
   exact Kx_struct.2 ⟨[.int .i64 0],_,rfl,rfl,Kx_int.2 ⟨rfl,(⟨by decide,by decide⟩:inR .i64 0)⟩,[.slice none 0 0],_,rfl,rfl,Kx_slice.2 ⟨none,0,rfl,Nat.le_refl 0,Nat.zero_le _,fun i hi=>absurd hi (Nat.not_lt_zero _)⟩,[.slice none 0 0],[],rfl,rfl,Kx_slice.2 ⟨none,0,rfl,Nat.le_refl 0,Nat.zero_le _,fun i hi=>absurd hi (Nat.not_lt_zero _)⟩,rfl⟩
  |succ k ih=>
   intro hk
   obtain⟨h1,h2,_⟩:=hzs k (by omega)
   unfold findB lookN
   by_cases hn:(gt ctx (k:Int) Typing.zero).name=name
   ·rw[if_pos hn,if_pos (by rw[h1,hn])]
    exact⟨_,rfl,h2⟩
   ·rw[if_neg hn,if_neg (by rw[h1];exact fun e=>hn (ba_str.1 e))]
    exact ih (by omega)
 obtain⟨cs,hf,hk⟩:=hfind ctx.length (Nat.le_refl _)
 refine⟨_,fun _=>none,rfl,⟨fun _=>undef,?_,fun l o h=>by simp[RA.intro,introL,lo]at h⟩,⟨hB.os,hB.tape,hB.output,hB.size,fun b hlt _=>⟨rfl,hB.block b hlt⟩⟩⟩
 rw[hf]
 simp only[RA.intro,introL,RepV]
 refine⟨[.agg cs.toArray,.bool (lookN name ctx ctx.length).2],rfl,_,_,rfl,?_,_,_,rfl,?_,rfl⟩
 ·simp only[RepU,AV.isS,if_true,RepC]
  refine⟨cs,rfl,hk.keep fun b hb=>⟨⟨rfl,?_,.inl hb⟩,hB.block b (hF b hb)⟩⟩
  exact Nat.lt_of_lt_of_le (hF b hb) hB.size
 ·simp only[RepU,AV.isS,Bool.false_eq_true,if_false,RepC]
  exact Kx_bool.2 rfl
end
end Go.Q
