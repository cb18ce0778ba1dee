/- strings.Join: the library's contract, as an entry of a table. -/
import Derived.Test.YteidofmblfglkaaQe
import Derived.Test.YteidofmblfglkaaJnSh
import Derived.KernelRfl
set_option linter.unusedVariables false
set_option linter.unusedSimpArgs false
namespace Go.Q
open Go.Proofs Go.RowKit
def m_Zaq(nf:Nat)(xs:List Str)(sep:Str):Option Str:=gg ((Lib.join xs sep).length<=140737488355328∧xs.length<=140737488355328) (some (Lib.join xs sep))
def baOf(s:Str):ByteArray:=⟨s.toArray⟩
theorem Ext_below{w w':World}(h:Below w.heap.size w w'):Ext (fun _=>none) w (fun _=>none) w':=⟨h.os,h.tape,h.output,h.size,fun b hb _=>⟨rfl,h.block b hb⟩⟩
theorem str_res{G:Gd}{w':World}{s:Str}(h:s.length<=maxLen):ResR G (fun _=>none) w' (.v kS s) (.string ⟨s.toArray⟩):=by
 refine⟨fun _=>undef,?_,fun l o h=>by simp[RA.intro,lo]at h⟩
 exact RepV_str.2 ⟨rfl,h⟩
noncomputable def e_Zaq(nf:Nat):XE:=eF 55 [.v (kL kS),.v kS] [.v kS] (fun t=>m_Zaq nf t.1 t.2.1)
theorem o_Zaq(nf:Nat):conOK Try.prog 55 (e_Zaq nf).con:=by
 refine eF_ok fun t x h=> ?_
 obtain⟨xs,sep,_⟩:=t
 obtain⟨⟨hj,hn⟩,h⟩:=gg_some h
 have hx:x=(Lib.join xs sep:Str):=by cases h;rfl
 subst hx
 show Sp Try.prog 55 [.v (kL kS) xs,.v kS sep] (.v kS (Lib.join xs sep))
 refine⟨by kernel_rfl,fun F w us hF hL hargs=> ?_,fun _ _ _ h=>(by cases h),fun _ _ _ _ _ _ h=>(by cases h)⟩
 obtain⟨u,r,rfl,hu,hr⟩:=hargs
 obtain⟨u2,r2,rfl,hu2,hr2⟩:=hr
 cases hr2
 obtain⟨A,cap,rfl,h1,h2,hel⟩:=RepV_slice.1 hu
 obtain⟨rfl,_⟩:=RepV_str.1 hu2
 have hj':(Lib.join xs sep).length<=140737488355328:=hj
 have hlm:(Lib.join xs sep).length<=maxLen:=Nat.le_trans hj' (by decide)
 cases xs with
 |nil=>
  refine(Try.strings_Join_none A cap ⟨sep.toArray⟩ w).mono ?_
  rintro e w' ⟨rfl,rfl⟩
  exact⟨_,fun _=>none,rfl,str_res hlm,Ext.refl _ _⟩
 |cons x xs=>
  obtain⟨ad,es,e1,hFa,hl,hc,hx⟩:=hel 0 (Nat.zero_lt_succ _)
  obtain⟨bk,o,spot⟩:=ad
  have hcell:∀i (hi:i<(x::xs).length),w.cell? ((⟨bk,o,spot⟩:Addr).add i)=some (.string ⟨((x::xs)[i]).toArray⟩):=by
   intro i hi
   obtain⟨ad',es',e1',_,hl',hc',hx'⟩:=hel i hi
   rw[e1]at e1'
   cases e1'
   have h3:=(Kx_str.1 hx').1
   subst h3
   have:=hc' 0 _ rfl
   simpa[Ki.sz,Addr.add]using this
  have hspot:spot=none:=by
   have:=hcell 0 (Nat.zero_lt_succ _)
   exact World.cell?_spot (by simpa[Addr.add]using this)
  subst hspot
  subst e1
  have hb:bk<w.heap.size:=hF _ hFa
  have key:=Try.strings_Join bk o cap ((x::xs).map baOf) ⟨sep.toArray⟩ w (fun j y hj=>by
   simp only[List.getElem?_map,Option.map_eq_some_iff]at hj
   obtain⟨s,hs,rfl⟩:=hj
   obtain⟨hlt,rfl⟩:=List.getElem?_eq_some_iff.1 hs
   have:=hcell j hlt
   rw[Addr.add_lit]at this
   exact this) hb (by simpa using hn) (by simpa using h1) (by simpa[baOf,Function.comp_def]using hj)
  have e:((x::xs).map baOf).map (fun b=>b.data.toList)=x::xs:=by simp[baOf,Function.comp_def]
  rw[e]at key
  simp only[List.length_map]at key
  refine key.mono ?_
  rintro e w' ⟨rfl,hbel⟩
  exact⟨_,fun _=>none,rfl,str_res hlm,Ext_below hbel⟩
end Go.Q
