/- impl.inCtx: a range over slices.Backward. -/
import Derived.Test.YtmkelbchboiliaaGreatQe
import Derived.RangeFuncNested
import Derived.RangeFuncBound
import Derived.RangeFuncCalls
import Derived.RangeFuncLeaves
import Derived.Shelf.Abstract
import Derived.Shelf.RegionOpen
import Derived.WalkKit
import Derived.OwnWalkIn
import Derived.TacticsInMore
import Derived.LoopNIn
import Derived.LoopIn
import Derived.Test.YtmkelbchboiliaaGreatProg
set_option linter.unusedVariables false
set_option linter.unusedSimpArgs false
namespace Go.Q.Inx
open Go.Proofs Go.RowKit Go.Shelf
attribute [local go_sem] Oper.semAt_some
def upto{α:Type}(f:Nat->α)(k:Nat):List α:=(List.range k).map f
theorem upto_succ{α:Type}(f:Nat->α)(k:Nat):upto f (k+1)=upto f k++[f k]:=by simp[upto,List.range_succ]
theorem upto_length{α:Type}(f:Nat->α)(k:Nat):(upto f k).length=k:=by simp[upto]
structure El where
 s:ByteArray
 k:Int
 a1:Option Addr
 n1:Nat
 c1:Nat
 a2:Option Addr
 n2:Nat
 c2:Nat
def El.v(e:El):Value:=.agg #[.string e.s,.int .i64 e.k,.slice e.a1 e.n1 e.c1,.slice e.a2 e.n2 e.c2]
structure At (W:World) (b off:Nat) (e:El):Prop where
 c0:W.cell? ⟨b,off,none⟩=some (.string e.s)
 c1:W.cell? ⟨b,off+1,none⟩=some (.int .i64 e.k)
 c2:W.cell? ⟨b,off+2,none⟩=some (.slice e.a1 e.n1 e.c1)
 c3:W.cell? ⟨b,off+3,none⟩=some (.slice e.a2 e.n2 e.c2)
theorem At.below{n₀:Nat}{A B:World}(h:Below n₀ A B){b off:Nat}{e:El}(hb:b<n₀)(k:At A b off e):At B b off e:=
 ⟨(h.cell (p:=⟨b,_,none⟩) hb).trans k.c0,(h.cell (p:=⟨b,_,none⟩) hb).trans k.c1,(h.cell (p:=⟨b,_,none⟩) hb).trans k.c2,(h.cell (p:=⟨b,_,none⟩) hb).trans k.c3⟩
set_option maxRecDepth 100000 in
set_option maxHeartbeats 2000000 in
theorem back1_in(F:Fence)(n:Nat)(h7:F.fn 153)(hro:F.round=none)(hn:1<=n)(l Bs n₀ b off len cap:Nat)(zs:Nat->El)(hlen:(len:Int)<=9223372036854775807)(hb:b<n₀)(J Jx:List (Nat×El)->World->Prop)
  (hY:∀pre x W,J pre W->pre.length<len->YieldAt F (n-1) Tryz.prog l #[.int .i64 (x.1:Int),x.2.v] W fun e W'=>
   (e= .returned (.bool true)∧J (pre++[x]) W'∧Below n₀ W W')∨(e= .returned (.bool false)∧Jx (pre++[x]) W'))
  (W:World) (hBs:W.cell? ⟨Bs,0,none⟩=some (.slice (some ⟨b,off,none⟩) len cap)) (hBn:Bs<n₀) (hc:∀j,j<len->At W b (off+j*4) (zs j)) (h0:J [] W):
  CallsIn F n Tryz.prog 153 #[.func (.yield l) #[] #[],.pointer (some ⟨Bs,0,none⟩)] W fun e W'=>(∃v,e= .returned v)∧
   ((∃ys,ys=upto (fun k=>(len-1-k,zs (len-1-k))) len∧J ys W')∨(∃pre,(∃k,k<=len∧pre=upto (fun k=>(len-1-k,zs (len-1-k))) k)∧Jx pre W')):=by
 refine callsIn_of_wp Tryz.func153 rfl h7 ?_ hro
 simp only[Tryz.ntmps153,List.size_toArray,List.length_cons,List.length_nil,Nat.reduceAdd,Nat.reduceSub,Array.replicate_succ,Array.replicate_zero,List.push_toArray,List.append_toArray,List.nil_append,List.cons_append]
 gi_wp2
 gi_loopw [3] (fun i wr=>∃k:Nat,k<=len∧i= .int .i64 ((len:Int)-1-(k:Int))∧J (upto (fun k=>(len-1-k,zs (len-1-k))) k) wr∧Below n₀ W wr)
  (fun i _=>(intOf i+1).toNat)
 case atStart=>exact⟨0,Nat.zero_le _,by simp,h0,Below.refl _ _⟩
 case round=>
  obtain⟨k,hk,rfl,hJs,hnx⟩:=hrel
  by_cases hlt:k<len
  ·have hcx:=(hc (len-1-k) (by omega)).below hnx hb
   have hsl:=(hnx.cell (p:=⟨Bs,0,none⟩) hBn).trans hBs
   have hy0:=hY _ (len-1-k,zs (len-1-k)) wr hJs (by rw[upto_length];exact hlt)
   obtain⟨fn,tmps,assign,body,hy,hR⟩:=hy0
   dsimp only at hy
   have hi:((len-1-k:Nat):Int)=(len:Int)-1-(k:Int):=by omega
   rw[hi]at hy
   simp only[El.v]at hy
   have hpos:(0:Int)<=(len:Int)-1-(k:Int):=by omega
   obtain⟨c0,c1,c2,c3⟩:=hcx
   gi_wp2
   refine hR.mono ?_
   rintro e W3 (⟨rfl,hJ3,hk3⟩|⟨rfl,hJx3⟩)
   ·gi_wp2
    go_roundw
    case rel=>exact⟨k+1,by omega,by push_cast;congr 1;omega,by rw[upto_succ];exact hJ3,hnx.trans hk3⟩
    case measure=>simp[intOf];omega
   ·gi_wp2
    refine bodyPost_ret (results_none rfl _ _ _) rfl ?_
    exact⟨⟨_,rfl⟩,.inr ⟨_,⟨k+1,by omega,(upto_succ _ _).symm⟩,hJx3⟩⟩
  ·obtain rfl:k=len:=by omega
   have hsl:=(hnx.cell (p:=⟨Bs,0,none⟩) hBn).trans hBs
   gi_wp2
   go_end0
   exact⟨⟨_,rfl⟩,.inl ⟨_,rfl,hJs⟩⟩
set_option maxRecDepth 100000 in
set_option maxHeartbeats 1000000 in
theorem back1_nil_in(F:Fence)(n:Nat)(h7:F.fn 153)(hro:F.round=none)(l Bs cap:Nat)(A:Option Addr)(J:List (Nat×El)->World->Prop)(W:World)(hBs:W.cell? ⟨Bs,0,none⟩=some (.slice A 0 cap))(h0:J [] W):
  CallsIn F n Tryz.prog 153 #[.func (.yield l) #[] #[],.pointer (some ⟨Bs,0,none⟩)] W fun e W'=>(∃v,e= .returned v)∧J [] W':=by
 refine callsIn_of_wp Tryz.func153 rfl h7 ?_ hro
 simp only[Tryz.ntmps153,List.size_toArray,List.length_cons,List.length_nil,Nat.reduceAdd,Nat.reduceSub,Array.replicate_succ,Array.replicate_zero,List.push_toArray,List.append_toArray,List.nil_append,List.cons_append]
 gi_wp2
 gi_loopw [3] (fun i wr=>i= .int .i64 (-1)∧J [] wr) (fun _ _=>0)
 case atStart=>exact⟨rfl,h0⟩
 case round=>
  obtain⟨rfl,hJs⟩:=hrel
  gi_wp2
  go_end0
  exact⟨⟨_,rfl⟩,hJs⟩
set_option maxHeartbeats 1000000 in
theorem back_in(F:Fence)(n:Nat)(h5:F.fn 123)(hro:F.round=none)(a:Option Addr)(len cap:Nat)(w:World):
  CallsIn F n Tryz.prog 123 #[.slice a len cap] w fun e w'=>e= .returned (.func (.func 153) #[] #[.pointer (some ⟨w.heap.size,0,none⟩)])∧w'=w.alloc (.cells #[.slice a len cap] 84):=by
 refine callsIn_of_wp Tryz.func123 rfl h5 ?_ hro
 simp only[Tryz.ntmps123,List.size_toArray,List.length_cons,List.length_nil,Nat.reduceAdd,Nat.reduceSub,Array.replicate_succ,Array.replicate_zero,List.push_toArray,List.append_toArray,List.nil_append,List.cons_append]
 gi_wp2
 go_ret
 exact⟨rfl,rfl⟩
def Els(n₀:Nat)(W:World)(sv:Value)(len:Nat)(zs:Nat->El):Prop:=
 (∃A cap,sv= .slice A 0 cap∧len=0)∨∃b off cap,sv= .slice (some ⟨b,off,none⟩) len cap∧b<n₀∧∀j,j<len->At W b (off+j*4) (zs j)
theorem Els.below{n₀:Nat}{A B:World}(h:Below n₀ A B){sv:Value}{len:Nat}{zs:Nat->El}:Els n₀ A sv len zs->Els n₀ B sv len zs
 | .inl e=>.inl e
 | .inr ⟨b,off,cap,e,hb,hc⟩=>.inr ⟨b,off,cap,e,hb,fun j hj=>(hc j hj).below h hb⟩
theorem back_stops(F:Fence)(n:Nat)(h8:F.fn 153)(hro:F.round=none)(hn:1<=n)(Bs n₀:Nat)(sv:Value)(len:Nat)(zs:Nat->El)(hlen:(len:Int)<=9223372036854775807)(w:World)(hBs:Bs<n₀)(hn₀:n₀<=w.heap.size)
  (hc:w.cell? ⟨Bs,0,none⟩=some sv) (hI:Els n₀ w sv len zs):
  SeqStopsK F n Tryz.prog 153 #[.pointer (some ⟨Bs,0,none⟩)] (fun x:Nat×El=> #[Value.int .i64 (x.1:Int),x.2.v]) (Below n₀) (fun ys=>ys=upto (fun k=>(len-1-k,zs (len-1-k))) len)
   (fun pre=>∃k,k<=len∧pre=upto (fun k=>(len-1-k,zs (len-1-k))) k) len w:=fun l J Jx W hW _ _ hY h0=>by
 have hc':=(hW.cell (p:=⟨Bs,0,none⟩) (by show Bs<_;omega)).trans hc
 rcases hI.below (hW.mono hn₀)with⟨A,cap,rfl,rfl⟩|⟨b,off,cap,rfl,hb,hcs⟩
 ·exact(back1_nil_in F n h8 hro l Bs cap A J W hc' h0).mono fun e W' ⟨he,hj⟩=>⟨he,.inl ⟨_,rfl,hj⟩⟩
 ·exact back1_in F n h8 hro hn l Bs n₀ b off len cap zs hlen hb J Jx hY W hc' hBs hcs h0
def Bx(W:World)(B:Nat)(cs:Array Value)(t:TypeId):Prop:=W.heap[B]? =some (.cells cs t (0,0))
theorem Bx.own(B:Nat)(cs:Array Value)(t:TypeId){β:Type}:Go.Own (fun(_:β) W=>Bx W B cs t):=fun s X Y row hs hg hrow=>
 (grownBy_keeps_cells hg hrow hs rfl).trans hs
theorem Bx.lt{W:World}{B:Nat}{cs:Array Value}{t:TypeId}(h:Bx W B cs t):B<W.heap.size:=(Array.getElem?_eq_some_iff.1 h).1
theorem Bx.alloc{W:World}{B:Nat}{cs:Array Value}{t:TypeId}(h:Bx W B cs t)(o:Obj):Bx (W.alloc o) B cs t:=(Below.heap_alloc W o B h.lt).trans h
theorem Bx.new(W:World)(cs:Array Value)(t:TypeId):Bx (W.alloc (.cells cs t)) W.heap.size cs t:=World.alloc_heap_new W (.cells cs t)
theorem Bx.cell{W:World}{B:Nat}{cs:Array Value}{t:TypeId}(h:Bx W B cs t){i:Nat}{v:Value}(hv:cs[i]? =some v):W.cell? ⟨B,i,none⟩=some v:=by
 unfold Bx at h
 simp[World.cell?,h,hv]
theorem Bx.set{W:World}{B:Nat}{cs:Array Value}{t:TypeId}(h:Bx W B cs t)(i:Nat)(v:Value):Bx (W.setCell ⟨B,i,none⟩ v) B (cs.setIfInBounds i v) t:=by
 unfold Bx at h⊢
 simp[World.setCell,Array.getElem?_modify,h]
theorem Bx.other{W:World}{B:Nat}{cs:Array Value}{t:TypeId}(h:Bx W B cs t){b:Nat}(hb:B≠b)(i:Nat)(v:Value):Bx (W.setCell ⟨b,i,none⟩ v) B cs t:=
 (Below.heap_setCell W ⟨b,i,none⟩ v B hb).trans h
theorem ba_eq{a b:ByteArray}:(a.toList==b.toList)=true↔a=b:=by
 rw[ByteArray.toList_eq,ByteArray.toList_eq]
 constructor
 ·intro h
  exact ByteArray.ext (Array.toList_inj.mp (by simpa using h))
 ·rintro rfl;simp
theorem ba_ne{a b:ByteArray}(h:(a.toList==b.toList)=false):a≠b:=fun e=>by
 rw[ba_eq.2 e]at h;cases h
def findB(zs:Nat->El)(nm:ByteArray):Nat->Value
 |0=>.tuple #[.agg #[.int .i64 0,.slice none 0 0,.slice none 0 0],.bool false]
 |k+1=>if(zs k).s=nm then .tuple #[.agg #[.int .i64 (zs k).k,.slice (zs k).a1 (zs k).n1 (zs k).c1,.slice (zs k).a2 (zs k).n2 (zs k).c2],.bool true]else findB zs nm k
theorem findB_all(zs:Nat->El)(nm:ByteArray):∀len,(∀j,j<len->(zs j).s≠nm)->findB zs nm len= .tuple #[.agg #[.int .i64 0,.slice none 0 0,.slice none 0 0],.bool false]
 |0,_=>rfl
 |k+1,h=>by
  unfold findB
  rw[if_neg (h k (by omega))]
  exact findB_all zs nm k fun j hj=>h j (by omega)
theorem findB_at(zs:Nat->El)(nm:ByteArray):∀len i,i<len->(zs i).s=nm->(∀j,i<j->j<len->(zs j).s≠nm)->findB zs nm len= .tuple #[.agg #[.int .i64 (zs i).k,.slice (zs i).a1 (zs i).n1 (zs i).c1,.slice (zs i).a2 (zs i).n2 (zs i).c2],.bool true]
 |0,i,h,_,_=>absurd h (Nat.not_lt_zero _)
 |k+1,i,h,h1,h2=>by
  unfold findB
  by_cases e:i=k
  ·subst e;rw[if_pos h1]
  ·rw[if_neg (h2 k (by omega) (by omega))]
   exact findB_at zs nm k i (by omega) h1 fun j a b=>h2 j a (by omega)
theorem mem_upto{α:Type}{f:Nat->α}{k j:Nat}(h:j<k):f j∈upto f k:=by
 unfold upto
 exact List.mem_map.2 ⟨j,by simpa using h,rfl⟩
theorem upto_snoc{α:Type}{f:Nat->α}{k:Nat}{p:List α}{x:α}(h:p++[x]=upto f k):∃j,k=j+1∧p=upto f j∧x=f j:=by
 cases k with
 |zero=>simp[upto]at h
 |succ j=>
  rw[upto_succ]at h
  have:=List.append_inj' h rfl
  exact⟨j,rfl,this.1,by simpa using this.2⟩
theorem Bx.frozen{W:World}{B:Nat}{cs:Array Value}{t:TypeId}(h:Bx W B cs t)(i:Nat):W.frozen? ⟨B,i,none⟩=false:=by
 unfold Bx at h
 simp[World.frozen?,h]
theorem run_cell{P:Program}{W:World}{B:Nat}{cs:List Value}{t t':TypeId}{c:Ki}(ht:tk P t c=true)(hl:cs.length=c.sz)(h:Bx W B cs.toArray t'){u:Value}(hu:u= .pointer (some ⟨B,0,none⟩)):
  ((do loadVar t (<-asAddr u):Sem Value)).run P W= .ok (valOf c cs) W:=by
 have:=run_load_cells ht W ⟨B,0,none⟩ cs hl (fun j v hj=>by
  have:=h.cell (i:=j) (v:=v) (by simpa using hj)
  rw[Addr.add_lit,Nat.zero_add]
  exact this)
 simp only[Instr.loadAt,Instr.sureAddr,Sem.run_bind,Sem.run_pure,Result.andThen_ok]at this
 rw[hu]
 simp only[asAddr,Sem.run_bind,Sem.run_pure,Result.andThen_ok,this]
theorem inCtx_results{W:World}{B1 B2:Nat}{tmps:Array Value}{x y z v:Value}(h1:tmps.getD 4 undef= .pointer (some ⟨B1,0,none⟩))(h2:tmps.getD 5 undef= .pointer (some ⟨B2,0,none⟩))(b1:Bx W B1 #[x,y,z] 44)(b2:Bx W B2 #[v] 4):
  (results Tryz.f82 tmps).run Tryz.prog W= .ok (.tuple #[.agg #[x,y,z],v]) W:=by
 refine run_results (us:=[.agg #[x,y,z],v]) ?_ (by show¬(2=1);decide)
 show ValsR Tryz.prog tmps W [.cell 4 44,.cell 5 4] _
 refine⟨_,_,rfl,?_,_,_,rfl,?_,rfl⟩
 ·exact run_cell (c:=kR 0) (cs:=[x,y,z]) (by kernel_rfl) rfl b1 h1
 ·exact run_cell (c:=.bool) (cs:=[v]) (by kernel_rfl) rfl b2 h2
def keyOf(xs:List (Nat×El))(nm:ByteArray):Prop:=∀x∈xs,x.2.s≠nm
set_option maxRecDepth 100000 in
set_option maxHeartbeats 2000000 in
theorem inCtx_in(F:Fence)(n:Nat)(h3:F.fn 82)(h5:F.fn 123)(h6:F.fn 153)(hro:F.round=none)(hn:3<=n)(A:Option Addr)(len cap:Nat)(nm:ByteArray)(zs:Nat->El)(hlen:(len:Int)<=9223372036854775807)(w:World)(hL:Els w.heap.size w (.slice A len cap) len zs):
  CallsIn F n Tryz.prog 82 #[.slice A len cap,.string nm] w fun e w'=>e= .returned (findB zs nm len)∧Below w.heap.size w w':=by
 have h1:1<=n:=by omega
 refine callsIn_of_wp_marks Tryz.func82 rfl h3 ?_ hro
 simp only[Tryz.ntmps82,List.size_toArray,List.length_cons,List.length_nil,Nat.reduceAdd,Nat.reduceSub,Array.replicate_succ,Array.replicate_zero,List.push_toArray,List.append_toArray,List.nil_append,List.cons_append]
 gi_wp2_with (gi_at_call 123;refine(back_in F (n-1) h5 hro _ _ _ _).mono ?_;rintro e w' ⟨rfl,rfl⟩)
 have bN:Bx (w.alloc (.cells #[.string nm] 9)) w.heap.size #[.string nm] 9:=Bx.new w _ _
 have bR:=Bx.new (w.alloc (.cells #[.string nm] 9)) #[Value.int IntKind.i64 0,Value.slice none 0 0,Value.slice none 0 0] 44
 rw[World.size_alloc]at bR
 have bB:=Bx.new ((w.alloc (.cells #[.string nm] 9)).alloc (.cells #[Value.int IntKind.i64 0,Value.slice none 0 0,Value.slice none 0 0] 44)) #[Value.bool false] 4
 rw[World.size_alloc,World.size_alloc]at bB
 have bS:=Bx.new (((w.alloc (.cells #[.string nm] 9)).alloc (.cells #[Value.int IntKind.i64 0,Value.slice none 0 0,Value.slice none 0 0] 44)).alloc (.cells #[Value.bool false] 4)) #[Value.slice A len cap] 84
 rw[World.size_alloc,World.size_alloc,World.size_alloc]at bS
 have bB:=bB.alloc (.cells #[Value.slice A len cap] 84)
 have bR:=(bR.alloc (.cells #[Value.bool false] 4)).alloc (.cells #[Value.slice A len cap] 84)
 have bN:=((bN.alloc (.cells #[Value.int IntKind.i64 0,Value.slice none 0 0,Value.slice none 0 0] 44)).alloc (.cells #[Value.bool false] 4)).alloc (.cells #[Value.slice A len cap] 84)
 have hB0:=((((Below.refl w.heap.size w).alloc (Nat.le_refl _) (.cells #[.string nm] 9)).alloc (by simp) (.cells #[Value.int IntKind.i64 0,Value.slice none 0 0,Value.slice none 0 0] 44)).alloc (by simp;omega) (.cells #[Value.bool false] 4)).alloc (by simp;omega) (.cells #[Value.slice A len cap] 84)
 have hL0:=hL.below hB0
 have hsz:((((w.alloc (.cells #[.string nm] 9)).alloc (.cells #[Value.int IntKind.i64 0,Value.slice none 0 0,Value.slice none 0 0] 44)).alloc (.cells #[Value.bool false] 4)).alloc (.cells #[Value.slice A len cap] 84)).heap.size=w.heap.size+4:=by simp only[World.size_alloc]
 obtain⟨W0,hW0⟩:∃W0,((((w.alloc (.cells #[.string nm] 9)).alloc (.cells #[Value.int IntKind.i64 0,Value.slice none 0 0,Value.slice none 0 0] 44)).alloc (.cells #[Value.bool false] 4)).alloc (.cells #[Value.slice A len cap] 84))=W0:=⟨_,rfl⟩
 rw[hW0]at bS bB bR bN hB0 hL0 hsz
 rw[hW0]
 have e1:w.heap.size+1+1=w.heap.size+2:=rfl
 have e2:w.heap.size+1+1+1=w.heap.size+3:=rfl
 refine wpIn_rangeFunc_ownH hro h1 (gf:=153) (lb:= #[.pointer (some ⟨w.heap.size+3,0,none⟩)]) rfl h6 (enters_of Tryz.func153 (by kernel_rfl) rfl)
  (back_stops F (n-1) h6 hro (by omega) (w.heap.size+3) (w.heap.size+4) (.slice A len cap) len zs hlen W0 (by omega) (by omega) (bS.cell rfl) (by
   rcases hL0 with h|⟨b,off,cap',h,hb,hc⟩
   ·exact .inl h
   ·exact .inr ⟨b,off,cap',h,by omega,hc⟩)) belowK_t (belowK_b (by omega)) (Below.refl _ _) (fun _=>rfl)
  (fun pre W=>((((Bx W w.heap.size #[.string nm] 9∧Bx W (w.heap.size+1) #[Value.int IntKind.i64 0,Value.slice none 0 0,Value.slice none 0 0] 44)∧Bx W (w.heap.size+2) #[Value.bool false] 4)∧Below w.heap.size w W)∧keyOf pre nm)∧Bx W (w.heap.size+3) #[.slice A len cap] 84)
  (fun c pre W=>∃p x,(pre=p++[x]∧keyOf p nm∧x.2.s=nm∧c= .ret)∧((Bx W (w.heap.size+1) #[.int .i64 x.2.k,.slice x.2.a1 x.2.n1 x.2.c1,.slice x.2.a2 x.2.n2 x.2.c2] 44∧Bx W (w.heap.size+2) #[Value.bool true] 4)∧Below w.heap.size w W))
  (OwnFrom.and (OwnFrom.and (OwnFrom.and (OwnFrom.and (OwnFrom.and (Go.Own.from (Bx.own _ _ _) _) (Go.Own.from (Bx.own _ _ _) _)) (Go.Own.from (Bx.own _ _ _) _)) (ownFrom_below (Nat.le_refl _) (by omega))) (ownFrom_pure _ (fun pre=>keyOf pre nm))) (Go.Own.from (Bx.own _ _ _) _))
  (fun c s X Y row hs hg hr=>by
   obtain⟨p,x,h1,h2⟩:=hs
   exact⟨p,x,h1,(OwnFrom.and (OwnFrom.and (Go.Own.from (Bx.own _ _ _) _) (Go.Own.from (Bx.own _ _ _) _)) (ownFrom_below (Nat.le_refl _) (by omega)):OwnFrom W0.heap.size (fun(_:Unit) W=>(Bx W (w.heap.size+1) #[.int .i64 x.2.k,.slice x.2.a1 x.2.n1 x.2.c1,.slice x.2.a2 x.2.n2 x.2.c2] 44∧Bx W (w.heap.size+2) #[Value.bool true] 4)∧Below w.heap.size w W)) () X Y row h2 hg hr⟩)
  ⟨⟨⟨⟨⟨bN,bR⟩,bB⟩,hB0⟩,fun x hx=>by cases hx⟩,bS⟩
  (fun x a' W=>∃Bl,w.heap.size+3<Bl∧Bx W Bl #[.string x.2.s,.int .i64 x.2.k,.slice x.2.a1 x.2.n1 x.2.c1,.slice x.2.a2 x.2.n2 x.2.c2] 187∧a'= {tmps:= #[.slice A len cap,.string nm,undef,.pointer (some ⟨w.heap.size,0,none⟩),.pointer (some ⟨w.heap.size+1,0,none⟩),.pointer (some ⟨w.heap.size+1+1,0,none⟩),undef,.pointer (some ⟨Bl,0,none⟩),.slice A len cap,.func (.func 153) #[] #[.pointer (some ⟨w.heap.size+1+1+1,0,none⟩)],.int .i64 (x.1:Int),x.2.v,undef,undef,undef,undef,undef,undef,undef],defers:=[]})
  (fun x a' _ X Y row hs hg hr=>by
   obtain⟨Bl,h1,h2,h3⟩:=hs
   exact⟨Bl,h1,Bx.own Bl _ _ (β:=Unit) () X Y row h2 hg (fun r e=>(hr r e).2),h3⟩)
  ?assign ?body ?done ?stop
 case assign=>
  rintro l pre ⟨xi,xs,xk,xa1,xn1,xc1,xa2,xn2,xc2⟩ W K ⟨⟨⟨⟨⟨b1,b2⟩,b3⟩,hB1⟩,hk⟩,b4⟩ hK
  have hsW:=b4.lt
  simp only[El.v]at hK⊢
  gi_wp2
  exact hK _ _ ((KeepsOthers.alloc _ _).from _) ((Below.refl _ W).alloc (by omega) _) ⟨⟨⟨⟨⟨b1.alloc _,b2.alloc _⟩,b3.alloc _⟩,hB1.alloc hB1.size _⟩,hk⟩,b4.alloc _⟩ ⟨W.heap.size,by omega,Bx.new W _ _,rfl⟩
 case body=>
  rintro l pre ⟨xi,xs,xk,xa1,xn1,xc1,xa2,xn2,xc2⟩ a' W hl ⟨r,hr⟩ ⟨⟨⟨⟨⟨b1,b2⟩,b3⟩,hB1⟩,hk⟩,b4⟩ ⟨Bl,hBl,bX,rfl⟩ hlt
  simp only[El.v]at bX⊢
  have cN:=b1.cell (i:=0) rfl
  have c0:=bX.cell (i:=0) rfl
  have c1:=bX.cell (i:=1) rfl
  have c2:=bX.cell (i:=2) rfl
  have c3:=bX.cell (i:=3) rfl
  have r0:=b2.cell (i:=0) rfl
  have r1:=b2.cell (i:=1) rfl
  have r2:=b2.cell (i:=2) rfl
  have f0:=b2.frozen 0
  have f1:=b2.frozen 1
  have f2:=b2.frozen 2
  have s0:=b3.cell (i:=0) rfl
  have g0:=b3.frozen 0
  gi_wp2
  rotate_left
  ·have hne:=ba_ne (a:=xs) (b:=nm) (by assumption)
   refine⟨KeepsFrom.refl _ _,Below.refl _ _,⟨⟨⟨⟨b1,b2⟩,b3⟩,hB1⟩,fun x hx=> ?_⟩,b4⟩
   rcases List.mem_append.1 hx with hx|hx
   ·exact hk x hx
   ·rw[List.mem_singleton.1 hx];exact hne
  ·have he:=(ba_eq (a:=xs) (b:=nm)).1 (by assumption)
   refine⟨?_,pre,xi,⟨xs,xk,xa1,xn1,xc1,xa2,xn2,xc2⟩,⟨rfl,hk,he,rfl⟩,⟨?_,?_⟩,?_⟩
   ·exact((((KeepsOthers.setCell _ _ _).from _).trans ((KeepsOthers.setCell _ _ _).from _)).trans ((KeepsOthers.setCell _ _ _).from _)).trans ((KeepsOthers.setCell _ _ _).from _)
   ·exact(((b2.set 0 _).set 1 _).set 2 _).other (by omega) 0 _
   ·exact(((b3.other (by omega) 0 _).other (by omega) 1 _).other (by omega) 2 _).set 0 _
   ·exact(((hB1.setCell (p:=⟨w.heap.size+1,0,none⟩) (by simp) _).setCell (p:=⟨w.heap.size+1,1,none⟩) (by simp) _).setCell (p:=⟨w.heap.size+1,2,none⟩) (by simp) _).setCell (p:=⟨w.heap.size+1+1,0,none⟩) (by simp;omega) _
 case done=>
  rintro D ys W hD rfl ⟨⟨⟨⟨⟨b1,b2⟩,b3⟩,hB1⟩,hk⟩,b4⟩ hK
  have r0:=b2.cell (i:=0) rfl
  have r1:=b2.cell (i:=1) rfl
  have r2:=b2.cell (i:=2) rfl
  have f0:=b2.frozen 0
  have f1:=b2.frozen 1
  have f2:=b2.frozen 2
  have s0:=b3.cell (i:=0) rfl
  have g0:=b3.frozen 0
  gi_wp2
  have hsD:=hB1.size
  refine⟨by simp,.inl ⟨_,_,rfl,run_takeDeferred (by
   rw[Below.heap_setCell _ _ _ _ (by simp only;omega),Below.heap_setCell _ _ _ _ (by simp only;omega),Below.heap_setCell _ _ _ _ (by simp only;omega),Below.heap_setCell _ _ _ _ (by simp only;omega)]
   exact hK),?_⟩⟩
  have q1:Bx ((((W.setCell ⟨w.heap.size+1,0,none⟩ (.int .i64 0)).setCell ⟨w.heap.size+1,1,none⟩ (.slice none 0 0)).setCell ⟨w.heap.size+1,2,none⟩ (.slice none 0 0)).setCell ⟨w.heap.size+2,0,none⟩ (.bool false)) (w.heap.size+1) #[Value.int IntKind.i64 0,Value.slice none 0 0,Value.slice none 0 0] 44:=
   (((b2.set 0 _).set 1 _).set 2 _).other (by omega) 0 _
  have q2:Bx ((((W.setCell ⟨w.heap.size+1,0,none⟩ (.int .i64 0)).setCell ⟨w.heap.size+1,1,none⟩ (.slice none 0 0)).setCell ⟨w.heap.size+1,2,none⟩ (.slice none 0 0)).setCell ⟨w.heap.size+2,0,none⟩ (.bool false)) (w.heap.size+2) #[Value.bool false] 4:=
   (((b3.other (by omega) 0 _).other (by omega) 1 _).other (by omega) 2 _).set 0 _
  have hB2:Below w.heap.size w ((((W.setCell ⟨w.heap.size+1,0,none⟩ (.int .i64 0)).setCell ⟨w.heap.size+1,1,none⟩ (.slice none 0 0)).setCell ⟨w.heap.size+1,2,none⟩ (.slice none 0 0)).setCell ⟨w.heap.size+2,0,none⟩ (.bool false)):=
   (((hB1.setCell (p:=⟨w.heap.size+1,0,none⟩) (by simp) _).setCell (p:=⟨w.heap.size+1,1,none⟩) (by simp) _).setCell (p:=⟨w.heap.size+1,2,none⟩) (by simp) _).setCell (p:=⟨w.heap.size+2,0,none⟩) (by simp) _
  obtain⟨W2,hW2⟩:∃W2,((((W.setCell ⟨w.heap.size+1,0,none⟩ (.int .i64 0)).setCell ⟨w.heap.size+1,1,none⟩ (.slice none 0 0)).setCell ⟨w.heap.size+1,2,none⟩ (.slice none 0 0)).setCell ⟨w.heap.size+2,0,none⟩ (.bool false))=W2:=⟨_,rfl⟩
  rw[hW2]at q1 q2 hB2⊢
  have hDB:Below w.heap.size w (W2.putObj D (.deferred none)):=hB2.trans ⟨rfl,rfl,rfl,by simp[World.putObj],fun k hk=>World.putObj_heap_other (by omega)⟩
  have q1':Bx (W2.putObj D (.deferred none)) (w.heap.size+1) #[Value.int IntKind.i64 0,Value.slice none 0 0,Value.slice none 0 0] 44:=(World.putObj_heap_other (by omega)).trans q1
  have q2':Bx (W2.putObj D (.deferred none)) (w.heap.size+2) #[Value.bool false] 4:=(World.putObj_heap_other (by omega)).trans q2
  refine⟨_,inCtx_results rfl rfl q1' q2',?_,hDB⟩
  rw[findB_all zs nm len fun j hj=> ?_]
  have:=hk _ (mem_upto (f:=fun k=>(len-1-k,zs (len-1-k))) (k:=len) (j:=len-1-j) (by omega))
  simpa[show len-1-(len-1-j)=j by omega]using this
 case stop=>
  rintro D c pre W hD ⟨k,hk0,hS⟩ ⟨p,x,⟨rfl,hk,hx,rfl⟩,⟨b2,b3⟩,hB1⟩ hK
  have r0:=b2.cell (i:=0) rfl
  have r1:=b2.cell (i:=1) rfl
  have r2:=b2.cell (i:=2) rfl
  have s0:=b3.cell (i:=0) rfl
  gi_wp2
  refine⟨by simp,.inl ⟨_,_,rfl,run_takeDeferred hK,?_⟩⟩
  obtain⟨j,rfl,rfl,rfl⟩:=upto_snoc hS
  have hDB:Below w.heap.size w (W.putObj D (.deferred none)):=hB1.trans ⟨rfl,rfl,rfl,by simp[World.putObj],fun k hk=>World.putObj_heap_other (by omega)⟩
  have q1':Bx (W.putObj D (.deferred none)) (w.heap.size+1) _ 44:=(World.putObj_heap_other (by omega)).trans b2
  have q2':Bx (W.putObj D (.deferred none)) (w.heap.size+2) #[Value.bool true] 4:=(World.putObj_heap_other (by omega)).trans b3
  refine⟨_,inCtx_results rfl rfl q1' q2',?_,hDB⟩
  rw[findB_at zs nm len (len-1-j) (by omega) hx fun i h1 h2=> ?_]
  have:=hk _ (mem_upto (f:=fun k=>(len-1-k,zs (len-1-k))) (k:=j) (j:=len-1-i) (by omega))
  simpa[show len-1-(len-1-i)=i by omega]using this
end Go.Q.Inx
