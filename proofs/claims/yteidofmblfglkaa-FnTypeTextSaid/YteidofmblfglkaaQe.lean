/- An interpreter of code on plain data, marks, and the way from a row to a model: for every program of the model. -/
import Derived.Test.YteidofmblfglkaaQd
import Derived.KernelRfl
import Derived.ChangeArms
import Derived.WalkKit
import Derived.ProofKit
import Derived.OpenShut
set_option linter.unusedVariables false
set_option linter.unusedSimpArgs false
namespace Go.Q
theorem frz_slice(c:Ki)(xs:List c.T):frz (.slice c) xs=True:=by
 simp[frz,RA.intro,pkO,pkOL,lo,as_row,need]
theorem frz_0(y:Sty 0):frz (kR 0) y=True:=by
 rcases y with⟨_,_,_⟩
 exact eq_true ⟨rfl,(by decide:([[1],[2]]:List Lab).Nodup)⟩
theorem frz_1(y:Sty 1):frz (kR 1) y=True:=by
 rcases y with⟨_,_,_,_⟩
 exact eq_true ⟨rfl,(by decide:([[2],[3]]:List Lab).Nodup)⟩
theorem frz_2(y:Sty 2):frz (kR 2) y=True:=by
 rcases y with⟨_,_,_,⟨_,_,_⟩,_,_⟩
 exact eq_true ⟨rfl,(by decide:([[4],[5],[6],[7]]:List Lab).Nodup)⟩
theorem frz_3(y:Sty 3):frz (kR 3) y=True:=by
 rcases y with⟨_,_⟩
 exact eq_true ⟨rfl,(by decide:([]:List Lab).Nodup)⟩
theorem frz_4(y:Sty 4):frz (kR 4) y=True:=by
 rcases y with⟨_,⟨_,_,_⟩⟩
 exact eq_true ⟨rfl,(by decide:([[2],[3]]:List Lab).Nodup)⟩
theorem frz_5(y:Sty 5):frz (kR 5) y=True:=by
 rcases y with⟨_⟩
 exact eq_true ⟨rfl,(by decide:([[0]]:List Lab).Nodup)⟩
theorem frz_6(y:Sty 6):frz (kR 6) y=True:=by
 rcases y with⟨_,_⟩
 exact eq_true ⟨rfl,(by decide:([[1]]:List Lab).Nodup)⟩
theorem frz_7(y:Sty 7):frz (kR 7) y=True:=by
 rcases y with⟨_⟩
 exact eq_true ⟨rfl,(by decide:([[0]]:List Lab).Nodup)⟩
theorem frz_8(y:Sty 8):frz (kR 8) y=True:=by
 rcases y with⟨_,⟨_,_,_⟩⟩
 exact eq_true ⟨rfl,(by decide:([[2],[3]]:List Lab).Nodup)⟩
theorem frz_9(y:Sty 9):frz (kR 9) y=True:=by
 rcases y with⟨_,⟨_,_,_,⟨_,_,_⟩,_,_⟩,_,_,⟨_⟩⟩
 exact eq_true ⟨rfl,(by decide:([[5],[6],[7],[8],[9],[10],[11]]:List Lab).Nodup)⟩
theorem frz_10(y:Sty 10):frz (kR 10) y=True:=by
 rcases y with⟨_,⟨_,_,_,⟨_,_,_⟩,_,_⟩,⟨_,⟨_,_,_,⟨_,_,_⟩,_,_⟩,_,_,⟨_⟩⟩⟩
 exact eq_true ⟨rfl,(by decide:([[0],[5],[6],[7],[8],[14],[15],[16],[17],[18],[19],[20]]:List Lab).Nodup)⟩
theorem frz_11(y:Sty 11):frz (kR 11) y=True:=by
 rcases y with⟨_⟩
 exact eq_true ⟨rfl,(by decide:([[0]]:List Lab).Nodup)⟩
theorem frz_12(y:Sty 12):frz (kR 12) y=True:=by
 rcases y with⟨_,_,_,_,⟨_,_,_,⟨_,_,_⟩,_,_⟩,_⟩
 exact eq_true ⟨rfl,(by decide:([[3],[8],[9],[10],[11],[12]]:List Lab).Nodup)⟩
theorem frz_13(y:Sty 13):frz (kR 13) y=True:=by
 rcases y with⟨_,_⟩
 exact eq_true ⟨rfl,(by decide:([[0],[1]]:List Lab).Nodup)⟩
theorem frz_14(y:Sty 14):frz (kR 14) y=True:=by
 rcases y with⟨_,_⟩
 exact eq_true ⟨rfl,(by decide:([[1]]:List Lab).Nodup)⟩
theorem frz_15(y:Sty 15):frz (kR 15) y=True:=by
 rcases y with⟨⟨_,_⟩,⟨_,_⟩,_⟩
 exact eq_true ⟨rfl,(by decide:([[1],[3],[4]]:List Lab).Nodup)⟩
theorem frz_16(y:Sty 16):frz (kR 16) y=True:=by
 rcases y with⟨_,_,_⟩
 exact eq_true ⟨rfl,(by decide:([[2]]:List Lab).Nodup)⟩
theorem frz_17(y:Sty 17):frz (kR 17) y=True:=by
 rcases y with⟨_,_,_,⟨_,_,_,⟨_,_,_⟩,_,_⟩,_,_⟩
 exact eq_true ⟨rfl,(by decide:([[7],[8],[9],[10],[11],[12]]:List Lab).Nodup)⟩
end Go.Q
namespace Go.Q
abbrev XF:=FuncId->List SA-> {R:Type}->(RA->Option R)->Option R
def mark{R:Type}(a:Option R):Option R:=a
def br{R:Type}(b:Bool)(x y:Option R):Option R:=cond b x y
def cb{α R:Type}(x:Option α)(k:α->Option R):Option R:=Option.bind x k
def gg{R:Type}(p:Prop)[Decidable p](a:Option R):Option R:=if p then a else none
noncomputable def both{R:Type}(a b:Option R):Option R:=open Classical in if a=b then a else none
def frzB:Ki->Bool
 | .slice _=>true
 | .struct n=>Nat.blt n 18
 | .ptr _=>false
 |_=>true
def xb{R:Type}:BinOp->AV->AV->(AV->Option R)->Option R
 | .add,.v (.int k) (m:Int),.v (.int k') (n:Int),f=>if k=k' then f (.v (.int k) (k.wrap (m+n)))else none
 | .sub,.v (.int k) (m:Int),.v (.int k') (n:Int),f=>if k=k' then f (.v (.int k) (k.wrap (m-n)))else none
 | .mul,.v (.int k) (m:Int),.v (.int k') (n:Int),f=>if k=k' then f (.v (.int k) (k.wrap (m*n)))else none
 | .quo,.v (.int k) (m:Int),.v (.int k') (n:Int),f=>if k=k' then gg (n≠0) (f (.v (.int k) (k.wrap (m.tdiv n))))else none
 | .rem,.v (.int k) (m:Int),.v (.int k') (n:Int),f=>if k=k' then gg (n≠0) (f (.v (.int k) (k.wrap (m.tmod n))))else none
 | .lss,.v (.int k) (m:Int),.v (.int k') (n:Int),f=>if k=k' then f (.v .bool (decide (m<n)))else none
 | .leq,.v (.int k) (m:Int),.v (.int k') (n:Int),f=>if k=k' then f (.v .bool (decide (m<=n)))else none
 | .gtr,.v (.int k) (m:Int),.v (.int k') (n:Int),f=>if k=k' then f (.v .bool (decide (n<m)))else none
 | .geq,.v (.int k) (m:Int),.v (.int k') (n:Int),f=>if k=k' then f (.v .bool (decide (n<=m)))else none
 | .eql,.v (.int k) (m:Int),.v (.int k') (n:Int),f=>if k=k' then f (.v .bool (m==n))else none
 | .neq,.v (.int k) (m:Int),.v (.int k') (n:Int),f=>if k=k' then f (.v .bool (!(m==n)))else none
 | .and,.v (.int k) (m:Int),.v (.int k') (n:Int),f=>if k=k' then f (.v (.int k) (iand k m n))else none
 | .xor,.v (.int k) (m:Int),.v (.int k') (n:Int),f=>if k=k' then f (.v (.int k) (ixor k m n))else none
 | .shr,.v (.int k) (m:Int),.v (.int _) (n:Int),f=>gg (0<=n) (f (.v (.int k) (ishr k m n)))
 | .eql,.v .str (m:Str),.v .str (n:Str),f=>f (.v .bool (m==n))
 | .neq,.v .str (m:Str),.v .str (n:Str),f=>f (.v .bool (!(m==n)))
 | .lss,.v .str (m:Str),.v .str (n:Str),f=>f (.v .bool (Op.bytesLess m n))
 | .leq,.v .str (m:Str),.v .str (n:Str),f=>f (.v .bool (Op.bytesLess m n||m==n))
 | .gtr,.v .str (m:Str),.v .str (n:Str),f=>f (.v .bool (!(Op.bytesLess m n||m==n)))
 | .geq,.v .str (m:Str),.v .str (n:Str),f=>f (.v .bool (!(Op.bytesLess m n)))
 | .add,.v .str (m:Str),.v .str (n:Str),f=>gg (m.length+n.length<=9223372036854775807) (f (.v .str (m++n)))
 |_,_,_,_=>none
section
variable (S:XF)
def xap{R:Type}(d:Nat)(L:Lab)(c:Ki)(o x:O)(Γ:Env)(K:Env->Option R):Option R:=(ev Γ o).bind fun
 | .sl l=>(lo Γ.ob l).bind fun
  | .row true false c' xs=>(Ob.as c (.row true false c' xs)).bind fun xs=>(ev Γ x).bind fun a=>(pkO Γ.ob (.slice c) a).bind fun r=>if nodB r.2&& !r.2.contains l then gg (List.length xs+List.length r.1<=33554432) (
    let Γ':=Γ.kill (fun m=>m==l||m==L||r.2.contains m);K ((Γ'.new L (.row true false c (xs++r.1))).put d (.sl L)))else none
  |_=>none
 |_=>none
def xq{R:Type}(d:Option Nat)(f:FuncId)(as:List SA)(es:List LE)(Γ:Env)(K:Env->Option R):Option R:=
 (loes Γ.ob es).bind fun p=>S f (as++p.1.map SA.lo) fun
  | .q r os'=>if !es.isEmpty&&(nodB (labs es++p.2)&&(likes p.1 os'&&(newGone es os'&&(oneL es p.1&&(labs es).all (fun m=> !hdo d m&& !subL (labs es) m)))))then K (Γ.back d es p.2 os' r)else none
  |_=>none
noncomputable def xi{R:Type}:I->Env->(Env->Option R)->Option R
 | .mv d o,Γ,K=>(ev Γ o).bind fun a=>K (Γ.put d a)
 | .nck d o,Γ,K=>(ev Γ o).bind fun
  | .v (.ptr c) x=>Option.bind x fun(y:c.T)=>K (Γ.put d (.v (.ptr c) (some y)))
  | .pt l off=>K (Γ.put d (.pt l off))
  | .ep l c i off=>K (Γ.put d (.ep l c i off))
  |_=>none
 | .un d u o,Γ,K=>(ev Γ o).bind fun a=>(vu u a).bind fun r=>K (Γ.put d r)
 | .bi d b x y,Γ,K=>(ev Γ x).bind fun a=>(ev Γ y).bind fun a'=>xb b a a' fun r=>K (Γ.put d r)
 | .be d ne x y,Γ,K=>(ev Γ x).bind fun
  | .v .bool (m:Bool)=>(ev Γ y).bind fun
   | .v .bool (n:Bool)=>K (Γ.put d (.v .bool (if ne then !(m==n)else m==n)))
   |_=>none
  |_=>none
 | .pk d c x y,Γ,K=>(ev Γ c).bind fun
  | .v .bool (b:Bool)=>(ev Γ x).bind fun a=>(ev Γ y).bind fun a'=>match a,a' with
   | .v c u,.v c' u'=>(AV.as c (.v c' u')).bind fun z=>K (Γ.put d (.v c (cond b u z)))
   |_,_=>br b (K (Γ.put d a)) (K (Γ.put d a'))
  |_=>none
 | .fa d o n j off,Γ,K=>(ev Γ o).bind fun
  | .v (.ptr (.struct m)) x=>Option.bind x fun(y:Sty m)=>(hget (flds m) (un m y) j).bind fun
   | .v c z=>if m=n then K (Γ.put d (.v (.ptr c) (some z)))else none
   |_=>none
  | .pt l o'=>K (Γ.put d (.pt l (o'+off)))
  | .ep l c i o'=>K (Γ.put d (.ep l c i (o'+off)))
  |_=>none
 | .ia d o i c,Γ,K=>(ev Γ o).bind fun a=>(ev Γ i).bind fun
  | .v (.int _) (n:Int)=>match a with
   | .v (.slice c') xs=>if c'=c then gg (0<=n∧n<(List.length xs:Int)) (K (Γ.put d (.v (.ptr c') (some (gt xs n c'.z)))))else none
   | .sl l=>(lo Γ.ob l).bind fun
    | .row _ _ c' xs=>if c'=c then gg (0<=n∧n<(xs.length:Int)) (K (Γ.put d (.ep l c' n 0)))else none
    |_=>none
   |_=>none
  |_=>none
 | .ld d o c,Γ,K=>(ev Γ o).bind fun
  | .v (.ptr c') x=>Option.bind x fun(y:c'.T)=>if c'=c then K (Γ.put d (.v c' y))else none
  | .pt l off=>(lo Γ.ob l).bind fun
   | .box ls=>match c with
    | .struct n=>if Nat.ble (off+ssz n) ls.length then K (Γ.put d (.ag n ((ls.drop off).take (ssz n))))else none
    |_=>(ls[off]?).bind fun a=>if a.leaf then K (Γ.put d a)else none
   |_=>none
  | .ep l c' i 0=>(lo Γ.ob l).bind fun
   | .row _ _ c2 xs=>if c'=c∧c2=c∧c2.flat=true then gg (0<=i∧i<(xs.length:Int)) (K (Γ.put d (.v c2 (gt xs i c2.z))))else none
   |_=>none
  |_=>none
 | .st o x c,Γ,K=>(ev Γ o).bind fun
  | .pt l off=>(lo Γ.ob l).bind fun
   | .box ls=>(ev Γ x).bind fun a=>if a.stor&&(Nat.beq (cellsOf a).length c.sz&&Nat.ble (off+c.sz) ls.length)then K ⟨Γ.tm,(l,.box (setAt ls off (cellsOf a)))::Γ.ob⟩else none
   |_=>none
  | .ep l c' i 0=>(lo Γ.ob l).bind fun
   | .row true p c2 xs=>(ev Γ x).bind fun a=>(pkO Γ.ob c2 a).bind fun r=>
     if(c'=c2∧c2=c)∧(nodB r.2&& !r.2.contains l)=true then gg (0<=i∧i<(xs.length:Int)) (
     let Γ':=Γ.kill (fun m=>r.2.contains m);K ⟨Γ'.tm,(l,.row true p c2 (xs.set i.toNat r.1))::Γ'.ob⟩)else none
   | .row false p c2 xs=>(ev Γ x).bind fun a=>(pk Γ.ob c2 a).bind fun y=>
     if(c'=c2∧c2=c)∧a.refs (fun _=>true)=false then gg (0<=i∧i<(xs.length:Int)) (K ⟨Γ.tm,(l,.row false p c2 (xs.set i.toNat y))::Γ.ob⟩)else none
   |_=>none
  |_=>none
 | .bx d o c,Γ,K=>let Γ':=Γ.kill (hd d);(ev Γ' o).bind fun a=>if a.stor then K ((Γ'.new [d] (.box (cellsOf a))).put d (.pt [d] 0))else none
 | .al d c,Γ,K=>let Γ':=Γ.kill (hd d);K ((Γ'.new [d] (.box (zA c))).put d (.pt [d] 0))
 | .ln d false o,Γ,K=>(ev Γ o).bind fun
  | .v (.slice _) xs=>K (Γ.put d (.v kI (List.length xs:Int)))
  | .sl l=>(lo Γ.ob l).bind fun
   | .row _ _ _ xs=>K (Γ.put d (.v kI (List.length xs:Int)))
   |_=>none
  | .nl _=>K (Γ.put d (.v kI (0:Int)))
  |_=>none
 | .ln d true o,Γ,K=>(ev Γ o).bind fun
  | .v .str s=>K (Γ.put d (.v kI (List.length s:Int)))
  |_=>none
 | .mk d deep c n,Γ,K=>(ev Γ n).bind fun
  | .v (.int _) (n:Int)=>if nop 99 [c]then gg (0<=n∧n<=2147483647) (let Γ':=Γ.kill (hd d);K ((Γ'.new [d] (.row deep false c (List.replicate n.toNat c.z))).put d (.sl [d])))else none
  |_=>none
 | .ca d f xs,Γ,K=>(co Γ xs).bind fun as=>S f as fun r=>if !coLab Γ xs||r.safe then K (Γ.ret d r)else none
 | .cv d f xs,Γ,K=>(co Γ xs).bind fun as=>S f as fun
  | .v c x=>if !coLab Γ xs||c.flat then K (Γ.puto (.v c x) d)else none
  | .o c x=>if frzB c then K (Γ.puto (.v c x) d)else none
  |_=>none
 | .cfr d o xs,Γ,K=>((ev Γ o).bind fnS).bind fun f=>(co Γ xs).bind fun as=>S f.1 (as++capA f.2) fun
  | .v c x=>if !coLab Γ xs then K (Γ.put d (.v c x))else none
  |_=>none
 | .cf d o xs,Γ,K=>((ev Γ o).bind fnS).bind fun f=>(co Γ xs).bind fun as=>S f.1 (as++capA f.2) fun r=>if !coLab Γ xs||r.safe then K (Γ.ret d r)else none
 | .bs d _ c [],Γ,K=>K (Γ.put d (.nl c))
 | .bs d dp c (x::xs),Γ,K=>let Γ':=Γ.kill (hd d);(evs Γ' (x::xs)).bind fun as=>(pks Γ'.ob c as).bind fun ys=>if(!dp||c.nref)&& !refsL (fun _=>true) as then K ((Γ'.new [d] (.row dp false c ys)).put d (.sl [d]))else none
 | .bd d n ps,Γ,K=>(evp Γ ps).bind fun as=>K (Γ.put d (.ag n (fillA (zA (kR n)) as)))
 | .an d dp c o x,Γ,K=>let Γ':=Γ.kill (hd d);(ev Γ' o).bind fun
  | .nl _=>(ev Γ' x).bind fun a=>(pk Γ'.ob (.slice c) a).bind fun ys=>if(!dp||c.nref)&&shr Γ'.ob c a then gg (List.length ys<=33554432) (K ((Γ'.new [d] (.row dp false c ys)).put d (.sl [d])))else none
  |_=>none
 | .ap d L dp c o x,Γ,K=>if dp&& !c.nref then xap d L c o x Γ K else(ev Γ o).bind fun
  | .sl l=>(lo Γ.ob l).bind fun
   | .row dp' false c' xs=>if dp'=dp then(Ob.as c (.row dp' false c' xs)).bind fun xs=>(ev Γ x).bind fun a=>(pk Γ.ob (.slice c) a).bind fun ys=>if shr Γ.ob c a then gg (List.length xs+List.length ys<=33554432) (
     let Γ':=Γ.kill (fun m=>m==l||m==L);K ((Γ'.new L (.row dp false c (xs++ys))).put d (.sl L)))else none else none
   |_=>none
  |_=>none
 | .ci d k o,Γ,K=>(ev Γ o).bind fun
  | .v (.int _) (n:Int)=>K (Γ.put d (.v (.int k) (k.wrap n)))
  |_=>none
 | .cs d o,Γ,K=>(ev Γ o).bind fun a=>(pk Γ.ob (kL (.int .u8)) a).bind fun(xs:List Int)=>K (Γ.put d (.v .str (bytesOf xs)))
 | .ix d o i,Γ,K=>(ev Γ o).bind fun
  | .v .str (s:Str)=>(ev Γ i).bind fun
   | .v (.int _) (n:Int)=>gg (0<=n∧n<(List.length s:Int)) (K (Γ.put d (.v (.int .u8) ((s.getD n.toNat 0).toNat:Int))))
   |_=>none
  |_=>none
 | .sx d o a b,Γ,K=>(ev Γ o).bind fun
  | .v .str (s:Str)=>(evo Γ a 0).bind fun i=>(evo Γ b (List.length s)).bind fun j=>gg (0<=i∧i<=j∧j<=(List.length s:Int)) (K (Γ.put d (.v .str ((List.take j.toNat s).drop i.toNat))))
  |_=>none
 | .sa d L o x,Γ,K=>(ev Γ o).bind fun
  | .sl l=>(lo Γ.ob l).bind fun
   | .row true false c' xs=>(Ob.as (.int .u8) (.row true false c' xs)).bind fun(xs:List Int)=>(ev Γ x).bind fun
    | .v .str (s:Str)=>gg (List.length xs+List.length s<=33554432) (
     let Γ':=Γ.kill (fun m=>m==l||m==L);K ((Γ'.new L (.row true false (.int .u8) (xs++intsOf s))).put d (.sl L)))
    |_=>none
   |_=>none
  |_=>none
 | .cq d f xs,Γ,K=>(lnqs Γ [] xs).bind fun q=>xq S d f q.1 q.2 Γ K
 | .xt d o i,Γ,K=>(ev Γ o).bind fun
  | .tu as=>(as[i]?).bind fun a=>K (Γ.put d a)
  |_=>none
 | .pn _,_,_=>none
 | .bl d c xs,Γ,K=>let Γ':=Γ.kill (hd d);(evs Γ' xs).bind fun as=>if as.all fun a=>a.stor&&(cellsOf a).length==c.sz then K ((Γ'.new [d] (.box (as.flatMap cellsOf))).put d (.ls [d] c as.length))else none
 | .apl d L c o t,Γ,K=>(lk Γ.tm t).bind fun
  | .ls l c' n=>(lo Γ.ob l).bind fun
   | .box ls=>(pkOs Γ.ob c (elemsOf c n ls)).bind fun r=>if c'=c∧c.nref=false∧(Nat.beq ls.length (n*c.sz)&&(Nat.ble n 33554432&&(nodB r.2&& !r.2.contains l)))=true then xap d L c o (.t t) (Γ.lit t l c r.1 r.2) K else none
   |_=>none
  |_=>none
 | .bf d c xs,Γ,K=>(evs Γ xs).bind fun as=>(pks Γ.ob c as).bind fun ys=>if refsL (fun _=>true) as then none else K (Γ.put d (.v (.slice c) ys))
 | .bo d c xs,Γ,K=>let Γ':=Γ.kill (hd d);(evs Γ' xs).bind fun as=>(pkOs Γ'.ob c as).bind fun r=>if nodB r.2 then(let Γ2:=Γ'.kill (fun m=>hd d m||inLs r.2 m);K ((Γ2.new [d] (.row true false c r.1)).put d (.sl [d])))else none
 | .mm d kk vk,Γ,K=>let Γ':=Γ.kill (hd d);K ((Γ'.new [d] (.mp kk vk [])).put d (.mp [d]))
 | .mu m k v kk vk,Γ,K=>(ev Γ m).bind fun
  | .mp l=>(lo Γ.ob l).bind fun
   | .mp kk' vk' es0=>(mpAs kk vk (.mp kk' vk' es0)).bind fun es=>(ev Γ k).bind fun a=>(AV.as kk a).bind fun x=>(ev Γ v).bind fun b=>(AV.as vk b).bind fun y=>if kk.key&& !vk.isSt then K ⟨Γ.tm,(l,.mp kk vk (mset es x y))::Γ.ob⟩else none
   |_=>none
  |_=>none
 | .ml d m k kk vk ok,Γ,K=>(ev Γ m).bind fun
  | .mp l=>(lo Γ.ob l).bind fun
   | .mp kk' vk' es0=>(mpAs kk vk (.mp kk' vk' es0)).bind fun es=>(ev Γ k).bind fun a=>(AV.as kk a).bind fun x=>if kk.key&& !vk.isSt then K (Γ.put d (if ok then .tu [.v vk (mgt es x),.v .bool (mhas es x)]else .v vk (mgt es x)))else none
   |_=>none
  |_=>none
 | .g t b i,Γ,K=>(lk Γ.tm t).bind fun
  | .v .bool (x:Bool)=>br (x==b) (xi i ⟨(t,.v .bool b)::Γ.tm,Γ.ob⟩ K) (K (Env.skip ⟨(t,.v .bool (!b))::Γ.tm,Γ.ob⟩ i.dst))
  | .ud=>K (Γ.skip i.dst)
  |_=>none
end
end Go.Q
namespace Go.Q
def SOK(S:XF)(Q:FuncId->List SA->RA->Prop):Prop:=∀f as (R:Type) (k:RA->Option R) r,S f as k=some r->∃q,Q f as q∧k q=some r
theorem bn{α β:Type}{x:Option α}{f:α->Option β}{g:α->Prop}{r:β}(h:x.bind f=some r)(hh:∀a,x=some a->f a=some r->g a):need x g:=by
 cases x with
 |none=>cases h
 |some a=>exact hh a rfl h
theorem gg_some{R:Type}{p:Prop}[Decidable p]{a:Option R}{r:R}(h:gg p a=some r):p∧a=some r:=by
 unfold gg at h
 split at h
 ·exact⟨‹_›,h⟩
 ·cases h
theorem it_some{R:Type}{p:Prop}[Decidable p]{a:Option R}{r:R}(h:(if p then a else none)=some r):p∧a=some r:=by
 split at h
 ·exact⟨‹_›,h⟩
 ·cases h
theorem frzB_ok:∀(c:Ki) (x:c.T),frzB c=true->frz c x
 | .slice c,x,_=>by rw[frz_slice];trivial
 | .int k,x,_=>by simp[frz,RA.intro,pkO,pkOL,as_v,need]
 | .bool,x,_=>by simp[frz,RA.intro,pkO,pkOL,as_v,need]
 | .str,x,_=>by simp[frz,RA.intro,pkO,pkOL,as_v,need]
 | .struct 0,x,_=>by rw[show frz _ x=True from frz_0 x];trivial
 | .struct 1,x,_=>by rw[show frz _ x=True from frz_1 x];trivial
 | .struct 2,x,_=>by rw[show frz _ x=True from frz_2 x];trivial
 | .struct 3,x,_=>by rw[show frz _ x=True from frz_3 x];trivial
 | .struct 4,x,_=>by rw[show frz _ x=True from frz_4 x];trivial
 | .struct 5,x,_=>by rw[show frz _ x=True from frz_5 x];trivial
 | .struct 6,x,_=>by rw[show frz _ x=True from frz_6 x];trivial
 | .struct 7,x,_=>by rw[show frz _ x=True from frz_7 x];trivial
 | .struct 8,x,_=>by rw[show frz _ x=True from frz_8 x];trivial
 | .struct 9,x,_=>by rw[show frz _ x=True from frz_9 x];trivial
 | .struct 10,x,_=>by rw[show frz _ x=True from frz_10 x];trivial
 | .struct 11,x,_=>by rw[show frz _ x=True from frz_11 x];trivial
 | .struct 12,x,_=>by rw[show frz _ x=True from frz_12 x];trivial
 | .struct 13,x,_=>by rw[show frz _ x=True from frz_13 x];trivial
 | .struct 14,x,_=>by rw[show frz _ x=True from frz_14 x];trivial
 | .struct 15,x,_=>by rw[show frz _ x=True from frz_15 x];trivial
 | .struct 16,x,_=>by rw[show frz _ x=True from frz_16 x];trivial
 | .struct 17,x,_=>by rw[show frz _ x=True from frz_17 x];trivial
 | .struct (n+18),x,h=>by simp[frzB]at h;omega
theorem xb_ok{R:Type}{b:BinOp}{x y:AV}{f:AV->Option R}{r:R}{F:AV->Prop}(hK:∀a,f a=some r->F a)(h:xb b x y f=some r):vb b x y F:=by
 unfold xb at h
 split at h<;>simp only[vb]<;>first
  |exact hK _ h
  |(cases h;done)
  |(obtain⟨e,h⟩:=it_some h;exact⟨e,hK _ h⟩)
  |(obtain⟨e,h⟩:=it_some h;obtain⟨e',h⟩:=gg_some h;exact⟨e,e',hK _ h⟩)
  |(obtain⟨e',h⟩:=gg_some h;exact⟨e',hK _ h⟩)
section
variable {S:XF} {Q:FuncId->List SA->RA->Prop}
theorem xap_ok{R:Type}{d L c o x Γ}{K:Env->Option R}{r:R}{K':Env->Prop}(hK:∀Γ',K Γ'=some r->K' Γ')(h:xap d L c o x Γ K=some r):vap d L c o x Γ K':=by
 unfold xap at h
 unfold vap
 refine bn h fun a ha h=> ?_
 cases a<;>try (cases h;done)
 refine bn h fun q hq h=> ?_
 rcases q with _|⟨dp,p,c',xs⟩|_<;>try (cases h;done)
 cases dp<;>cases p<;>try (cases h;done)
 refine⟨rfl,bn h fun ys hy h=>bn h fun a ha h=>bn h fun s hs h=> ?_⟩
 obtain⟨h1,h⟩:=it_some h
 obtain⟨h2,h⟩:=gg_some h
 simp only[Bool.and_eq_true,Bool.not_eq_true',List.contains_eq_mem,decide_eq_false_iff_not]at h1
 exact⟨nodB_nodup h1.1,h1.2,h2,hK _ h⟩
theorem xq_ok(hS:SOK S Q){R:Type}{d f as es Γ}{K:Env->Option R}{r:R}{K':Env->Prop}(hK:∀Γ',K Γ'=some r->K' Γ')(h:xq S d f as es Γ K=some r):vq Q d f as es Γ K':=by
 unfold xq at h
 unfold vq
 refine bn h fun p hp h=> ?_
 obtain⟨q,h1,h2⟩:=hS _ _ _ _ _ h
 cases q<;>try (cases h2;done)
 rename_i r0 os'
 obtain⟨h3,h⟩:=it_some h2
 simp only[Bool.and_eq_true,Bool.not_eq_true']at h3
 obtain⟨a1,a2,a3,a4,a5,a6⟩:=h3
 exact⟨r0,os',h1,(by intro e;subst e;simp at a1),a2,a3,a4,a5,(by simpa using a6),hK _ h⟩
theorem xi_ok(hS:SOK S Q):∀(i:I) {Γ:Env} {R:Type} {K:Env->Option R} {r:R} {K':Env->Prop},(∀Γ',K Γ'=some r->K' Γ')->xi S i Γ K=some r->vi Q i Γ K'
 | .mv d o,Γ,R,K,r,K',hK,h=>by
  simp only[xi]at h
  exact bn h fun a ha h=>hK _ h
 | .nck d o,Γ,R,K,r,K',hK,h=>by
  simp only[xi]at h
  refine bn h fun a ha h=> ?_
  rcases a with⟨c,x⟩|_|_|_|_|_|_|_|_|_|_|_<;>try (first|exact hK _ h|(cases h;done))
  rcases c with _|_|_|_|_|c<;>try (cases h;done)
  rcases x with _|y
  ·cases h
  ·exact⟨y,rfl,hK _ h⟩
 | .un d u o,Γ,R,K,r,K',hK,h=>by
  simp only[xi]at h
  exact bn h fun a ha h=>bn h fun b hb h=>hK _ h
 | .bi d b x y,Γ,R,K,r,K',hK,h=>by
  simp only[xi]at h
  exact bn h fun a ha h=>bn h fun b hb h=>xb_ok (fun a h=>hK _ h) h
 | .be d ne x y,Γ,R,K,r,K',hK,h=>by
  simp only[xi]at h
  refine bn h fun a ha h=> ?_
  rcases a with⟨c,x⟩|_|_|_|_|_|_|_|_|_|_|_<;>try (cases h;done)
  cases c<;>try (cases h;done)
  refine bn h fun a ha h=> ?_
  rcases a with⟨c,x⟩|_|_|_|_|_|_|_|_|_|_|_<;>try (cases h;done)
  cases c<;>try (cases h;done)
  exact hK _ h
 | .pk d c x y,Γ,R,K,r,K',hK,h=>by
  simp only[xi]at h
  refine bn h fun a ha h=> ?_
  rcases a with⟨c,b⟩|_|_|_|_|_|_|_|_|_|_|_<;>try (cases h;done)
  cases c<;>try (cases h;done)
  cases hx:ev Γ x with
  |none=>rw[hx]at h;cases h
  |some a=>
   cases hy:ev Γ y with
   |none=>rw[hx,hy]at h;cases h
   |some a'=>
    rw[hx,hy]at h
    dsimp only[Option.bind]at h
    split at h
    ·rename_i c u c' u'
     by_cases e:c'=c
     ·subst e
      rw[as_v]at h
      refine⟨fun e=> ?_,fun e=> ?_⟩<;>subst e<;>exact hK _ h
     ·have h0:AV.as c (.v c' u')=none:=by simp[AV.as,e]
      rw[h0]at h
      cases h
    ·refine⟨fun e=> ?_,fun e=> ?_⟩<;>subst e<;>exact hK _ h
 | .fa d o n j off,Γ,R,K,r,K',hK,h=>by
  simp only[xi]at h
  refine bn h fun a ha h=> ?_
  rcases a with⟨c,x⟩|_|_|_|_|_|_|_|_|_|_|_<;>try (first|exact hK _ h|(cases h;done))
  rcases c with _|_|_|_|_|c<;>try (cases h;done)
  rcases c with _|_|_|_|m|_<;>try (cases h;done)
  rcases x with _|y
  ·cases h
  ·refine⟨y,rfl,bn h fun z hz h=> ?_⟩
   rcases z with⟨c,x⟩|_|_|_|_|_|_|_|_|_|_|_<;>try (cases h;done)
   exact(it_some h).imp_right (hK _)
 | .ia d o i c,Γ,R,K,r,K',hK,h=>by
  simp only[xi]at h
  refine bn h fun a ha h=>bn h fun b hb h=> ?_
  rcases b with⟨c,n⟩|_|_|_|_|_|_|_|_|_|_|_<;>try (cases h;done)
  rcases c with k|_|_|_|_|_<;>try (cases h;done)
  rcases a with⟨c',xs⟩|l|_|_|_|_|_|_|_|_|_|_<;>try (cases h;done)
  ·rcases c' with _|_|_|c'|_|_<;>try (cases h;done)
   obtain⟨h1,h⟩:=it_some h
   obtain⟨h2,h⟩:=gg_some h
   exact⟨h1,h2.1,h2.2,hK _ h⟩
  ·refine bn h fun q hq h=> ?_
   rcases q with _|⟨dp,p,c',xs⟩|_<;>try (cases h;done)
   obtain⟨h1,h⟩:=it_some h
   obtain⟨h2,h⟩:=gg_some h
   exact⟨h1,h2.1,h2.2,hK _ h⟩
 | .ld d o c,Γ,R,K,r,K',hK,h=>by
  simp only[xi]at h
  refine bn h fun a ha h=> ?_
  rcases a with⟨c',x⟩|l|⟨l,off⟩|⟨l,c',i,off⟩|_|_|_|_|_|_|_|_<;>try (cases h;done)
  ·rcases c' with _|_|_|_|_|c'<;>try (cases h;done)
   rcases x with _|y
   ·cases h
   ·obtain⟨h1,h⟩:=it_some h
    exact⟨y,rfl,h1,hK _ h⟩
  ·refine bn h fun q hq h=> ?_
   rcases q with ls|⟨dp,p,c',xs⟩|_<;>try (cases h;done)
   cases c with
   |struct n=>obtain⟨h1,h⟩:=it_some h;exact⟨Nat.le_of_ble_eq_true h1,hK _ h⟩
   |_=>
    simp only at h⊢
    cases hl:ls[off]? with
    |none=>rw[hl]at h;cases h
    |some a=>rw[hl]at h;obtain⟨h1,h⟩:=it_some h;exact⟨a,rfl,h1,hK _ h⟩
  ·cases off with
   |succ _=>cases h
   |zero=>
    refine bn h fun q hq h=> ?_
    rcases q with ls|⟨dp,p,c2,xs⟩|_<;>try (cases h;done)
    obtain⟨h1,h⟩:=it_some h
    obtain⟨h2,h⟩:=gg_some h
    exact⟨h1.1,h1.2.1,h1.2.2,h2.1,h2.2,hK _ h⟩
 | .st o x c,Γ,R,K,r,K',hK,h=>by
  simp only[xi]at h
  refine bn h fun a ha h=> ?_
  rcases a with⟨c',x⟩|l|⟨l,off⟩|⟨l,c',i,off⟩|_|_|_|_|_|_|_|_<;>try (cases h;done)
  ·refine bn h fun q hq h=> ?_
   rcases q with ls|⟨dp,p,c',xs⟩|_<;>try (cases h;done)
   refine bn h fun a ha h=> ?_
   obtain⟨h1,h⟩:=it_some h
   simp only[Bool.and_eq_true]at h1
   exact⟨h1.1,Nat.eq_of_beq_eq_true h1.2.1,Nat.le_of_ble_eq_true h1.2.2,hK _ h⟩
  ·cases off with
   |succ _=>cases h
   |zero=>
    refine bn h fun q hq h=> ?_
    rcases q with ls|⟨dp,p,c2,xs⟩|_<;>try (cases h;done)
    cases dp with
    |true=>
     refine bn h fun a ha h=>bn h fun s hs h=> ?_
     obtain⟨h1,h⟩:=it_some h
     obtain⟨h2,h⟩:=gg_some h
     have h3:=h1.2
     simp only[Bool.and_eq_true,Bool.not_eq_true',List.contains_eq_mem,decide_eq_false_iff_not]at h3
     exact⟨h1.1.1,h1.1.2,h2.1,h2.2,nodB_nodup h3.1,h3.2,hK _ h⟩
    |false=>
     refine bn h fun a ha h=>bn h fun s hs h=> ?_
     obtain⟨h1,h⟩:=it_some h
     obtain⟨h2,h⟩:=gg_some h
     exact⟨h1.1.1,h1.1.2,h2.1,h2.2,h1.2,hK _ h⟩
 | .bx d o c,Γ,R,K,r,K',hK,h=>by
  simp only[xi]at h
  exact bn h fun a ha h=>(it_some h).imp_right (hK _)
 | .al d c,Γ,R,K,r,K',hK,h=>hK _ h
 | .ln d false o,Γ,R,K,r,K',hK,h=>by
  simp only[xi]at h
  refine bn h fun a ha h=> ?_
  rcases a with⟨c',x⟩|l|⟨l,off⟩|⟨l,c',i,off⟩|_|_|_|_|_|_|_|_<;>try (first|(cases h;done)|exact hK _ h)
  ·rcases c' with _|_|_|_|_|c'<;>try (cases h;done)
   exact fun _=>hK _ h
  ·refine bn h fun q hq h=> ?_
   rcases q with ls|⟨dp,p,c2,xs⟩|_<;>try (cases h;done)
   exact fun _=>hK _ h
 | .ln d true o,Γ,R,K,r,K',hK,h=>by
  simp only[xi]at h
  refine bn h fun a ha h=> ?_
  rcases a with⟨c',x⟩|l|⟨l,off⟩|⟨l,c',i,off⟩|_|_|_|_|_|_|_|_<;>try (cases h;done)
  rcases c' with _|_|_|_|_|c'<;>try (cases h;done)
  exact fun _=>hK _ h
 | .mk d deep c n,Γ,R,K,r,K',hK,h=>by
  simp only[xi]at h
  refine bn h fun a ha h=> ?_
  rcases a with⟨c',x⟩|l|⟨l,off⟩|⟨l,c',i,off⟩|_|_|_|_|_|_|_|_<;>try (cases h;done)
  rcases c' with _|_|_|_|_|c'<;>try (cases h;done)
  obtain⟨h1,h⟩:=it_some h
  obtain⟨h2,h⟩:=gg_some h
  exact⟨h2.1,h2.2,h1,hK _ h⟩
 | .ca d f xs,Γ,R,K,r,K',hK,h=>by
  simp only[xi]at h
  refine bn h fun as ha h=> ?_
  obtain⟨q,h1,h⟩:=hS _ _ _ _ _ h
  obtain⟨h2,h⟩:=it_some h
  exact⟨q,h1,by simpa using h2,hK _ h⟩
 | .cv d f xs,Γ,R,K,r,K',hK,h=>by
  simp only[xi]at h
  refine bn h fun as ha h=> ?_
  obtain⟨q,h1,h⟩:=hS _ _ _ _ _ h
  refine⟨q,h1,?_⟩
  cases q<;>try (cases h;done)
  ·obtain⟨h2,h⟩:=it_some h
   exact⟨by simpa using h2,hK _ h⟩
  ·obtain⟨h2,h⟩:=it_some h
   exact⟨frzB_ok _ _ h2,hK _ h⟩
 | .cfr d o xs,Γ,R,K,r,K',hK,h=>by
  simp only[xi]at h
  refine bn h fun f hf h=>bn h fun as ha h=> ?_
  obtain⟨q,h1,h⟩:=hS _ _ _ _ _ h
  cases q<;>try (cases h;done)
  obtain⟨h2,h⟩:=it_some h
  exact⟨_,_,h1,by simpa using h2,hK _ h⟩
 | .cf d o xs,Γ,R,K,r,K',hK,h=>by
  simp only[xi]at h
  refine bn h fun f hf h=>bn h fun as ha h=> ?_
  obtain⟨q,h1,h⟩:=hS _ _ _ _ _ h
  obtain⟨h2,h⟩:=it_some h
  exact⟨q,h1,by simpa using h2,hK _ h⟩
 | .bs d dp c [],Γ,R,K,r,K',hK,h=>hK _ h
 | .bs d dp c (x::xs),Γ,R,K,r,K',hK,h=>by
  simp only[xi]at h
  exact bn h fun as ha h=>bn h fun ys hy h=>(it_some h).imp_right (hK _)
 | .bd d n ps,Γ,R,K,r,K',hK,h=>by
  simp only[xi]at h
  exact bn h fun as ha h=>hK _ h
 | .an d dp c o x,Γ,R,K,r,K',hK,h=>by
  simp only[xi]at h
  refine bn h fun a ha h=> ?_
  rcases a with⟨c',x⟩|l|⟨l,off⟩|⟨l,c',i,off⟩|_|_|_|_|_|_|_|_<;>try (cases h;done)
  refine bn h fun a ha h=>bn h fun ys hy h=> ?_
  obtain⟨h1,h⟩:=it_some h
  obtain⟨h2,h⟩:=gg_some h
  exact⟨h1,h2,hK _ h⟩
 | .ap d L dp c o x,Γ,R,K,r,K',hK,h=>by
  simp only[xi]at h
  by_cases hd:(dp&& !c.nref)=true
  ·rw[if_pos hd]at h
   have hv:=xap_ok hK h
   simp only[vi]
   unfold vap at hv
   cases ho:ev Γ o with
   |none=>rw[ho]at hv;exact hv
   |some a=>
    rw[ho]at hv
    rcases a with⟨c',x⟩|l|⟨l,off⟩|⟨l,c',i,off⟩|_|_|_|_|_|_|_|_<;>try exact hv
    simp only[need]at hv⊢
    cases hq:lo Γ.ob l with
    |none=>rw[hq]at hv;exact hv
    |some q=>
     rw[hq]at hv
     rcases q with ls|⟨dp',p,c2,xs⟩|_<;>try exact hv
     cases p<;>try exact hv
     have hdt:dp=true:=by cases dp<;>simp_all
     subst hdt
     simp only at hv⊢
     refine⟨hv.1,?_⟩
     have hv2:=hv.2
     cases h1:Ob.as c (.row dp' false c2 xs)with
     |none=>rw[h1]at hv2;exact hv2
     |some ys=>
      rw[h1]at hv2
      cases h2:ev Γ x with
      |none=>rw[h2]at hv2;exact hv2
      |some b=>
       rw[h2]at hv2
       simp only[hd,if_true]
       exact hv2
  ·rw[if_neg hd]at h
   refine bn h fun a ha h=> ?_
   rcases a with⟨c',x⟩|l|⟨l,off⟩|⟨l,c',i,off⟩|_|_|_|_|_|_|_|_<;>try (cases h;done)
   refine bn h fun q hq h=> ?_
   rcases q with ls|⟨dp',p,c2,xs⟩|_<;>try (cases h;done)
   cases p<;>try (cases h;done)
   obtain⟨h1,h⟩:=it_some h
   refine⟨h1,bn h fun ys hy h=>bn h fun a ha h=> ?_⟩
   rw[if_neg hd]
   refine bn h fun zs hz h=> ?_
   obtain⟨h2,h⟩:=it_some h
   obtain⟨h3,h⟩:=gg_some h
   exact⟨h2,h3,hK _ h⟩
 | .ci d k o,Γ,R,K,r,K',hK,h=>by
  simp only[xi]at h
  refine bn h fun a ha h=> ?_
  rcases a with⟨c',x⟩|l|⟨l,off⟩|⟨l,c',i,off⟩|_|_|_|_|_|_|_|_<;>try (cases h;done)
  rcases c' with _|_|_|_|_|c'<;>try (cases h;done)
  exact hK _ h
 | .cs d o,Γ,R,K,r,K',hK,h=>by
  simp only[xi]at h
  exact bn h fun a ha h=>bn h fun xs hx h=>hK _ h
 | .ix d o i,Γ,R,K,r,K',hK,h=>by
  simp only[xi]at h
  refine bn h fun a ha h=> ?_
  rcases a with⟨c',x⟩|l|⟨l,off⟩|⟨l,c',i,off⟩|_|_|_|_|_|_|_|_<;>try (cases h;done)
  rcases c' with _|_|_|_|_|c'<;>try (cases h;done)
  refine bn h fun a ha h=> ?_
  rcases a with⟨c',x⟩|l|⟨l,off⟩|⟨l,c',i,off⟩|_|_|_|_|_|_|_|_<;>try (cases h;done)
  rcases c' with _|_|_|_|_|c'<;>try (cases h;done)
  obtain⟨h2,h⟩:=gg_some h
  exact⟨h2.1,h2.2,hK _ h⟩
 | .sx d o a b,Γ,R,K,r,K',hK,h=>by
  simp only[xi]at h
  refine bn h fun a ha h=> ?_
  rcases a with⟨c',x⟩|l|⟨l,off⟩|⟨l,c',i,off⟩|_|_|_|_|_|_|_|_<;>try (cases h;done)
  rcases c' with _|_|_|_|_|c'<;>try (cases h;done)
  refine bn h fun i hi h=>bn h fun j hj h=> ?_
  obtain⟨h2,h⟩:=gg_some h
  exact⟨h2.1,h2.2.1,h2.2.2,hK _ h⟩
 | .sa d L o x,Γ,R,K,r,K',hK,h=>by
  simp only[xi]at h
  refine bn h fun a ha h=> ?_
  rcases a with⟨c',x⟩|l|⟨l,off⟩|⟨l,c',i,off⟩|_|_|_|_|_|_|_|_<;>try (cases h;done)
  refine bn h fun q hq h=> ?_
  rcases q with ls|⟨dp',p,c2,xs⟩|_<;>try (cases h;done)
  cases dp'<;>cases p<;>try (cases h;done)
  refine bn h fun ys hy h=>bn h fun a ha h=> ?_
  rcases a with⟨c',x⟩|l|⟨l,off⟩|⟨l,c',i,off⟩|_|_|_|_|_|_|_|_<;>try (cases h;done)
  rcases c' with _|_|_|_|_|c'<;>try (cases h;done)
  exact(gg_some h).imp_right (hK _)
 | .cq d f xs,Γ,R,K,r,K',hK,h=>by
  simp only[xi]at h
  exact bn h fun q hq h=>xq_ok hS hK h
 | .xt d o i,Γ,R,K,r,K',hK,h=>by
  simp only[xi]at h
  refine bn h fun a ha h=> ?_
  rcases a with⟨c',x⟩|l|⟨l,off⟩|⟨l,c',i,off⟩|_|_|_|_|_|_|_|_<;>try (cases h;done)
  exact bn h fun b hb h=>hK _ h
 | .pn _,Γ,R,K,r,K',hK,h=>by cases h
 | .bl d c xs,Γ,R,K,r,K',hK,h=>by
  simp only[xi]at h
  exact bn h fun as ha h=>(it_some h).imp_right (hK _)
 | .apl d L c o t,Γ,R,K,r,K',hK,h=>by
  simp only[xi]at h
  refine bn h fun a ha h=> ?_
  rcases a with⟨c',x⟩|l|⟨l,off⟩|⟨l,c',i,off⟩|_|_|_|_|⟨c',xs⟩|_|⟨l,c',n⟩|_<;>try (cases h;done)
  refine bn h fun q hq h=> ?_
  rcases q with ls|⟨dp',p,c2,xs⟩|_<;>try (cases h;done)
  refine bn h fun s hs h=> ?_
  obtain⟨⟨h1,h2,h3⟩,h⟩:=it_some h
  simp only[Bool.and_eq_true,Bool.not_eq_true']at h3
  exact⟨h1,h2,Nat.eq_of_beq_eq_true h3.1,Nat.le_of_ble_eq_true h3.2.1,h3.2.2.1,h3.2.2.2,xap_ok hK h⟩
 | .bf d c xs,Γ,R,K,r,K',hK,h=>by
  simp only[xi]at h
  refine bn h fun a ha h=>bn h fun b hb h=> ?_
  split at h
  ·cases h
  ·rename_i hn
   exact⟨Bool.eq_false_iff.2 hn,hK _ h⟩
 | .bo d c xs,Γ,R,K,r,K',hK,h=>by
  simp only[xi]at h
  exact bn h fun a ha h=>bn h fun b hb h=>(it_some h).imp_right (hK _)
 | .mm d kk vk,Γ,R,K,r,K',hK,h=>hK _ h
 | .mu m k v kk vk,Γ,R,K,r,K',hK,h=>by
  simp only[xi]at h
  refine bn h fun a ha h=> ?_
  rcases a with⟨c',x⟩|l|⟨l,off⟩|⟨l,c',i,off⟩|_|_|_|_|⟨c',xs⟩|l|⟨l,c',n⟩|_<;>try (cases h;done)
  refine bn h fun q hq h=> ?_
  rcases q with ls|⟨dp',p,c2,xs⟩|_<;>try (cases h;done)
  refine bn h fun es he h=>bn h fun b hb h=>bn h fun x hx h=>bn h fun b hb h=>bn h fun y hy h=> ?_
  obtain⟨h1,h⟩:=it_some h
  simp only[Bool.and_eq_true,Bool.not_eq_true']at h1
  exact⟨h1.1,h1.2,hK _ h⟩
 | .ml d m k kk vk ok,Γ,R,K,r,K',hK,h=>by
  simp only[xi]at h
  refine bn h fun a ha h=> ?_
  rcases a with⟨c',x⟩|l|⟨l,off⟩|⟨l,c',i,off⟩|_|_|_|_|⟨c',xs⟩|l|⟨l,c',n⟩|_<;>try (cases h;done)
  refine bn h fun q hq h=> ?_
  rcases q with ls|⟨dp',p,c2,xs⟩|_<;>try (cases h;done)
  refine bn h fun es he h=>bn h fun b hb h=>bn h fun x hx h=> ?_
  obtain⟨h1,h⟩:=it_some h
  simp only[Bool.and_eq_true,Bool.not_eq_true']at h1
  exact⟨h1.1,h1.2,hK _ h⟩
 | .g t b i,Γ,R,K,r,K',hK,h=>by
  simp only[xi]at h
  refine bn h fun a ha h=> ?_
  rcases a with⟨c',x⟩|l|⟨l,off⟩|⟨l,c',i,off⟩|_|_|_|_|⟨c',xs⟩|l|⟨l,c',n⟩|_|_<;>try (first|exact hK _ h|(cases h;done))
  rcases c' with k|_|_|_|_|c'<;>try (cases h;done)
  refine⟨fun e=> ?_,fun e=> ?_⟩
  ·subst e
   dsimp only at h
   rw[beq_self_eq_true]at h
   exact xi_ok hS i hK h
  ·subst e
   have:(((!b)==b)=false):=by cases b<;>rfl
   dsimp only at h
   rw[this]at h
   exact hK _ h
end
end Go.Q
namespace Go.Q
section
variable (S:XF)
noncomputable def xs{R:Type}:List I->Env->(Env->Option R)->Option R
 | [],Γ,K=>K Γ
 |i::is,Γ,K=>xi S i Γ fun Γ'=>xs is Γ' K
def qS{R:Type}(B:Env->(Xt->Env->Option R)->Option R)(K:Xt->Env->Option R):Xt->Env->Option R
 | .nrm,Γ=>B Γ K
 | .ex j,Γ=>K (.ex j) Γ
 | .rt,Γ=>K .rt Γ
def qB{R:Type}(id:Nat)(K:Xt->Env->Option R):Xt->Env->Option R
 | .nrm,Γ=>K .nrm Γ
 | .ex j,Γ=>cond (Nat.beq j id) (K .nrm Γ) (K (.ex j) Γ)
 | .rt,Γ=>K .rt Γ
def qL{R:Type}(f:Env->Option R)(ts:List Nat)(ls:List Lab)(K:Xt->Env->Option R):Xt->Env->Option R
 | .nrm,Γ=>mark (f (Γ.keep ts ls))
 | .ex j,Γ=>K (.ex j) Γ
 | .rt,Γ=>K .rt Γ
def xit{R:Type}(ts:List Nat)(ls:List Lab)(B:Env->(Xt->Env->Option R)->Option R)(K:Xt->Env->Option R):Nat->Env->Option R
 |0,_=>none
 |n+1,Γ=>B Γ (qL (fun Γ=>xit ts ls B K n Γ) ts ls K)
abbrev qM{R:Type}(ts:List Nat)(ls:List Lab)(B:Env->(Xt->Env->Option R)->Option R)(n:Nat)(K:Xt->Env->Option R):Xt->Env->Option R:=qL (fun Γ=>xit ts ls B K n Γ) ts ls K
noncomputable def xc{R:Type}(n:Nat):C->Env->(Xt->Env->Option R)->Option R
 | .skip,Γ,K=>K .nrm Γ
 | .rg is,Γ,K=>xs S is Γ (K .nrm)
 | .dr ds ps ts,Γ,K=>xs S ps (Γ.pre ds) fun Γ'=>xs S ts Γ' (K .nrm)
 | .dq hs is d ps ts,Γ,K=>cond (hotC (Γ.pre [d]) hs d is) (xs S ps (Γ.pre [d]) fun Γ'=>xs S ts Γ' (K .nrm)) none
 | .dl hs is d ps d1 c xs ts,Γ,K=>cond (hotC (Γ.pre [d,d1]) hs d is) (Go.Q.xs S ps (Γ.pre [d,d1]) fun Γ'=>cond (freeB d1 Γ') (Go.Q.xs S (.bl d1 c xs::ts) Γ' (K .nrm)) none) none
 | .sq a b,Γ,K=>xc n a Γ (qS (xc n b) K)
 | .cd o a b,Γ,K=>(ev Γ o).bind fun
  | .v .bool (x:Bool)=>br x (xc n a Γ K) (xc n b Γ K)
  |_=>none
 | .bk id c,Γ,K=>xc n c Γ (qB id K)
 | .lp _,_,_=>none
 | .lk ts ls c,Γ,K=>mark (xit ts ls (xc n c) K n (Γ.keep ts ls))
 | .ex id,Γ,K=>K (.ex id) Γ
 | .rt,Γ,K=>K .rt Γ
 | .gt t dp k c,Γ,K=>(lk Γ.tm t).bind fun
  | .nl _=>let Γ':=Γ.kill (fun m=>m==[t]);xc n c ((Γ'.new [t] (.row dp false k [])).put t (.sl [t])) K
  |_=>xc n c Γ K
 | .kp ts ls c,Γ,K=>mark (xc n c (Γ.keep ts ls) K)
 | .zb t j k c,Γ,K=>(lk Γ.tm t).bind fun
  | .pt l 0=>(lo Γ.ob l).bind fun
   | .box ls=>(ls[j]?).bind fun
    | .sl m=>let Γ':=Γ.kill (fun m'=>m'==m);(lo Γ.ob m).bind fun q=>(pk [(m,q)] k (.sl m)).bind fun x=>(lo Γ'.ob l).bind fun
     | .box ls'=>xc n c ⟨Γ'.tm,(l,.box (setAt ls' j [.v k x]))::Γ'.ob⟩ K
     |_=>none
    |_=>xc n c Γ K
   |_=>none
  |_=>none
 | .gb t j dp k c,Γ,K=>(lk Γ.tm t).bind fun
  | .pt l 0=>let Γ':=Γ.kill (fun m=>m==l++[j]);(lo Γ'.ob l).bind fun
   | .box ls=>(ls[j]?).bind fun
    | .nl _=>xc n c (Env.mk Γ'.tm ((l++[j],.row dp false k [])::(l,.box (setAt ls j [.sl (l++[j])]))::Γ'.ob)) K
    |_=>xc n c Γ K
   |_=>none
  |_=>none
end
section
variable {S:XF} {Q:FuncId->List SA->RA->Prop} {P:Program} {N:Nat}
theorem xs_ok(hS:SOK S Q){R:Type}{r:R}:∀ {is:List I} {Γ:Env} {K:Env->Option R} {K':Env->Prop},(∀Γ',K Γ'=some r->K' Γ')->xs S is Γ K=some r->vs Q is Γ K'
 | [],_,_,_,hK,h=>hK _ h
 |i::_,_,_,_,hK,h=>xi_ok hS i (fun _ h=>xs_ok hS hK h) h
theorem xc_ok(hS:SOK S Q)(hP:∀f as r,Q f as r->Sp P f as r){R:Type}{r:R}(n:Nat):∀(c:C) {Γ:Env} {K:Xt->Env->Option R} {K':Xt->Env->Prop},(∀e Γ',K e Γ'=some r->K' e Γ')->xc S n c Γ K=some r->vc Q (Lq P N) c Γ K':=by
 intro c
 induction c with
 |skip=>intro Γ K K' hK h;exact hK _ _ h
 |rg is=>intro Γ K K' hK h;exact xs_ok hS (hK _) h
 |dr ds ps ts=>intro Γ K K' hK h;exact xs_ok hS (fun _ h=>xs_ok hS (hK _) h) h
 |dq hs is d ps ts=>
  intro Γ K K' hK h
  simp only[xc]at h
  cases hc:hotC (Γ.pre [d]) hs d is with
  |false=>rw[hc]at h;cases h
  |true=>rw[hc]at h;exact⟨hc,xs_ok hS (fun _ h=>xs_ok hS (hK _) h) h⟩
 |dl hs is d ps d1 c zs ts=>
  intro Γ K K' hK h
  simp only[xc]at h
  cases hc:hotC (Γ.pre [d,d1]) hs d is with
  |false=>rw[hc]at h;cases h
  |true=>
   rw[hc]at h
   refine⟨hc,xs_ok hS (fun Γ' h=> ?_) h⟩
   cases hq:freeB d1 Γ' with
   |false=>rw[hq]at h;cases h
   |true=>
    rw[hq]at h
    exact⟨rfl,xs_ok hS (hK _) h⟩
 |sq a b iha ihb=>
  intro Γ K K' hK h
  refine iha (fun e Γ' h=> ?_) h
  cases e with
  |nrm=>exact ihb hK h
  |ex j=>exact hK _ _ h
  |rt=>exact hK _ _ h
 |cd o a b iha ihb=>
  intro Γ K K' hK h
  simp only[xc]at h
  refine bn h fun a ha h=> ?_
  rcases a with⟨c',x⟩|l|⟨l,off⟩|⟨l,c',i,off⟩|_|_|_|_|_|_|_|_<;>try (cases h;done)
  rcases c' with k|_|_|_|_|c'<;>try (cases h;done)
  refine⟨fun e=> ?_,fun e=> ?_⟩<;>subst e
  ·exact iha hK h
  ·exact ihb hK h
 |bk id c ih=>
  intro Γ K K' hK h
  refine ih (fun e Γ' h=> ?_) h
  cases e with
  |nrm=>exact hK _ _ h
  |ex j=>
   simp only[qB]at h
   dsimp only
   cases hj:Nat.beq j id with
   |true=>rw[hj]at h;rw[if_pos (Nat.eq_of_beq_eq_true hj)];exact hK _ _ h
   |false=>rw[hj]at h;rw[if_neg (Nat.ne_of_beq_eq_false hj)];exact hK _ _ h
  |rt=>exact hK _ _ h
 |lp c ih=>intro Γ K K' hK h;cases h
 |lk ts ls c ih=>
  intro Γ K K' hK h
  refine Lq.introR hP (T:=Nat×Env) ts ls (fun t=>t.2) (fun t=>xit ts ls (xc S n c) K t.1 t.2=some r) (fun t=>t.1) ⟨(n,Γ.keep ts ls),h,rfl⟩
   (fun m e Γ'=>qM ts ls (xc S n c) (m-1) K e Γ'=some r∧0<m) (fun m Γ' h=> ?_) (fun m i Γ' h=>hK _ _ h.1) (fun m Γ' h=>hK _ _ h.1) (fun t ht=> ?_)
  ·exact⟨(m-1,Γ'.keep ts ls),h.1,Nat.sub_lt h.2 Nat.one_pos,rfl⟩
  ·obtain⟨m,Γ0⟩:=t
   cases m with
   |zero=>cases ht
   |succ m=>exact ih (fun e Γ' h=>⟨by cases e<;>exact h,Nat.succ_pos m⟩) ht
 |ex id=>intro Γ K K' hK h;exact hK _ _ h
 |rt=>intro Γ K K' hK h;exact hK _ _ h
 |gt t dp k c ih=>
  intro Γ K K' hK h
  simp only[xc]at h
  refine bn h fun a ha h=> ?_
  rcases a with⟨c',x⟩|l|⟨l,off⟩|⟨l,c',i,off⟩|_|_|_|_|_|_|_|_<;>exact ih hK h
 |kp ts ls c ih=>intro Γ K K' hK h;exact ih hK h
 |zb t j k c ih=>
  intro Γ K K' hK h
  simp only[xc]at h
  refine bn h fun a ha h=> ?_
  rcases a with⟨c',x⟩|l|⟨l,off⟩|⟨l,c',i,off⟩|_|_|_|_|_|_|_|_<;>try (cases h;done)
  cases off with
  |succ _=>cases h
  |zero=>
   refine bn h fun q hq h=> ?_
   rcases q with ls|⟨dp',p,c2,xs⟩|_<;>try (cases h;done)
   refine bn h fun a ha h=> ?_
   rcases a with⟨c',x⟩|m|⟨l,off⟩|⟨l,c',i,off⟩|_|_|_|_|_|_|_|_<;>try exact ih hK h
   refine bn h fun q2 hq2 h=>bn h fun x hx h=>bn h fun q3 hq3 h=> ?_
   rcases q3 with ls'|⟨dp',p,c2,xs⟩|_<;>try (cases h;done)
   exact ih hK h
 |gb t j dp k c ih=>
  intro Γ K K' hK h
  simp only[xc]at h
  refine bn h fun a ha h=> ?_
  rcases a with⟨c',x⟩|l|⟨l,off⟩|⟨l,c',i,off⟩|_|_|_|_|_|_|_|_<;>try (cases h;done)
  cases off with
  |succ _=>cases h
  |zero=>
   refine bn h fun q hq h=> ?_
   rcases q with ls|⟨dp',p,c2,xs⟩|_<;>try (cases h;done)
   refine bn h fun a ha h=> ?_
   rcases a with⟨c',x⟩|l|⟨l,off⟩|⟨l,c',i,off⟩|_|_|_|_|_|_|_|_<;>exact ih hK h
end
end Go.Q
namespace Go.Q
inductive Lf where
 |v (c:Ki)
 |o (c:Ki)
 |s (c:Ki)
inductive Sh where
 |v (c:Ki)
 |p (c:Ki)
 |fn (f:FuncId) (cs:List Ki)
 |sl (i:Nat)
 |pt (i off:Nat)
 |mp (i:Nat)
 |ag (n:Nat) (ls:List Sh)
 |fb (f:FuncId) (cs:List Sh)
 |row (dp:Bool) (c:Ki)
 |box (ls:List Lf)
 |lmp (kk vk:Ki)
@[reducible] def Lf.T : Lf -> Type
 | .v c=>c.T
 | .o c=>List c.T
 | .s c=>List c.T
@[reducible] def LfT : List Lf -> Type
 | []=>Unit
 |l::ls=>l.T×LfT ls
@[reducible] def KiT : List Ki -> Type
 | []=>Unit
 |c::cs=>c.T×KiT cs
mutual
@[reducible] def Sh.T : Sh -> Type
 | .v c=>c.T
 | .p c=>c.T
 | .fn _ cs=>KiT cs
 | .sl _=>Unit
 | .pt _ _=>Unit
 | .mp _=>Unit
 | .ag _ ls=>ShT ls
 | .fb _ cs=>ShT cs
 | .row _ c=>List c.T
 | .box ls=>LfT ls
 | .lmp kk vk=>List (kk.T×vk.T)
@[reducible] def ShT : List Sh -> Type
 | []=>Unit
 |s::ss=>s.T×ShT ss
end
def encL:(ls:List Lf)->LfT ls->List LV
 | [],_=>[]
 | .v c::ls,t=>.v c t.1::encL ls t.2
 | .o c::ls,t=>.o c t.1::encL ls t.2
 | .s c::ls,t=>.s c t.1::encL ls t.2
def encK:(cs:List Ki)->KiT cs->List (Sigma Ki.T)
 | [],_=>[]
 |c::cs,t=>⟨c,t.1⟩::encK cs t.2
mutual
def Sh.enc:(s:Sh)->s.T->SA
 | .v c,x=>.v c x
 | .p c,x=>.v (.ptr c) (some x:Option c.T)
 | .fn f cs,t=>.fn f (encK cs t)
 | .sl i,_=>.sl i
 | .pt i off,_=>.pt i off
 | .mp i,_=>.mp i
 | .ag n ls,t=>.ag n (enc ls t)
 | .fb f cs,t=>.fb f (enc cs t)
 | .row dp c,xs=>.lo (.row dp c xs)
 | .box ls,t=>.lo (.box (encL ls t))
 | .lmp kk vk,es=>.lo (.mp kk vk es)
def enc:(ss:List Sh)->ShT ss->List SA
 | [],_=>[]
 |s::ss,t=>s.enc t.1::enc ss t.2
end
def decL:(ls:List Lf)->List LV->Option (LfT ls)
 | [],[]=>some ()
 | .v c::ls,.v c' x::vs=>if h:c'=c then(decL ls vs).map fun t=>(h▸x,t)else none
 | .o c::ls,.o c' x::vs=>if h:c'=c then(decL ls vs).map fun t=>(h▸x,t)else none
 | .s c::ls,.s c' x::vs=>if h:c'=c then(decL ls vs).map fun t=>(h▸x,t)else none
 |_,_=>none
def decK:(cs:List Ki)->List (Sigma Ki.T)->Option (KiT cs)
 | [],[]=>some ()
 |c::cs,⟨c',x⟩::vs=>if h:c'=c then(decK cs vs).map fun t=>(h▸x,t)else none
 |_,_=>none
mutual
def Sh.dec:(s:Sh)->SA->Option s.T
 | .v c,.v c' x=>if h:c'=c then some (h▸x)else none
 | .p c,.v c' x=>if h:c'= .ptr c then(h▸x:(Ki.ptr c).T)else none
 | .fn f cs,.fn f' vs=>if f'=f then decK cs vs else none
 | .sl i,.sl j=>if j=i then some ()else none
 | .pt i off,.pt j off'=>if j=i∧off'=off then some ()else none
 | .mp i,.mp j=>if j=i then some ()else none
 | .ag n ls,.ag m ss=>if m=n then dec ls ss else none
 | .fb f cs,.fb g ss=>if g=f then dec cs ss else none
 | .row dp c,.lo (.row dp' c' xs)=>if h:dp'=dp∧c'=c then some (h.2▸xs)else none
 | .box ls,.lo (.box vs)=>decL ls vs
 | .lmp kk vk,.lo (.mp kk' vk' es)=>if h:kk'=kk∧vk'=vk then some (h.1▸h.2▸es)else none
 |_,_=>none
def dec:(ss:List Sh)->List SA->Option (ShT ss)
 | [],[]=>some ()
 |s::ss,a::as=>(s.dec a).bind fun x=>(dec ss as).map fun t=>(x,t)
 |_,_=>none
end
theorem decL_inv:∀ {ls:List Lf} {vs:List LV} {t:LfT ls},decL ls vs=some t->vs=encL ls t
 | [],[],_,_=>rfl
 | [],_::_,_,h=>by simp[decL]at h
 |l::ls,[],_,h=>by cases l<;>simp[decL]at h
 |l::ls,v::vs,t,h=>by
  cases l<;>cases v<;>simp only[decL,reduceCtorEq]at h
  all_goals
   split at h
   ·rename_i e
    subst e
    simp only[Option.map_eq_some_iff]at h
    obtain⟨t',h',rfl⟩:=h
    simp only[encL,decL_inv h']
   ·cases h
theorem decK_inv:∀ {cs:List Ki} {vs:List (Sigma Ki.T)} {t:KiT cs},decK cs vs=some t->vs=encK cs t
 | [],[],_,_=>rfl
 | [],_::_,_,h=>by simp[decK]at h
 |l::ls,[],_,h=>by simp[decK]at h
 |c::cs,⟨c',x⟩::vs,t,h=>by
  simp only[decK]at h
  split at h
  ·rename_i e
   subst e
   simp only[Option.map_eq_some_iff]at h
   obtain⟨t',h',rfl⟩:=h
   simp only[encK,decK_inv h']
  ·cases h
theorem v_inv{c:Ki}{a:SA}{t:(Sh.v c).T}(h:(Sh.v c).dec a=some t):a=(Sh.v c).enc t:=by
 cases a<;>simp only[Sh.dec,reduceCtorEq]at h
 split at h
 ·rename_i e;subst e;cases h;rfl
 ·cases h
theorem p_inv{c:Ki}{a:SA}{t:(Sh.p c).T}(h:(Sh.p c).dec a=some t):a=(Sh.p c).enc t:=by
 cases a<;>simp only[Sh.dec,reduceCtorEq]at h
 split at h
 ·rename_i e;subst e;simp only[Sh.enc];exact congrArg _ h
 ·cases h
theorem fn_inv{f:FuncId}{cs:List Ki}{a:SA}{t:(Sh.fn f cs).T}(h:(Sh.fn f cs).dec a=some t):a=(Sh.fn f cs).enc t:=by
 cases a<;>simp only[Sh.dec,reduceCtorEq]at h
 split at h
 ·rename_i e;subst e;simp only[Sh.enc,decK_inv h]
 ·cases h
theorem sl_inv{i:Nat}{a:SA}{t:(Sh.sl i).T}(h:(Sh.sl i).dec a=some t):a=(Sh.sl i).enc t:=by
 cases a<;>simp only[Sh.dec,reduceCtorEq]at h
 split at h
 ·rename_i e;subst e;rfl
 ·cases h
theorem pt_inv{i off:Nat}{a:SA}{t:(Sh.pt i off).T}(h:(Sh.pt i off).dec a=some t):a=(Sh.pt i off).enc t:=by
 cases a<;>simp only[Sh.dec,reduceCtorEq]at h
 split at h
 ·rename_i e;obtain⟨rfl,rfl⟩:=e;rfl
 ·cases h
theorem mp_inv{i:Nat}{a:SA}{t:(Sh.mp i).T}(h:(Sh.mp i).dec a=some t):a=(Sh.mp i).enc t:=by
 cases a<;>simp only[Sh.dec,reduceCtorEq]at h
 split at h
 ·rename_i e;subst e;rfl
 ·cases h
theorem row_inv{dp:Bool}{c:Ki}:∀ {a:SA} {t:List c.T},(Sh.row dp c).dec a=some t->a= .lo (.row dp c t)
 | .lo (.row dp' c' xs),t,h=>by
  simp only[Sh.dec]at h
  split at h
  ·rename_i e;obtain⟨rfl,rfl⟩:=e;cases h;rfl
  ·cases h
 | .lo (.box _),t,h=>by simp[Sh.dec]at h
 | .lo (.mp _ _ _),t,h=>by simp[Sh.dec]at h
 | .lo .gone,t,h=>by simp[Sh.dec]at h
 | .v _ _,t,h=>by simp[Sh.dec]at h
 | .io _ _,t,h=>by simp[Sh.dec]at h
 | .fn _ _,t,h=>by simp[Sh.dec]at h
 | .pt _ _,t,h=>by simp[Sh.dec]at h
 | .sl _,t,h=>by simp[Sh.dec]at h
 | .mp _,t,h=>by simp[Sh.dec]at h
 | .ag _ _,t,h=>by simp[Sh.dec]at h
 | .fb _ _,t,h=>by simp[Sh.dec]at h
theorem box_inv{ls:List Lf}:∀ {a:SA} {t:LfT ls},(Sh.box ls).dec a=some t->a= .lo (.box (encL ls t))
 | .lo (.box vs),t,h=>by
  simp only[Sh.dec]at h
  simp only[decL_inv h]
 | .lo (.row _ _ _),t,h=>by simp[Sh.dec]at h
 | .lo (.mp _ _ _),t,h=>by simp[Sh.dec]at h
 | .lo .gone,t,h=>by simp[Sh.dec]at h
 | .v _ _,t,h=>by simp[Sh.dec]at h
 | .io _ _,t,h=>by simp[Sh.dec]at h
 | .fn _ _,t,h=>by simp[Sh.dec]at h
 | .pt _ _,t,h=>by simp[Sh.dec]at h
 | .sl _,t,h=>by simp[Sh.dec]at h
 | .mp _,t,h=>by simp[Sh.dec]at h
 | .ag _ _,t,h=>by simp[Sh.dec]at h
 | .fb _ _,t,h=>by simp[Sh.dec]at h
theorem lmp_inv{kk vk:Ki}:∀ {a:SA} {t:List (kk.T×vk.T)},(Sh.lmp kk vk).dec a=some t->a= .lo (.mp kk vk t)
 | .lo (.mp kk' vk' es),t,h=>by
  simp only[Sh.dec]at h
  split at h
  ·rename_i e;obtain⟨rfl,rfl⟩:=e;cases h;rfl
  ·cases h
 | .lo (.box _),t,h=>by simp[Sh.dec]at h
 | .lo (.row _ _ _),t,h=>by simp[Sh.dec]at h
 | .lo .gone,t,h=>by simp[Sh.dec]at h
 | .v _ _,t,h=>by simp[Sh.dec]at h
 | .io _ _,t,h=>by simp[Sh.dec]at h
 | .fn _ _,t,h=>by simp[Sh.dec]at h
 | .pt _ _,t,h=>by simp[Sh.dec]at h
 | .sl _,t,h=>by simp[Sh.dec]at h
 | .mp _,t,h=>by simp[Sh.dec]at h
 | .ag _ _,t,h=>by simp[Sh.dec]at h
 | .fb _ _,t,h=>by simp[Sh.dec]at h
theorem ag_dec{n:Nat}{ls:List Sh}{a:SA}{t:ShT ls}(h:(Sh.ag n ls).dec a=some t):∃ss,a= .ag n ss∧dec ls ss=some t:=by
 cases a<;>simp only[Sh.dec,reduceCtorEq]at h
 split at h
 ·rename_i e;subst e;exact⟨_,rfl,h⟩
 ·cases h
theorem fb_dec{n:FuncId}{ls:List Sh}{a:SA}{t:ShT ls}(h:(Sh.fb n ls).dec a=some t):∃ss,a= .fb n ss∧dec ls ss=some t:=by
 cases a<;>simp only[Sh.dec,reduceCtorEq]at h
 split at h
 ·rename_i e;subst e;exact⟨_,rfl,h⟩
 ·cases h
mutual
theorem Sh.dec_inv:∀ {s:Sh} {a:SA} {t:s.T},s.dec a=some t->a=s.enc t
 | .v c,a,t,h=>v_inv h
 | .p c,a,t,h=>p_inv h
 | .fn f cs,a,t,h=>fn_inv h
 | .sl i,a,t,h=>sl_inv h
 | .pt i off,a,t,h=>pt_inv h
 | .mp i,a,t,h=>mp_inv h
 | .ag n ls,a,t,h=>by
  obtain⟨ss,rfl,h2⟩:=ag_dec h
  simp only[Sh.enc,dec_inv h2]
 | .fb n ls,a,t,h=>by
  obtain⟨ss,rfl,h2⟩:=fb_dec h
  simp only[Sh.enc,dec_inv h2]
 | .row dp c,a,t,h=>row_inv h
 | .box ls,a,t,h=>box_inv h
 | .lmp kk vk,a,t,h=>lmp_inv h
theorem dec_inv:∀ {ss:List Sh} {as:List SA} {t:ShT ss},dec ss as=some t->as=enc ss t
 | [],[],_,_=>rfl
 | [],_::_,_,h=>by simp[dec]at h
 |_::_,[],_,h=>by simp[dec]at h
 |s::ss,a::as,t,h=>by
  simp only[dec,Option.bind_eq_some_iff,Option.map_eq_some_iff]at h
  obtain⟨x,hx,t',ht,rfl⟩:=h
  simp only[enc,<-Sh.dec_inv hx,<-dec_inv ht]
end
@[reducible] def RM.T : RM -> Type
 | .v c=>c.T
 | .o c=>c.T
 | .s c=>List c.T
 | .cl c=>List c.T
 | .m kk vk=>List (kk.T×vk.T)
 | .b n=>Sty n
def RM.enc:(m:RM)->m.T->RA
 | .v c,x=>.v c x
 | .o c,x=>.o c x
 | .s c,x=>.s c x
 | .cl c,x=>.cl c x
 | .m kk vk,x=>.m kk vk x
 | .b n,x=>.b n x
def RM.dec:(m:RM)->RA->Option m.T
 | .v c,.v c' x=>if h:c'=c then some (h▸x)else none
 | .o c,.o c' x=>if h:c'=c then some (h▸x)else none
 | .s c,.s c' x=>if h:c'=c then some (h▸x)else none
 | .cl c,.cl c' x=>if h:c'=c then some (h▸x)else none
 | .m kk vk,.m kk' vk' es=>if h:kk'=kk∧vk'=vk then some (h.1▸h.2▸es)else none
 | .b n,.b n' x=>if h:n'=n then some (h▸x)else none
 |_,_=>none
@[reducible] def RMsT : List RM -> Type
 | []=>Unit
 | [m]=>m.T
 |m::m'::ms=>m.T×RMsT (m'::ms)
def encRl:(ms:List RM)->RMsT ms->List RA
 | [],_=>[]
 | [m],x=>[m.enc x]
 |m::m'::ms,t=>m.enc t.1::encRl (m'::ms) t.2
def decRl:(ms:List RM)->List RA->Option (RMsT ms)
 | [],[]=>some ()
 | [m],[r]=>m.dec r
 |m::m'::ms,r::rs=>(m.dec r).bind fun x=>(decRl (m'::ms) rs).map fun t=>(x,t)
 |_,_=>none
def encRs:(ms:List RM)->RMsT ms->RA
 | [m],x=>m.enc x
 |ms,t=>.t (encRl ms t)
def decRs:(ms:List RM)->RA->Option (RMsT ms)
 | [m],r=>m.dec r
 |ms,.t rs=>decRl ms rs
 |_,_=>none
theorem RM.dec_inv{m:RM}{r:RA}{x:m.T}(h:m.dec r=some x):r=m.enc x:=by
 cases m<;>cases r<;>simp only[RM.dec,reduceCtorEq]at h
 all_goals
  split at h
  ·rename_i e
   first
    |(subst e;cases h;rfl)
    |(obtain⟨rfl,rfl⟩:=e;cases h;rfl)
  ·cases h
theorem decRl_inv:∀ {ms:List RM} {rs:List RA} {t:RMsT ms},decRl ms rs=some t->rs=encRl ms t
 | [],[],_,_=>rfl
 | [],_::_,_,h=>by simp[decRl]at h
 | [m],[],_,h=>by simp[decRl]at h
 | [m],[r],t,h=>by rw[RM.dec_inv (m:=m) h];rfl
 | [m],_::_::_,_,h=>by simp[decRl]at h
 |_::_::_,[],_,h=>by simp[decRl]at h
 |m::m'::ms,r::rs,t,h=>by
  simp only[decRl,Option.bind_eq_some_iff,Option.map_eq_some_iff]at h
  obtain⟨x,hx,t',ht,rfl⟩:=h
  rw[RM.dec_inv hx,decRl_inv ht]
  rfl
theorem decRs_inv:∀ {ms:List RM} {r:RA} {t:RMsT ms},decRs ms r=some t->r=encRs ms t
 | [m],r,t,h=>RM.dec_inv (m:=m) h
 | [],r,t,h=>by
  cases r<;>simp only[decRs,reduceCtorEq]at h
  rw[decRl_inv h];rfl
 |m::m'::ms,r,t,h=>by
  cases r<;>simp only[decRs,reduceCtorEq]at h
  rw[decRl_inv h];rfl
inductive BS where
 |gone
 |row (dp:Bool) (c:Ki)
 |box (ls:List Lf)
 |mp (kk vk:Ki)
@[reducible] def BS.T : BS -> Type
 | .gone=>Unit
 | .row _ c=>List c.T
 | .box ls=>LfT ls
 | .mp kk vk=>List (kk.T×vk.T)
def BS.enc:(b:BS)->b.T->LO
 | .gone,_=>.gone
 | .row dp c,xs=>.row dp c xs
 | .box ls,t=>.box (encL ls t)
 | .mp kk vk,es=>.mp kk vk es
def skL:List Lf->List LV
 | []=>[]
 | .v c::ls=>.v c c.z::skL ls
 | .o c::ls=>.o c []::skL ls
 | .s c::ls=>.s c []::skL ls
def BS.sk:BS->LO
 | .gone=>.gone
 | .row dp c=>.row dp c []
 | .box ls=>.box (skL ls)
 | .mp kk vk=>.mp kk vk []
def BS.dec:(b:BS)->LO->Option b.T
 | .gone,.gone=>some ()
 | .row dp c,.row dp' c' xs=>if h:dp'=dp∧c'=c then some (h.2▸xs)else none
 | .box ls,.box vs=>decL ls vs
 | .mp kk vk,.mp kk' vk' es=>if h:kk'=kk∧vk'=vk then some (h.1▸h.2▸es)else none
 |_,_=>none
@[reducible] def BsT : List BS -> Type
 | []=>Unit
 | [b]=>b.T
 |b::b'::bs=>b.T×BsT (b'::bs)
def encBs:(bs:List BS)->BsT bs->List LO
 | [],_=>[]
 | [b],x=>[b.enc x]
 |b::b'::bs,t=>b.enc t.1::encBs (b'::bs) t.2
def decBs:(bs:List BS)->List LO->Option (BsT bs)
 | [],[]=>some ()
 | [b],[o]=>b.dec o
 |b::b'::bs,o::os=>(b.dec o).bind fun x=>(decBs (b'::bs) os).map fun t=>(x,t)
 |_,_=>none
theorem BS.dec_inv:∀ {b:BS} {o:LO} {x:b.T},b.dec o=some x->o=b.enc x
 | .gone,.gone,_,_=>rfl
 | .row dp c,.row dp' c' xs,x,h=>by
  simp only[BS.dec]at h
  split at h
  ·rename_i e;obtain⟨rfl,rfl⟩:=e;cases h;rfl
  ·cases h
 | .box ls,.box vs,x,h=>by
  simp only[BS.dec]at h
  simp only[BS.enc,decL_inv h]
 | .mp kk vk,.mp kk' vk' es,x,h=>by
  simp only[BS.dec]at h
  split at h
  ·rename_i e;obtain⟨rfl,rfl⟩:=e;cases h;rfl
  ·cases h
 | .gone,.row _ _ _,_,h| .gone,.box _,_,h| .gone,.mp _ _ _,_,h=>by simp[BS.dec]at h
 | .row _ _,.gone,_,h| .row _ _,.box _,_,h| .row _ _,.mp _ _ _,_,h=>by simp[BS.dec]at h
 | .box _,.gone,_,h| .box _,.row _ _ _,_,h| .box _,.mp _ _ _,_,h=>by simp[BS.dec]at h
 | .mp _ _,.gone,_,h| .mp _ _,.row _ _ _,_,h| .mp _ _,.box _,_,h=>by simp[BS.dec]at h
theorem decBs_inv:∀ {bs:List BS} {os:List LO} {t:BsT bs},decBs bs os=some t->os=encBs bs t
 | [],[],_,_=>rfl
 | [],_::_,_,h=>by simp[decBs]at h
 | [b],[],_,h=>by simp[decBs]at h
 | [b],[r],t,h=>by rw[BS.dec_inv (b:=b) h];rfl
 | [b],_::_::_,_,h=>by simp[decBs]at h
 |_::_::_,[],_,h=>by simp[decBs]at h
 |m::m'::ms,r::rs,t,h=>by
  simp only[decBs,Option.bind_eq_some_iff,Option.map_eq_some_iff]at h
  obtain⟨x,hx,t',ht,rfl⟩:=h
  rw[BS.dec_inv hx,decBs_inv ht]
  rfl
theorem lvxs_sk{ob:List (Lab×Ob)}:∀ {ls:List Lf} {t:LfT ls} {as:List AV},lvxs ob (encL ls t) as=lvxs ob (skL ls) as
 | [],_,_=>rfl
 | .v c::ls,t,[]=>rfl
 | .o c::ls,t,[]=>rfl
 | .s c::ls,t,[]=>rfl
 | .v c::ls,t,a::as=>by simp only[encL,skL,lvxs,lvxs_sk (ls:=ls),lvx]
 | .o c::ls,t,a::as=>by
  have e:lvx ob (.o c t.1) a=lvx ob (.o c []) a:=by cases a<;>rfl
  simp only[encL,skL,lvxs,lvxs_sk (ls:=ls),e]
 | .s c::ls,t,a::as=>by
  have e:lvx ob (.s c t.1) a=lvx ob (.s c []) a:=by cases a<;>rfl
  simp only[encL,skL,lvxs,lvxs_sk (ls:=ls),e]
theorem lox1_sk{ob:List (Lab×Ob)}{l:Lab}:∀ {b:BS} {t:b.T},lox1 ob l (b.enc t)=lox1 ob l b.sk
 | .gone,_=>rfl
 | .row _ _,_=>rfl
 | .mp _ _,_=>rfl
 | .box ls,t=>by simp only[BS.enc,BS.sk,lox1,lvxs_sk]
theorem loxs_sk{ob:List (Lab×Ob)}:∀ {bs:List BS} {t:BsT bs} {i:Nat},loxs ob i (encBs bs t)=loxs ob i (bs.map BS.sk)
 | [],_,_=>rfl
 | [b],t,i=>by simp only[encBs,List.map,loxs,lox1_sk]
 |b::b'::bs,t,i=>by
  have:=loxs_sk (ob:=ob) (bs:=b'::bs) (t:=t.2) (i:=i+1)
  simp only[encBs,List.map_cons,loxs,lox1_sk]at this⊢
  rw[this]
section
variable (vs:List RV)
def KF:Xt->Env->Option (RMsT (vs.map RV.m))
 | .ex _,_=>none
 | .nrm,Γ=>(rx Γ vs).bind (decRs _)
 | .rt,Γ=>(rx Γ vs).bind (decRs _)
def kq(bs:List BS)(Γ:Env):Option (RMsT (vs.map RV.m)×BsT bs):=(rxQ Γ vs).bind fun q=>(decRs _ q.1).bind fun x=>(loxs Γ.ob 0 (bs.map BS.sk)).bind fun p=>(decBs bs p.1).bind fun y=>if nodB (q.2++p.2)then some (x,y)else none
def KQ(bs:List BS):Xt->Env->Option (RMsT (vs.map RV.m)×BsT bs)
 | .ex _,_=>none
 | .nrm,Γ=>kq vs bs Γ
 | .rt,Γ=>kq vs bs Γ
theorem KF_fin{e:Xt}{Γ:Env}{x}(h:KF vs e Γ=some x):Fin vs (encRs _ x) e Γ:=by
 cases e<;>simp only[KF,Option.bind_eq_some_iff,reduceCtorEq]at h<;>(obtain⟨q,h1,h2⟩:=h;rw[<-decRs_inv h2];exact h1)
theorem kq_fin{bs:List BS}{Γ:Env}{x}(h:kq vs bs Γ=some x):need (rxQ Γ vs) fun q=>q.1=encRs _ x.1∧need (loxs Γ.ob 0 (encBs bs x.2)) fun p=>p.1=encBs bs x.2∧nodB (q.2++p.2)=true:=by
 unfold kq at h
 refine bn h fun q hq h=> ?_
 simp only[Option.bind_eq_some_iff]at h
 obtain⟨y,hy,p,hp,z,hz,h⟩:=h
 obtain⟨h1,h2⟩:=it_some h
 cases h2
 refine⟨decRs_inv hy,?_⟩
 rw[loxs_sk,hp]
 exact⟨decBs_inv hz,h1⟩
theorem KQ_fin{bs:List BS}{e:Xt}{Γ:Env}{x}(h:KQ vs bs e Γ=some x):FinQ vs (encRs _ x.1) (encBs bs x.2) e Γ:=by
 cases e with
 |ex j=>cases h
 |nrm=>exact kq_fin vs h
 |rt=>exact kq_fin vs h
end
abbrev Con:=List SA-> {R:Type}->(RA->Option R)->Option R
structure XE where
 f:FuncId
 dom:List SA->Bool
 con:Con
abbrev XT:=List XE
def XT.S:XT->XF
 | [],_,_,_,_=>none
 |e::T,f,as,_,k=>cond (Nat.beq f e.f&&e.dom as) (e.con as k) (XT.S T f as k)
def conOK(P:Program)(f:FuncId)(c:Con):Prop:=∀as (R:Type) (k:RA->Option R) r,c as k=some r->∃q,Sp P f as q∧k q=some r
def XT.ok(P:Program):XT->Prop
 | []=>True
 |e::T=>conOK P e.f e.con∧XT.ok P T
theorem XT.sound{P:Program}:∀ {T:XT},T.ok P->SOK T.S (Sp P)
 | [],_=>fun _ _ _ _ _ h=>by cases h
 |e::T,hT=>fun f as R k r h=>by
  simp only[XT.S]at h
  cases hc:(Nat.beq f e.f&&e.dom as)with
  |true=>
   rw[hc]at h
   simp only[Bool.and_eq_true]at hc
   rw[Nat.eq_of_beq_eq_true hc.1]
   exact hT.1 _ _ _ _ h
  |false=>rw[hc]at h;exact XT.sound hT.2 _ _ _ _ _ h
section
variable (f:FuncId) (ss:List Sh) (ms:List RM)
def eF(g:ShT ss->Option (RMsT ms)):XE:=⟨f,fun as=>(dec ss as).isSome,fun as _ k=>(dec ss as).bind fun t=>cb (g t) fun x=>k (encRs ms x)⟩
def decLos:List SA->Option (List LO)
 | []=>some []
 | .lo o::r=>(decLos r).map fun os=>o::os
 |_=>none
def decQ(ss:List Sh)(bl:List BS)(as:List SA):Option (ShT ss×BsT bl):=(dec ss (as.take ss.length)).bind fun t=>(decLos (as.drop ss.length)).bind fun os=>(decBs bl os).bind fun u=>some (t,u)
def eQ(bl bs:List BS)(g:ShT ss->BsT bl->Option (RMsT ms×BsT bs)):XE:=⟨f,fun as=>(decQ ss bl as).isSome,fun as _ k=>(decQ ss bl as).bind fun t=>cb (g t.1 t.2) fun x=>k (.q (encRs ms x.1) (encBs bs x.2))⟩
variable {P:Program} {f ss ms}
theorem eF_ok{g:ShT ss->Option (RMsT ms)}(h:∀t x,g t=some x->Sp P f (enc ss t) (encRs ms x)):conOK P f (eF f ss ms g).con:=by
 intro as R k r hr
 simp only[eF,cb,Option.bind_eq_some_iff]at hr
 obtain⟨t,ht,x,hx,hr⟩:=hr
 exact⟨_,by rw[dec_inv ht];exact h t x hx,hr⟩
theorem decLos_inv:∀ {as:List SA} {os:List LO},decLos as=some os->as=os.map SA.lo
 | [],_,h=>by cases h;rfl
 |a::r,os,h=>by
  cases a<;>simp only[decLos,reduceCtorEq,Option.map_eq_some_iff]at h
  obtain⟨os',h',rfl⟩:=h
  rw[decLos_inv h'];rfl
theorem decQ_inv{ss:List Sh}{bl:List BS}{as:List SA}{t:ShT ss×BsT bl}(h:decQ ss bl as=some t):as=enc ss t.1++(encBs bl t.2).map SA.lo:=by
 simp only[decQ,Option.bind_eq_some_iff]at h
 obtain⟨t',h1,os,h2,u,h3,h4⟩:=h
 cases h4
 rw[<-dec_inv h1,<-decBs_inv h3,<-decLos_inv h2,List.take_append_drop]
theorem eQ_ok{bl bs:List BS}{g:ShT ss->BsT bl->Option (RMsT ms×BsT bs)}(h:∀t u x,g t u=some x->Sp P f (enc ss t++(encBs bl u).map SA.lo) (.q (encRs ms x.1) (encBs bs x.2))):conOK P f (eQ f ss ms bl bs g).con:=by
 intro as R k r hr
 simp only[eQ,cb,Option.bind_eq_some_iff]at hr
 obtain⟨t,ht,x,hx,hr⟩:=hr
 exact⟨_,by rw[decQ_inv ht];exact h _ _ x hx,hr⟩
end
noncomputable def runF(T:XT)(n:Nat)(ss:List Sh)(vs:List RV)(c:C)(t:ShT ss):Option (RMsT (vs.map RV.m)):=xc T.S n c ⟨entry 0 (enc ss t),[]⟩ (KF vs)
noncomputable def runQ(T:XT)(n:Nat)(ss:List Sh)(bl bs:List BS)(vs:List RV)(c:C)(t:ShT ss)(u:BsT bl):Option (RMsT (vs.map RV.m)×BsT bs):=xc T.S n c ⟨entryQ 0 (enc ss t),obsE 0 (encBs bl u) (bs.map BS.sk)⟩ (KQ vs bs)
theorem enc_len:∀(ss:List Sh) (t:ShT ss),(enc ss t).length=ss.length
 | [],_=>rfl
 |_::ss,t=>by simp only[enc,List.length_cons,enc_len ss]
def BS.isGone:BS->Bool
 | .gone=>true
 |_=>false
def BS.like:BS->BS->Bool
 |_,.gone=>true
 | .box _,.box _=>true
 | .row d _,.row e _=>d==e
 | .mp _ _,.mp _ _=>true
 |_,_=>false
def likesB:List BS->List BS->Bool
 | [],[]=>true
 |a::as,b::bs=>a.like b&&likesB as bs
 |_,_=>false
theorem gone_enc:∀ {b:BS} {x:b.T},(b.enc x).isGone=b.sk.isGone
 | .gone,_=>rfl
 | .row _ _,_=>rfl
 | .box _,_=>rfl
 | .mp _ _,_=>rfl
theorem encBs_cons{b:BS}{bs:List BS}{t:BsT (b::bs)}:∃x u,encBs (b::bs) t=b.enc x::encBs bs u:=by
 cases bs with
 |nil=>exact⟨t,(),rfl⟩
 |cons c bs=>exact⟨t.1,t.2,rfl⟩
theorem obsE_sk:∀ {os:List LO} {bs:List BS} {t:BsT bs} {i:Nat},obsE i os (encBs bs t)=obsE i os (bs.map BS.sk)
 | [],[],_,_=>rfl
 | [],b::bs,t,i=>by obtain⟨x,u,e⟩:=encBs_cons (b:=b) (bs:=bs) (t:=t);rw[e];rfl
 |_::_,[],_,_=>rfl
 |o::os,b::bs,t,i=>by
  obtain⟨x,u,e⟩:=encBs_cons (b:=b) (bs:=bs) (t:=t)
  rw[e]
  simp only[List.map_cons,obsE,gone_enc,obsE_sk (os:=os) (bs:=bs) (t:=u) (i:=i+1)]
theorem like_enc:∀ {a b:BS} {x:a.T} {y:b.T},a.like b=true->(a.enc x).like (b.enc y)=true
 | .gone,.gone,_,_,_=>rfl
 | .row _ _,.gone,_,_,_=>rfl
 | .box _,.gone,_,_,_=>rfl
 | .mp _ _,.gone,_,_,_=>rfl
 | .box _,.box _,_,_,_=>rfl
 | .row _ _,.row _ _,_,_,h=>h
 | .mp _ _,.mp _ _,_,_,_=>rfl
 | .gone,.row _ _,_,_,h| .gone,.box _,_,_,h| .gone,.mp _ _,_,_,h=>by cases h
 | .row _ _,.box _,_,_,h| .row _ _,.mp _ _,_,_,h=>by cases h
 | .box _,.row _ _,_,_,h| .box _,.mp _ _,_,_,h=>by cases h
 | .mp _ _,.row _ _,_,_,h| .mp _ _,.box _,_,_,h=>by cases h
theorem likes_enc:∀ {as bs:List BS} {t:BsT as} {u:BsT bs},likesB as bs=true->likes (encBs as t) (encBs bs u)=true
 | [],[],_,_,_=>rfl
 | [],_::_,_,_,h=>by cases h
 |_::_,[],_,_,h=>by cases h
 |a::as,b::bs,t,u,h=>by
  simp only[likesB,Bool.and_eq_true]at h
  obtain⟨x,t',e⟩:=encBs_cons (b:=a) (bs:=as) (t:=t)
  obtain⟨y,u',e'⟩:=encBs_cons (b:=b) (bs:=bs) (t:=u)
  rw[e,e']
  simp only[likes,like_enc h.1,likes_enc h.2,Bool.and_self]
def Sh.noLo:Sh->Bool
 | .row _ _=>false
 | .box _=>false
 | .lmp _ _=>false
 |_=>true
theorem noLo_enc:∀ {ss:List Sh} {t:ShT ss},ss.all Sh.noLo=true->(enc ss t).all SA.noLo=true
 | [],_,_=>rfl
 |s::ss,t,h=>by
  simp only[List.all_cons,Bool.and_eq_true]at h
  have h1:(s.enc t.1).noLo=true:=by cases s<;>first|rfl|(simp[Sh.noLo]at h)
  simp only[enc,List.all_cons,h1,noLo_enc h.2,Bool.and_self]
section
variable {P:Program} {T:XT} (hT:T.ok P) {N n:Nat} {f:FuncId} {fn:Func} {c:C} {vs:List RV} {ss:List Sh}
include hT
theorem runF_ok(hfn:P.funcs[f]? =some fn)(hm:fnM P fn N c vs=true)(hn:Nat.ble ss.length N=true){t:ShT ss}{x}(h:runF T n ss vs c t=some x):Sp P f (enc ss t) (encRs _ x):=by
 have hx:∀(ms:List RM) (x:RMsT ms),(encRs ms x).isX=false:=by
  intro ms x
  cases ms with
  |nil=>rfl
  |cons m ms=>cases ms with
   |nil=>cases m<;>rfl
   |cons m' ms=>rfl
 exact Sp.intro (S:=Sp P) (fun _ _ _ h=>h) hfn hm (by rw[enc_len];exact hn) (xc_ok (XT.sound hT) (fun _ _ _ h=>h) n c (fun e Γ' h=>KF_fin vs h) h) (hx _ x)
theorem runQ_ok{bl bs:List BS}(hfn:P.funcs[f]? =some fn)(hm:fnM P fn N c vs=true)(hn:Nat.ble ss.length N=true)(hN:Nat.ble N 1000=true)(hlk:likesB bl bs=true)(hne:bl.isEmpty=false)(hlo:ss.all Sh.noLo=true)
  {t:ShT ss} {u:BsT bl} {x} (h:runQ T n ss bl bs vs c t u=some x):Sp P f (enc ss t++(encBs bl u).map SA.lo) (.q (encRs _ x.1) (encBs bs x.2)):=by
 refine Sp.introQ (S:=Sp P) (fun _ _ _ h=>h) hfn hm (by rw[enc_len];exact hn) hN (likes_enc hlk) ?_ (noLo_enc hlo) (xc_ok (XT.sound hT) (fun _ _ _ h=>h) n c (fun e Γ' h=>KQ_fin vs h) ?_)
 ·cases bl with
  |nil=>cases hne
  |cons b bl=>obtain⟨x,t',e⟩:=encBs_cons (b:=b) (bs:=bl) (t:=u);rw[e];rfl
 ·rw[obsE_sk];exact h
end
end Go.Q
namespace Go.Q
def Ty.h(t:Ty):Ty:=Ty.mk t.kind t.labels t.args
@[simp] theorem Ty.h_eq (t : Ty) : Ty.h t = t := by cases t; rfl
def Val.h(t:Val):Val:=Val.mk t.kind t.n t.labels t.args
@[simp] theorem Val.h_eq (t : Val) : Val.h t = t := by cases t; rfl
def Tm.h(t:Tm):Tm:=Tm.mk t.kind t.name t.n (Ty.h t.type) t.labels t.args
@[simp] theorem Tm.h_eq (t : Tm) : Tm.h t = t := by simp only [Tm.h, Ty.h_eq]; first | done | (cases t; rfl)
def TDecl.h(t:TDecl):TDecl:=TDecl.mk t.name (Ty.h t.row)
@[simp] theorem TDecl.h_eq (t : TDecl) : TDecl.h t = t := by simp only [TDecl.h, Ty.h_eq]; first | done | (cases t; rfl)
def Typing.h(t:Typing):Typing:=Typing.mk t.name (Ty.h t.type)
@[simp] theorem Typing.h_eq (t : Typing) : Typing.h t = t := by simp only [Typing.h, Ty.h_eq]; first | done | (cases t; rfl)
def Query.h(t:Query):Query:=Query.mk t.comps
@[simp] theorem Query.h_eq (t : Query) : Query.h t = t := by cases t; rfl
def Head.h(t:Head):Head:=Head.mk t.kind (Tm.h t.term) t.labels t.parts (Query.h t.query)
@[simp] theorem Head.h_eq (t : Head) : Head.h t = t := by simp only [Head.h, Tm.h_eq, Query.h_eq]; first | done | (cases t; rfl)
def Comp.h(t:Comp):Comp:=Comp.mk t.gens (Tm.h t.whr) (Head.h t.head)
@[simp] theorem Comp.h_eq (t : Comp) : Comp.h t = t := by simp only [Comp.h, Tm.h_eq, Head.h_eq]; first | done | (cases t; rfl)
def FComp.h(t:FComp):FComp:=FComp.mk t.outer t.outerGens t.tag t.gens (Tm.h t.whr) t.cols
@[simp] theorem FComp.h_eq (t : FComp) : FComp.h t = t := by simp only [FComp.h, Tm.h_eq]; first | done | (cases t; rfl)
def Plan.h(t:Plan):Plan:=Plan.mk t.kind t.var t.table (Tm.h t.cond) t.keys t.args
@[simp] theorem Plan.h_eq (t : Plan) : Plan.h t = t := by simp only [Plan.h, Tm.h_eq]; first | done | (cases t; rfl)
end Go.Q
namespace Go.Q
theorem gt_at{α:Type}(xs:List α)(i:Nat)(h:i<xs.length)(z:α):gt xs (i:Int) z=xs[i]:=by
 simp[gt,List.getD_eq_getElem?_getD,List.getElem?_eq_getElem h]
theorem wrap_id{n:Int}(h0: -9223372036854775808<=n)(h1:n<=9223372036854775807):IntKind.i64.wrap n=n:=by
 simp only[IntKind.wrap,IntKind.bits,IntKind.signed]
 simp
 omega
theorem wrap_nat{n:Nat}(h1:n<9223372036854775807):IntKind.i64.wrap ((n:Int)+1)=((n+1:Nat):Int):=by
 rw[wrap_id (by omega) (by omega)];rfl
end Go.Q
namespace Go.Q
def pfx{α:Type}(f:α->Nat)(a:List α)(i:Nat):Nat:=((a.take i).map f).sum
def szL{α:Type}(f:α->Nat)(a:List α):Nat:=a.length+(a.map f).sum
theorem pfx_succ{α:Type}(f:α->Nat)(a:List α){i:Nat}(h:i<a.length)(z:α):pfx f a (i+1)=pfx f a i+f (gt a (i:Int) z):=by
 rw[gt_at a i h]
 simp only[pfx,List.take_add_one,List.getElem?_eq_getElem h,Option.toList_some,List.map_append,List.sum_append,List.map_cons,List.map_nil,List.sum_cons,List.sum_nil]
 omega
theorem pfx_le{α:Type}(f:α->Nat):∀(a:List α) (i:Nat),pfx f a i<=(a.map f).sum
 | [],i=>by simp[pfx]
 |x::xs,0=>by simp[pfx]
 |x::xs,i+1=>by
  have:=pfx_le f xs i
  simp only[pfx,List.take_succ_cons,List.map_cons,List.sum_cons]at this⊢
  omega
end Go.Q
namespace Go.Q
theorem take_gt{α:Type}(a:List α){i:Nat}(h:i<a.length)(z:α):a.take i++[gt a (i:Int) z]=a.take (i+1):=by
 rw[gt_at a i h,List.take_add_one,List.getElem?_eq_getElem h]
 rfl
end Go.Q
namespace Go.Q
mutual
def zTy:Ty->Nat
 | .mk _ x1 x2=>szL List.length x1+zTys x2
def zTys:List Ty->Nat
 | []=>0
 |x::xs=>1+zTy x+zTys xs
end
theorem zTys_eq:∀(a:List Ty),zTys a=szL zTy a
 | []=>by simp[zTys,szL]
 |x::xs=>by
  have:=zTys_eq xs
  simp only[zTys,szL,List.length_cons,List.map_cons,List.sum_cons]at this⊢
  omega
theorem zTy_f(t:Ty):zTy t=szL List.length t.labels+szL zTy t.args:=by
 cases t;simp only[zTy,zTys_eq];rfl
theorem szL_at{α:Type}(f:α->Nat)(a:List α){i:Nat}(h:i<a.length)(z:α):1+f (gt a (i:Int) z)<=szL f a:=by
 have h1:=pfx_succ f a h z
 have h2:=pfx_le f a (i+1)
 unfold szL
 omega
end Go.Q
namespace Go.Q
end Go.Q
namespace Go.Q
theorem br_true{R:Type}(x y:Option R):br true x y=x:=rfl
theorem br_false{R:Type}(x y:Option R):br false x y=y:=rfl
theorem br_pos{R:Type}{p:Prop}[Decidable p](h:p)(x y:Option R):br (decide p) x y=x:=by rw[decide_eq_true h];rfl
theorem br_neg{R:Type}{p:Prop}[Decidable p](h:¬p)(x y:Option R):br (decide p) x y=y:=by rw[decide_eq_false h];rfl
theorem gg_pos{R:Type}{p:Prop}[Decidable p](h:p)(a:Option R):gg p a=a:=if_pos h
theorem cb_some{α R:Type}(a:α)(k:α->Option R):cb (some a) k=k a:=rfl
theorem mark_eq{R:Type}(a:Option R):mark a=a:=rfl
theorem w64_id{n:Int}(h0: -9223372036854775808<=n)(h1:n<=9223372036854775807):w64 n=n:=wrap_id h0 h1
theorem w64_nat{n:Nat}(h1:n<9223372036854775807):w64 ((n:Int)+1)=((n+1:Nat):Int):=wrap_nat h1
theorem Ty.kind_mk(x0 x1 x2):(Ty.mk x0 x1 x2).kind=x0:=rfl
theorem Ty.labels_mk(x0 x1 x2):(Ty.mk x0 x1 x2).labels=x1:=rfl
theorem Ty.args_mk(x0 x1 x2):(Ty.mk x0 x1 x2).args=x2:=rfl
theorem Val.kind_mk(x0 x1 x2 x3):(Val.mk x0 x1 x2 x3).kind=x0:=rfl
theorem Val.labels_mk(x0 x1 x2 x3):(Val.mk x0 x1 x2 x3).labels=x2:=rfl
theorem Val.args_mk(x0 x1 x2 x3):(Val.mk x0 x1 x2 x3).args=x3:=rfl
theorem Tm.kind_mk(x0 x1 x2 x3 x4 x5):(Tm.mk x0 x1 x2 x3 x4 x5).kind=x0:=rfl
theorem Tm.labels_mk(x0 x1 x2 x3 x4 x5):(Tm.mk x0 x1 x2 x3 x4 x5).labels=x4:=rfl
theorem Tm.args_mk(x0 x1 x2 x3 x4 x5):(Tm.mk x0 x1 x2 x3 x4 x5).args=x5:=rfl
theorem Head.kind_mk(x0 x1 x2 x3 x4):(Head.mk x0 x1 x2 x3 x4).kind=x0:=rfl
theorem Head.labels_mk(x0 x1 x2 x3 x4):(Head.mk x0 x1 x2 x3 x4).labels=x2:=rfl
theorem Plan.kind_mk(x0 x1 x2 x3 x4 x5):(Plan.mk x0 x1 x2 x3 x4 x5).kind=x0:=rfl
theorem Plan.args_mk(x0 x1 x2 x3 x4 x5):(Plan.mk x0 x1 x2 x3 x4 x5).args=x5:=rfl
theorem for_loop{σ R:Type}(L:Nat->Int->σ->Option R)(n:Nat)(st:Nat->σ)(r:Option R)(hs:∀m i,i<n->L (m+1) (i:Int) (st i)=L m ((i+1:Nat):Int) (st (i+1)))(he:∀m,L (m+1) (n:Int) (st n)=r):
  ∀f,n<f->L f 0 (st 0)=r:=by
 have key:∀k i,i+k=n->∀m,k<m->L m (i:Int) (st i)=r:=by
  intro k
  induction k with
  |zero=>
   intro i hi m hm
   obtain⟨m,rfl⟩:∃m',m=m'+1:=⟨m-1,by omega⟩
   have:i=n:=by omega
   subst this;exact he m
  |succ k ih=>
   intro i hi m hm
   obtain⟨m,rfl⟩:∃m',m=m'+1:=⟨m-1,by omega⟩
   rw[hs m i (by omega)]
   exact ih (i+1) (by omega) m (by omega)
 intro f hf
 exact key n 0 (by omega) f hf
theorem for_rel{σ R:Type}(L:Nat->Int->σ->Option R)(n:Nat)(I:Nat->σ->Prop)(Post:R->Prop)
  (hs:∀m i s,i<n->I i s->(∃r,L (m+1) (i:Int) s=some r∧Post r)∨∃s',I (i+1) s'∧L (m+1) (i:Int) s=L m ((i+1:Nat):Int) s')
  (he:∀m s,I n s->∃r,L (m+1) (n:Int) s=some r∧Post r):∀f s,n<f->I 0 s->∃r,L f 0 s=some r∧Post r:=by
 have key:∀k i,i+k=n->∀m s,k<m->I i s->∃r,L m (i:Int) s=some r∧Post r:=by
  intro k
  induction k with
  |zero=>
   intro i hi m s hm hI
   obtain⟨m,rfl⟩:∃m',m=m'+1:=⟨m-1,by omega⟩
   have:i=n:=by omega
   subst this;exact he m s hI
  |succ k ih=>
   intro i hi m s hm hI
   obtain⟨m,rfl⟩:∃m',m=m'+1:=⟨m-1,by omega⟩
   rcases hs m i s (by omega) hI with h|⟨s',h1,h2⟩
   ·exact h
   ·rw[h2];exact ih (i+1) (by omega) m s' (by omega) h1
 intro f s hf
 exact key n 0 (by omega) f s hf
def Rd(c:Ki)(x:c.T):Prop:=∃(F:Nat->Prop) (w:World) (u:List Value),Kx F w c x u
theorem Rd.len{c:Ki}{xs:List c.T}(h:Rd (.slice c) xs):xs.length<=9223372036854775807:=by
 obtain⟨F,w,u,h⟩:=h
 obtain⟨A,cap,e,h1,h2,h3⟩:=Kx_slice.1 h
 have:maxLen<=9223372036854775807:=by decide
 omega
theorem Rd.at{c:Ki}{xs:List c.T}(h:Rd (.slice c) xs){i:Nat}(hi:i<xs.length)(z:c.T):Rd c (gt xs (i:Int) z):=by
 obtain⟨F,w,u,h⟩:=h
 obtain⟨A,cap,e,h1,h2,h3⟩:=Kx_slice.1 h
 obtain⟨ad,es,_,_,_,_,h4⟩:=h3 i hi
 rw[gt_at xs i hi]
 exact⟨F,w,es,h4⟩
def RdAll:(cs:List Ki)->HL cs->Prop
 | [],_=>True
 |c::cs,h=>Rd c h.1∧RdAll cs h.2
theorem rdAll_of{F:Nat->Prop}{w:World}:∀ {cs:List Ki} {h:HL cs} {v:List Value},HAll (Kx F w) cs h v->RdAll cs h
 | [],_,_,_=>trivial
 |_::cs,_,_,⟨a,b,_,_,hp,hr⟩=>⟨⟨F,w,a,hp⟩,rdAll_of hr⟩
theorem Rd.st{n:Nat}{x:Sty n}(h:Rd (.struct n) x):RdAll (flds n) (un n x):=by
 obtain⟨F,w,u,h⟩:=h
 exact rdAll_of (Kx_struct.1 h)
end Go.Q
namespace Go.Q
abbrev TT:=List (TypeId×Ki)
def inT(T:TT)(t:TypeId)(c:Ki):Bool:=T.any fun p=>p.1==t&&decide (p.2=c)
section
variable (P:Program) (T:TT)
def fsOk:Nat->List Field->List Ki->Bool
 |_,[],[]=>true
 |o,f::fs,c::cs=>f.offset==o&&inT T f.type c&&P.cellsOf f.type==c.sz&&fsOk (o+c.sz) fs cs
 |_,_,_=>false
def tyOk:TypeId×Ki->Bool
 |(t,.int k)=>(match P.underlying t with|some (.int k')=>k==k'|_=>false)
 |(t,.bool)=>(match P.underlying t with|some .bool=>true|_=>false)
 |(t,.str)=>(match P.underlying t with|some .string=>true|_=>false)
 |(t,.slice c)=>(match P.underlying t with|some (.slice e)=>inT T e c&&P.cellsOf e==c.sz&&Nat.blt 0 c.sz|_=>false)
 |(t,.struct n)=>(match P.underlying t with|some (.struct fs)=>fsOk P T 0 fs.toList (flds n)&&P.cellsOf t==ssz n|_=>false)
 |(_,.ptr _)=>false
def ttOk:Bool:=T.all (tyOk P T)
end
theorem exists_list{α:Type}{n:Nat}{p:Nat->α->Prop}(h:∀i,i<n->∃x,p i x):∃xs:List α,xs.length=n∧∀i (hi:i<xs.length),p i xs[i]:=by
 induction n with
 |zero=>exact⟨[],rfl,fun i hi=>absurd hi (Nat.not_lt_zero _)⟩
 |succ n ih=>
  obtain⟨xs,hl,hx⟩:=ih fun i hi=>h i (Nat.lt_succ_of_lt hi)
  obtain⟨x,hp⟩:=h n (Nat.lt_succ_self n)
  refine⟨xs++[x],by simp[hl],fun i hi=> ?_⟩
  by_cases e:i<xs.length
  ·rw[List.getElem_append_left e];exact hx i e
  ·have e':i=n:=by simp at hi;omega
   subst e'
   rw[List.getElem_append_right (by omega)]
   simpa[hl]using hp
section
variable {P:Program} {T:TT} {H:Type} {enc:TypeId×Value->H} {w:World} {sp:Nat->Bool} {hd:Bool}
theorem ttOk_at(hT:ttOk P T=true){t:TypeId}{c:Ki}(h:inT T t c=true):tyOk P T (t,c)=true:=by
 simp only[inT,List.any_eq_true,Bool.and_eq_true,beq_iff_eq,decide_eq_true_eq]at h
 obtain⟨⟨t',c'⟩,hm,rfl,rfl⟩:=h
 exact List.all_eq_true.1 hT _ hm
theorem cell_lt{a:Addr}{u:Value}(h:w.cell? a=some u):a.block<w.heap.size:=by
 rcases Nat.lt_or_ge a.block w.heap.size with h'|h'
 ·exact h'
 ·simp[World.cell?,Array.getElem?_eq_none h']at h
theorem cells_of{a:Addr}{n:Nat}{cs:List Value}(h:w.cells? 0 a n=some cs):cs.length=n∧Cells w a cs:=by
 simp only[World.cells?,Nat.zero_le,if_true]at h
 have hl:=mapM_some_length h
 simp only[List.length_range]at hl
 refine⟨hl,fun j u hj=> ?_⟩
 have hlt:j<n:=hl▸(List.getElem?_eq_some_iff.1 hj).1
 have:=mapM_some_get h j j (by simp[hlt])
 rw[this,hj]
theorem fs_K{n:Nat}{F:Nat->Prop}(ih:∀ {t c cs x},inT T t c=true->DataW.trod enc P w 0 sp hd n t cs=some x->∃y:c.T,K F w n c y cs){cs:List Value}:∀ {fs:List Field} {ks:List Ki} {o:Nat},fsOk P T o fs ks=true->o+szs ks<=cs.length->
  (∀f∈fs,∃r,DataW.trod enc P w 0 sp hd n f.type ((cs.drop f.offset).take (P.cellsOf f.type))=some r)->∃h:HL ks,HAll (K F w n) ks h ((cs.drop o).take (szs ks))
 | [],[],o,_,_,_=>⟨(),by simp[szs,HAll]⟩
 | [],_::_,_,h,_,_=>by simp[fsOk]at h
 |_::_,[],_,h,_,_=>by simp[fsOk]at h
 |f::fs,c::ks,o,h,hl,hr=>by
  simp only[fsOk,Bool.and_eq_true,beq_iff_eq]at h
  obtain⟨⟨⟨rfl,ht⟩,hc⟩,hfs⟩:=h
  simp only[szs]at hl⊢
  obtain⟨r,h1⟩:=hr f (by simp)
  obtain⟨y,hy⟩:=ih ht h1
  obtain⟨hh,hhy⟩:=fs_K ih hfs (by omega) fun g hg=>hr g (List.mem_cons_of_mem _ hg)
  rw[hc]at hy
  refine⟨(y,hh),(cs.drop f.offset).take c.sz,(cs.drop (f.offset+c.sz)).take (szs ks),?_,by simp;omega,hy,hhy⟩
  rw[<-List.drop_drop,<-List.take_add]
theorem trod_K(hT:ttOk P T=true):∀ {fuel:Nat} {t:TypeId} {c:Ki} {cs:List Value} {x:DataW H×List MemPlace},inT T t c=true->DataW.trod enc P w 0 sp hd fuel t cs=some x->∃y:c.T,K (fun b=>b<w.heap.size) w fuel c y cs:=by
 intro fuel
 induction fuel with
 |zero=>intro t c cs x _ h;simp[DataW.trod]at h
 |succ fuel ih=>
  intro t c cs x hin h
  have hty:=ttOk_at hT hin
  cases c with
  |int k=>
   simp only[tyOk]at hty
   split at hty
   ·rename_i k' hu
    obtain rfl:k=k':=by simpa using hty
    obtain⟨n,rfl,_,hw⟩:=DataW.trod_int hu h
    refine⟨n,rfl,?_⟩
    simpa[Lit.wf,inR]using hw
   ·cases hty
  |bool=>
   simp only[tyOk]at hty
   split at hty
   ·rename_i hu
    obtain⟨b,rfl,_⟩:=DataW.trod_bool hu h
    exact⟨b,rfl⟩
   ·cases hty
  |str=>
   simp only[tyOk]at hty
   split at hty
   ·rename_i hu
    obtain⟨s,rfl,_,hs⟩:=DataW.trod_string hu h
    refine⟨s.data.toList,by simp,?_⟩
    have:s.data.size=s.size:=rfl
    simp only[Array.length_toList]
    omega
   ·cases hty
  |slice c=>
   simp only[tyOk]at hty
   split at hty
   ·rename_i e hu
    simp only[Bool.and_eq_true,beq_iff_eq]at hty
    obtain⟨⟨hin',hsz⟩,hpos⟩:=hty
    have hpos':0<c.sz:=by simpa[Nat.blt_eq]using hpos
    rcases DataW.trod_slice hu h with⟨rfl,_⟩|⟨a,len,cap,elems,rest,n,hn,rfl,_,_,hl,hcap,hel,hat,_,_⟩
    ·exact⟨[],none,0,rfl,Nat.le_refl _,Nat.zero_le _,fun i hi=>absurd hi (Nat.not_lt_zero _)⟩
    ·cases hn
     have key:∀i,i<len->∃y:c.T,∃es,es.length=c.sz∧Cells w (a.add (i*c.sz)) es∧K (fun b=>b<w.heap.size) w fuel c y es:=fun i hi=>by
      have h1:=hat i hi
      rw[hsz]at h1
      have h2:elems[i]? =some elems[i]:=List.getElem?_eq_getElem (by omega)
      rw[h2,Option.bind_eq_some_iff]at h1
      obtain⟨es,hcs,htr⟩:=h1
      obtain⟨hlen,hcells⟩:=cells_of hcs
      obtain⟨y,hy⟩:=ih hin' htr
      exact⟨y,es,hlen,hcells,hy⟩
     obtain⟨xs,hxl,hx⟩:=exists_list key
     refine⟨xs,some a,cap,by rw[hxl],by omega,hcap,fun i hi=> ?_⟩
     obtain⟨es,h1,h2,h3⟩:=hx i hi
     refine⟨a,es,rfl,?_,h1,h2,h3⟩
     obtain⟨e0,he0⟩:∃e0,es[0]? =some e0:=⟨es[0]'(by omega),List.getElem?_eq_getElem (by omega)⟩
     have:=cell_lt (h2 0 e0 he0)
     have hb:((a.add (i*c.sz)).add 0).block=a.block:=by
      unfold Addr.add
      split<;>split<;>rfl
     rwa[hb]at this
   ·cases hty
  |struct n=>
   simp only[tyOk]at hty
   split at hty
   ·rename_i fs hu
    simp only[Bool.and_eq_true,beq_iff_eq]at hty
    obtain⟨hfs,hsz⟩:=hty
    obtain⟨xs,m,hm,_,hlen,hxl,hat⟩:=DataW.trod_struct hu h
    cases hm
    have hall:∀f∈fs.toList,∃r,DataW.trod enc P w 0 sp hd fuel f.type ((cs.drop f.offset).take (P.cellsOf f.type))=some r:=fun f hf=>by
     obtain⟨i,hi⟩:=List.getElem?_of_mem hf
     have hi':fs[i]? =some f:=by simpa using hi
     have hlt:i<fs.size:=(Array.getElem?_eq_some_iff.1 hi').1
     exact⟨xs[i]'(by omega),(hat i f hi').trans (List.getElem?_eq_getElem (by omega))⟩
    obtain⟨hh,hhy⟩:=fs_K ih hfs (by rw[hlen,hsz,ssz_flds];omega) hall
    refine⟨mk n hh,?_⟩
    show HAll _ (flds n) (un n (mk n hh)) cs
    rw[un_mk]
    rw[List.drop_zero,List.take_of_length_le (by rw[hlen,hsz,ssz_flds];omega)]at hhy
    exact hhy
   ·cases hty
  |ptr c=>simp[tyOk]at hty
theorem trod_arg(hT:ttOk P T=true){t:TypeId}{c:Ki}{v:Value}{d:DataW H}{ps:List MemPlace}{r:Reach}{base:Nat}(hin:inT T t c=true)(hval:Value.okWide P w r base t v)(h:DataW.Trod enc P w 0 sp hd t v d ps):
  ∃x:c.T,RepV (fun _=>undef) (fun b=>b<w.heap.size) w (.v c x) v:=by
 obtain⟨fuel,h⟩:=h
 obtain⟨x,hx⟩:=trod_K hT hin h
 refine⟨x,RepV_cells ⟨fuel,hx⟩ ?_⟩
 have hty:=ttOk_at hT hin
 cases c with
 |int k=>
  simp only[tyOk]at hty
  split at hty
  ·rename_i k' hu
   obtain⟨n,rfl⟩:=WideShapes.okWide_int hu hval
   simp[valOf,Ki.isS,Value.cells]
  ·cases hty
 |bool=>
  simp only[tyOk]at hty
  split at hty
  ·rename_i hu
   obtain⟨n,rfl⟩:=WideShapes.okWide_bool hu hval
   simp[valOf,Ki.isS,Value.cells]
  ·cases hty
 |str=>
  simp only[tyOk]at hty
  split at hty
  ·rename_i hu
   obtain⟨n,rfl⟩:=WideShapes.okWide_string hu hval
   simp[valOf,Ki.isS,Value.cells]
  ·cases hty
 |slice c=>
  simp only[tyOk]at hty
  split at hty
  ·rename_i e hu
   obtain⟨a,l,cp,rfl⟩:=WideShapes.okWide_slice hu hval
   simp[valOf,Ki.isS,Value.cells]
  ·cases hty
 |struct n=>
  simp only[tyOk]at hty
  split at hty
  ·rename_i fs hu
   obtain⟨cs,rfl,_⟩:=WideShapes.okWide_struct hu hval
   simp[valOf,Ki.isS,Value.cells]
  ·cases hty
 |ptr c=>simp[tyOk]at hty
end
end Go.Q
namespace Go.Q
open Go.ChangeShapes Go.WideShapes Go.RowKit
def Kinds:List Ki->List SA->Prop
 | [],[]=>True
 |c::cs,.v c' _::r=>c=c'∧Kinds cs r
 |_,_=>False
def inTs(T:TT):List TypeId->List Ki->Bool
 | [],[]=>true
 |t::ts,c::cs=>inT T t c&&inTs T ts cs
 |_,_=>false
section
variable {P:Program} {T:TT} {H:Type} {enc:TypeId×Value->H} {w:World}
theorem trod_args(hT:ttOk P T=true){base:Nat}:∀ {ts:List TypeId} {ks:List Ki} {vs:List Value} {ds:List (DataW H)} {ps:List MemPlace},inTs T ts ks=true->(∀(j:Nat) t v,ts[j]? =some t->vs[j]? =some v->Value.okWide P w .any base t v)->
  DataW.TrodAll enc P w 0 (fun _=>true) true ts vs ds ps->∃as,Kinds ks as∧ArgsR (fun b=>b<w.heap.size) w as vs
 | [],[],vs,ds,ps,_,_,h=>by
  obtain⟨rfl,rfl,rfl⟩:=trodAll_nil h
  exact⟨[],trivial,rfl⟩
 | [],_::_,_,_,_,hi,_,_=>by simp[inTs]at hi
 |_::_,[],_,_,_,hi,_,_=>by simp[inTs]at hi
 |t::ts,c::ks,vs,ds,ps,hi,hv,h=>by
  simp only[inTs,Bool.and_eq_true]at hi
  obtain⟨v,vs',d,ds',a,b,rfl,rfl,rfl,h1,h2⟩:=trodAll_cons h
  obtain⟨x,hx⟩:=trod_arg hT hi.1 (hv 0 t v rfl rfl) h1
  obtain⟨as,hk,has⟩:=trod_args hT hi.2 (fun j t v h h'=>hv (j+1) t v (by simpa using h) (by simpa using h')) h2
  exact⟨.v c x::as,⟨rfl,hk⟩,v,vs',rfl,hx,has⟩
theorem trod_stay(hl:laidOutB P=true){W':World}(hb:Below w.heap.size w W'):∀ {ts:List TypeId} {vs:List Value} {ds:List (DataW H)} {ps:List MemPlace},(∀t∈ts,P.readableRec t=true∧t<P.types.size)->(∀x∈ps,x.block<w.heap.size)->
  DataW.TrodAll enc P w 0 (fun _=>true) true ts vs ds ps->DataW.TrodAll enc P W' 0 (fun b=>decide (b<w.heap.size)) true ts vs ds ps
 | [],vs,ds,ps,_,_,h=>by
  obtain⟨rfl,rfl,rfl⟩:=trodAll_nil h
  exact trodAll_mk0
 |t::ts,vs,ds,ps,hr,hp,h=>by
  obtain⟨v,vs',d,ds',a,b,rfl,rfl,rfl,h1,h2⟩:=trodAll_cons h
  exact⟨a,b,Below.trod hl (hr t (by simp)).1 (hr t (by simp)).2 h1 hb (fun x hx=>hp x (List.mem_append_left _ hx)),trod_stay hl hb (fun t ht=>hr t (List.mem_cons_of_mem _ ht)) (fun x hx=>hp x (List.mem_append_right _ hx)) h2,rfl⟩
theorem Ext.below{ow':Own}{W W':World}(h:Ext (fun _=>none) W ow' W'):Below W.heap.size W W':=
 ⟨h.os,h.tape,h.output,h.size,fun k hk=>(h.block k hk rfl).2⟩
theorem law_postL{f:FuncId}{fn:Func}{s:ChangeSpec}{ks:List Ki}{tb:TypeId}(hT:ttOk P T=true)(hl:laidOutB P=true)(hin:inTs T fn.params.toList ks=true)
  (hread:fn.params.toList.all (fun t=>P.readableRec t&&decide (t<P.types.size))=true) (hres:fn.resultTypes= #[tb]) (htb:P.underlying tb=some .bool) (hvars:s.vars=[])
  (hspec:∀as:List SA,Kinds ks as->∀(ds:List (DataW H)),ds.length=ks.length->(s.fn H (ds++[])).results=[.lit (.bool true)]∧(s.fn H (ds++[])).args=ds∧(s.fn H (ds++[])).vars=[])
  (hlaw:∀as,Kinds ks as->Sp P f as (.v .bool true))
  (W:World) (hLd:Laid (tabs P) (fun b=>b<W.heap.size) W) (base:Nat) (args:Array Value) (ds gs:List (DataW H)) (before:List MemPlace)
  (hval:∀(j:Nat) t v,fn.params[j]? =some t->args[j]? =some v->Value.okWide P W .any base t v)
  (hW:DataW.Whole enc P fn.params.toList s.vars false W args.toList ds gs before):
  Calls P f args W fun e W'=>∃v,e= .returned v∧s.post enc P fn false true false false W args v W':=by
 have hW':=hW
 obtain⟨p,q,hA,hV,rfl,_,_⟩:=hW
 rw[hvars]at hV
 obtain⟨rfl,rfl⟩:=trodVars_none hV
 simp only[List.append_nil]at hW'
 have hlt:∀x∈p,x.block<W.heap.size:=fun x hx=>by simpa using hW'.lt x hx
 obtain⟨as,hk,has⟩:=trod_args hT hin (fun j t v h h'=>hval j t v (by simpa using h) (by simpa using h')) hA
 have hlen:∀ {ts:List TypeId} {ks:List Ki} {vs:List Value} {ds:List (DataW H)} {ps:List MemPlace},inTs T ts ks=true->DataW.TrodAll enc P W 0 (fun _=>true) true ts vs ds ps->ds.length=ks.length:=by
  intro ts
  induction ts with
  |nil=>intro ks vs ds ps hi h;cases ks with
   |nil=>obtain⟨_,rfl,_⟩:=trodAll_nil h;rfl
   |cons _ _=>simp[inTs]at hi
  |cons t ts ih=>intro ks vs ds ps hi h;cases ks with
   |nil=>simp[inTs]at hi
   |cons c ks=>
    simp only[inTs,Bool.and_eq_true]at hi
    obtain⟨v,vs',d,ds',a,b,rfl,rfl,rfl,h1,h2⟩:=trodAll_cons h
    simp[ih hi.2 h2]
 obtain⟨e1,e2,e3⟩:=hspec as hk ds (hlen hin hA)
 have hc:=(hlaw as hk).2.1 (fun b=>b<W.heap.size) W args.toList (fun b h=>h) hLd has
 have harr:args.toList.toArray=args:=by simp
 rw[harr]at hc
 refine hc.mono fun e W' h=> ?_
 obtain⟨u,ow',rfl,hR,he⟩:=h
 obtain⟨σ,hV,_⟩:=hR
 obtain rfl:u= .bool true:=RepV_bool.1 hV
 have hb:=he.below
 refine⟨_,rfl,⟨ds,[],p,[],p,[],hW',?_,?_,?_,hb.frame _,fun h=>by cases h⟩⟩
 ·rw[e1,hres]
  exact trodAll_cons_mk (shut_bool htb _) trodAll_mk0
 ·rw[e2]
  exact trod_stay hl hb (fun t ht=>by
   have:=List.all_eq_true.1 hread t ht
   simpa using this) hlt hA
 ·rw[e3,hvars]
  rfl
theorem law_post{f:FuncId}{fn:Func}{s:ChangeSpec}{ks:List Ki}{tb:TypeId}(hT:ttOk P T=true)(hl:laidOutB P=true)(h0:tabs P=[])(hin:inTs T fn.params.toList ks=true)
  (hread:fn.params.toList.all (fun t=>P.readableRec t&&decide (t<P.types.size))=true) (hres:fn.resultTypes= #[tb]) (htb:P.underlying tb=some .bool) (hvars:s.vars=[])
  (hspec:∀as:List SA,Kinds ks as->∀(ds:List (DataW H)),ds.length=ks.length->(s.fn H (ds++[])).results=[.lit (.bool true)]∧(s.fn H (ds++[])).args=ds∧(s.fn H (ds++[])).vars=[])
  (hlaw:∀as,Kinds ks as->Sp P f as (.v .bool true))
  (W:World) (base:Nat) (args:Array Value) (ds gs:List (DataW H)) (before:List MemPlace)
  (hval:∀(j:Nat) t v,fn.params[j]? =some t->args[j]? =some v->Value.okWide P W .any base t v)
  (hW:DataW.Whole enc P fn.params.toList s.vars false W args.toList ds gs before):
  Calls P f args W fun e W'=>∃v,e= .returned v∧s.post enc P fn false true false false W args v W':=
 law_postL hT hl hin hread hres htb hvars hspec hlaw W (by rw[h0];intro b v hv;cases hv) base args ds gs before hval hW
end
end Go.Q
namespace Go.Q
def RdAs:List SA->Prop
 | []=>True
 | .v c x::r=>Rd c x∧RdAs r
 |_=>False
def SA.isV:SA->Bool
 | .v _ _=>true
 |_=>false
theorem rdAs_of{F:Nat->Prop}{w:World}:∀ {as:List SA} {us:List Value},as.all SA.isV=true->ArgsR F w as us->RdAs as
 | [],_,_,_=>trivial
 | .v c x::as,us,h,⟨u,r,e,hu,hr⟩=>by
  simp only[List.all_cons,Bool.and_eq_true]at h
  exact⟨⟨F,w,_,RepV_cellsK hu⟩,rdAs_of h.2 hr⟩
 | .io _ _::_,_,h,_| .fn _ _::_,_,h,_| .pt _ _::_,_,h,_| .sl _::_,_,h,_| .mp _::_,_,h,_| .ag _ _::_,_,h,_| .fb _ _::_,_,h,_| .lo _::_,_,h,_=>by simp[SA.isV]at h
theorem Sp_rd{P:Program}{f:FuncId}{as:List SA}{r:RA}(hc:callOk P f=true)(hv:as.all SA.isV=true)(hr:r.isX=false)(h:RdAs as->Sp P f as r):Sp P f as r:=by
 refine⟨hc,fun F w us hF hL hA=>(h (rdAs_of hv hA)).2.1 F w us hF hL hA,fun _ _ _ _ h=>(by rw[isW_of hr]at h;cases h),fun _ _ r0 os' _ _ h=>(by subst h;cases hr)⟩
theorem con_sp{P:Program}{f:FuncId}{e:XE}{as:List SA}{r:RA}(h:conOK P f e.con)(hh:e.con as (R:=RA) (fun q=>some q)=some r):Sp P f as r:=by
 obtain⟨q,h1,h2⟩:=h as RA _ r hh
 cases h2
 exact h1
theorem kinds_v:∀ {ks:List Ki} {as:List SA},Kinds ks as->as.all SA.isV=true
 | [],[],_=>rfl
 | [],_::_,h=>h.elim
 |_::_,[],h=>h.elim
 |c::cs,.v c' x::as,h=>by simp only[List.all_cons,SA.isV,Bool.true_and];exact kinds_v h.2
 |_::_,.io _ _::_,h|_::_,.fn _ _::_,h|_::_,.pt _ _::_,h|_::_,.sl _::_,h|_::_,.mp _::_,h|_::_,.ag _ _::_,h|_::_,.fb _ _::_,h|_::_,.lo _::_,h=>h.elim
abbrev T0:O:=.t 0
abbrev T1:O:=.t 1
abbrev T2:O:=.t 2
abbrev T3:O:=.t 3
abbrev T4:O:=.t 4
abbrev T5:O:=.t 5
abbrev T6:O:=.t 6
abbrev T7:O:=.t 7
abbrev T8:O:=.t 8
abbrev T9:O:=.t 9
abbrev T10:O:=.t 10
abbrev T11:O:=.t 11
abbrev T12:O:=.t 12
abbrev T13:O:=.t 13
abbrev T14:O:=.t 14
abbrev T15:O:=.t 15
abbrev T16:O:=.t 16
abbrev T17:O:=.t 17
abbrev T18:O:=.t 18
abbrev T19:O:=.t 19
abbrev T20:O:=.t 20
abbrev T21:O:=.t 21
abbrev T22:O:=.t 22
abbrev T23:O:=.t 23
abbrev T24:O:=.t 24
abbrev T25:O:=.t 25
abbrev T26:O:=.t 26
abbrev T27:O:=.t 27
abbrev T28:O:=.t 28
abbrev T29:O:=.t 29
abbrev T30:O:=.t 30
abbrev T31:O:=.t 31
abbrev T32:O:=.t 32
abbrev T33:O:=.t 33
abbrev T34:O:=.t 34
abbrev T35:O:=.t 35
abbrev T36:O:=.t 36
abbrev T37:O:=.t 37
abbrev T38:O:=.t 38
abbrev T39:O:=.t 39
abbrev T40:O:=.t 40
abbrev T41:O:=.t 41
abbrev T42:O:=.t 42
abbrev T43:O:=.t 43
abbrev T44:O:=.t 44
abbrev T45:O:=.t 45
abbrev T46:O:=.t 46
abbrev T47:O:=.t 47
abbrev T48:O:=.t 48
abbrev T49:O:=.t 49
abbrev T50:O:=.t 50
abbrev T51:O:=.t 51
abbrev T52:O:=.t 52
abbrev T53:O:=.t 53
abbrev T54:O:=.t 54
abbrev T55:O:=.t 55
abbrev T56:O:=.t 56
abbrev T57:O:=.t 57
abbrev T58:O:=.t 58
abbrev T59:O:=.t 59
abbrev T60:O:=.t 60
abbrev T61:O:=.t 61
abbrev T62:O:=.t 62
abbrev T63:O:=.t 63
abbrev T64:O:=.t 64
abbrev T65:O:=.t 65
abbrev T66:O:=.t 66
abbrev T67:O:=.t 67
abbrev T68:O:=.t 68
abbrev T69:O:=.t 69
abbrev T70:O:=.t 70
abbrev T71:O:=.t 71
abbrev T72:O:=.t 72
abbrev T73:O:=.t 73
abbrev T74:O:=.t 74
abbrev T75:O:=.t 75
abbrev T76:O:=.t 76
abbrev T77:O:=.t 77
abbrev T78:O:=.t 78
abbrev T79:O:=.t 79
abbrev T80:O:=.t 80
abbrev T81:O:=.t 81
abbrev T82:O:=.t 82
abbrev T83:O:=.t 83
abbrev T84:O:=.t 84
abbrev T85:O:=.t 85
abbrev T86:O:=.t 86
abbrev T87:O:=.t 87
abbrev T88:O:=.t 88
abbrev T89:O:=.t 89
abbrev T90:O:=.t 90
abbrev T91:O:=.t 91
abbrev T92:O:=.t 92
abbrev T93:O:=.t 93
abbrev T94:O:=.t 94
abbrev T95:O:=.t 95
abbrev T96:O:=.t 96
abbrev T97:O:=.t 97
abbrev T98:O:=.t 98
abbrev T99:O:=.t 99
abbrev T100:O:=.t 100
abbrev T101:O:=.t 101
abbrev T102:O:=.t 102
abbrev T103:O:=.t 103
abbrev T104:O:=.t 104
abbrev T105:O:=.t 105
abbrev T106:O:=.t 106
abbrev T107:O:=.t 107
abbrev T108:O:=.t 108
abbrev T109:O:=.t 109
abbrev T110:O:=.t 110
abbrev T111:O:=.t 111
abbrev T112:O:=.t 112
abbrev T113:O:=.t 113
abbrev T114:O:=.t 114
abbrev T115:O:=.t 115
abbrev T116:O:=.t 116
abbrev T117:O:=.t 117
end Go.Q
