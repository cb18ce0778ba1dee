/- Plain data, its place in memory, and steps that read it: for every program of the model. -/
import GoSem.Core.Sem
import Derived.Laws.AppendOwn
import Derived.Calls
import Derived.Laws.Cells
import Derived.Laws.CopyRow
import Derived.Laws.MakeOwn
import Derived.Tactics
import Derived.Laws.Strings
import Derived.Laws.Small
set_option linter.unusedVariables false
set_option linter.unusedSimpArgs false
namespace Go.Q
abbrev Str:=List UInt8
inductive Ty where
 |mk (kind:Int) (labels:List Str) (args:List Ty)
def Ty.kind:Ty->Int| .mk x _ _=>x
def Ty.labels:Ty->List Str| .mk _ x _=>x
def Ty.args:Ty->List Ty| .mk _ _ x=>x
theorem Ty.eta(t:Ty):Ty.mk t.kind t.labels t.args=t:=by cases t;rfl
def Ty.zero:Ty:=Ty.mk 0 [] []
inductive Val where
 |mk (kind:Int) (n:Int) (labels:List Str) (args:List Val)
def Val.kind:Val->Int| .mk x _ _ _=>x
def Val.n:Val->Int| .mk _ x _ _=>x
def Val.labels:Val->List Str| .mk _ _ x _=>x
def Val.args:Val->List Val| .mk _ _ _ x=>x
theorem Val.eta(t:Val):Val.mk t.kind t.n t.labels t.args=t:=by cases t;rfl
def Val.zero:Val:=Val.mk 0 0 [] []
inductive Tm where
 |mk (kind:Int) (name:Str) (n:Int) (type:Ty) (labels:List Str) (args:List Tm)
def Tm.kind:Tm->Int| .mk x _ _ _ _ _=>x
def Tm.name:Tm->Str| .mk _ x _ _ _ _=>x
def Tm.n:Tm->Int| .mk _ _ x _ _ _=>x
def Tm.type:Tm->Ty| .mk _ _ _ x _ _=>x
def Tm.labels:Tm->List Str| .mk _ _ _ _ x _=>x
def Tm.args:Tm->List Tm| .mk _ _ _ _ _ x=>x
theorem Tm.eta(t:Tm):Tm.mk t.kind t.name t.n t.type t.labels t.args=t:=by cases t;rfl
def Tm.zero:Tm:=Tm.mk 0 [] 0 Ty.zero [] []
structure Gen where
 var:Str
 table:Str
def Gen.zero:Gen:=Gen.mk [] []
structure TDecl where
 name:Str
 row:Ty
def TDecl.zero:TDecl:=TDecl.mk [] Ty.zero
structure Schema where
 tables:List TDecl
def Schema.zero:Schema:=Schema.mk []
structure TData where
 name:Str
 rows:List Val
def TData.zero:TData:=TData.mk [] []
structure DBase where
 tables:List TData
def DBase.zero:DBase:=DBase.mk []
structure Typing where
 name:Str
 type:Ty
def Typing.zero:Typing:=Typing.mk [] Ty.zero
mutual
inductive Head where
 |mk (kind:Int) (term:Tm) (labels:List Str) (parts:List Head) (query:Query)
inductive Comp where
 |mk (gens:List Gen) (whr:Tm) (head:Head)
inductive Query where
 |mk (comps:List Comp)
end
def Head.kind:Head->Int| .mk x _ _ _ _=>x
def Head.term:Head->Tm| .mk _ x _ _ _=>x
def Head.labels:Head->List Str| .mk _ _ x _ _=>x
def Head.parts:Head->List Head| .mk _ _ _ x _=>x
def Head.query:Head->Query| .mk _ _ _ _ x=>x
theorem Head.eta(t:Head):Head.mk t.kind t.term t.labels t.parts t.query=t:=by cases t;rfl
def Comp.gens:Comp->List Gen| .mk x _ _=>x
def Comp.whr:Comp->Tm| .mk _ x _=>x
def Comp.head:Comp->Head| .mk _ _ x=>x
theorem Comp.eta(t:Comp):Comp.mk t.gens t.whr t.head=t:=by cases t;rfl
def Query.comps:Query->List Comp| .mk x=>x
theorem Query.eta(t:Query):Query.mk t.comps=t:=by cases t;rfl
def Query.zero:Query:=Query.mk []
def Head.zero:Head:=Head.mk 0 Tm.zero [] [] Query.zero
def Comp.zero:Comp:=Comp.mk [] Tm.zero Head.zero
structure FComp where
 outer:Int
 outerGens:Int
 tag:Int
 gens:List Gen
 whr:Tm
 cols:List Tm
def FComp.zero:FComp:=FComp.mk 0 0 0 [] Tm.zero []
structure FQuery where
 path:List Str
 comps:List FComp
def FQuery.zero:FQuery:=FQuery.mk [] []
structure Key where
 tag:Int
 rows:List Int
def Key.zero:Key:=Key.mk 0 []
structure FRow where
 outer:Key
 own:Key
 cols:List Val
def FRow.zero:FRow:=FRow.mk Key.zero Key.zero []
structure NRow where
 outer:Int
 own:Int
 cols:List Val
def NRow.zero:NRow:=NRow.mk 0 0 []
inductive Plan where
 |mk (kind:Int) (var:Str) (table:Str) (cond:Tm) (keys:List Tm) (args:List Plan)
def Plan.kind:Plan->Int| .mk x _ _ _ _ _=>x
def Plan.var:Plan->Str| .mk _ x _ _ _ _=>x
def Plan.table:Plan->Str| .mk _ _ x _ _ _=>x
def Plan.cond:Plan->Tm| .mk _ _ _ x _ _=>x
def Plan.keys:Plan->List Tm| .mk _ _ _ _ x _=>x
def Plan.args:Plan->List Plan| .mk _ _ _ _ _ x=>x
theorem Plan.eta(t:Plan):Plan.mk t.kind t.var t.table t.cond t.keys t.args=t:=by cases t;rfl
def Plan.zero:Plan:=Plan.mk 0 [] [] Tm.zero [] []
structure Leaf where
 path:List Str
 t:Option Ty
def Leaf.zero:Leaf:=Leaf.mk [] none
structure Reader where
 s:Str
 at_:Int
 bad:Bool
def Reader.zero:Reader:=Reader.mk [] 0 false
structure Around where
 tag:Int
 gens:List Gen
 whr:Tm
def Around.zero:Around:=Around.mk 0 [] Tm.zero
structure StRow where
 own:Str
 cols:List Val
def StRow.zero:StRow:=StRow.mk [] []
mutual
inductive LBind where
 |mk (name:Str) (v:Val) (f:LFun)
inductive LFun where
 |mk (isf:Bool) (e:Tm) (env:List LBind)
end
def LBind.name:LBind->Str| .mk x _ _=>x
def LBind.v:LBind->Val| .mk _ x _=>x
def LBind.f:LBind->LFun| .mk _ _ x=>x
theorem LBind.eta(t:LBind):LBind.mk t.name t.v t.f=t:=by cases t;rfl
def LFun.isf:LFun->Bool| .mk x _ _=>x
def LFun.e:LFun->Tm| .mk _ x _=>x
def LFun.env:LFun->List LBind| .mk _ _ x=>x
theorem LFun.eta(t:LFun):LFun.mk t.isf t.e t.env=t:=by cases t;rfl
def LFun.zero:LFun:=LFun.mk false Tm.zero []
def LBind.zero:LBind:=LBind.mk [] Val.zero LFun.zero
mutual
inductive Thing where
 |mk (v:Option Val) (fn:Option Clo)
inductive Clo where
 |mk (name:Str) (body:Option Tm) (env:Option Envi)
inductive Envi where
 |mk (name:Str) (isv:Thing) (next:Option Envi)
end
def Thing.v:Thing->Option Val| .mk x _=>x
def Thing.fn:Thing->Option Clo| .mk _ x=>x
theorem Thing.eta(t:Thing):Thing.mk t.v t.fn=t:=by cases t;rfl
def Clo.name:Clo->Str| .mk x _ _=>x
def Clo.body:Clo->Option Tm| .mk _ x _=>x
def Clo.env:Clo->Option Envi| .mk _ _ x=>x
theorem Clo.eta(t:Clo):Clo.mk t.name t.body t.env=t:=by cases t;rfl
def Envi.name:Envi->Str| .mk x _ _=>x
def Envi.isv:Envi->Thing| .mk _ x _=>x
def Envi.next:Envi->Option Envi| .mk _ _ x=>x
theorem Envi.eta(t:Envi):Envi.mk t.name t.isv t.next=t:=by cases t;rfl
def Thing.zero:Thing:=Thing.mk none none
def Clo.zero:Clo:=Clo.mk [] none none
def Envi.zero:Envi:=Envi.mk [] Thing.zero none
mutual
inductive LComp where
 |mk (gens:List Gen) (whr:Tm) (head:LSym)
inductive LSym where
 |mk (kind:Int) (term:Tm) (labels:List Str) (parts:List LSym) (comps:List LComp) (env:List LBd)
inductive LBd where
 |mk (name:Str) (sym:LSym) (t:Ty)
end
def LComp.gens:LComp->List Gen| .mk x _ _=>x
def LComp.whr:LComp->Tm| .mk _ x _=>x
def LComp.head:LComp->LSym| .mk _ _ x=>x
theorem LComp.eta(t:LComp):LComp.mk t.gens t.whr t.head=t:=by cases t;rfl
def LSym.kind:LSym->Int| .mk x _ _ _ _ _=>x
def LSym.term:LSym->Tm| .mk _ x _ _ _ _=>x
def LSym.labels:LSym->List Str| .mk _ _ x _ _ _=>x
def LSym.parts:LSym->List LSym| .mk _ _ _ x _ _=>x
def LSym.comps:LSym->List LComp| .mk _ _ _ _ x _=>x
def LSym.env:LSym->List LBd| .mk _ _ _ _ _ x=>x
theorem LSym.eta(t:LSym):LSym.mk t.kind t.term t.labels t.parts t.comps t.env=t:=by cases t;rfl
def LBd.name:LBd->Str| .mk x _ _=>x
def LBd.sym:LBd->LSym| .mk _ x _=>x
def LBd.t:LBd->Ty| .mk _ _ x=>x
theorem LBd.eta(t:LBd):LBd.mk t.name t.sym t.t=t:=by cases t;rfl
def LSym.zero:LSym:=LSym.mk 0 Tm.zero [] [] [] []
def LComp.zero:LComp:=LComp.mk [] Tm.zero LSym.zero
def LBd.zero:LBd:=LBd.mk [] LSym.zero Ty.zero
mutual
inductive Sym where
 |mk (kind:Int) (term:Option Tm) (size:Int) (labels:List Str) (parts:List Sym) (comps:List SymComp) (fn:Option SymFun) (choice:Option SymChoice)
inductive SymComp where
 |mk (gens:List Gen) (whr:Option Tm) (size:Int) (head:Sym)
inductive SymFun where
 |mk (name:Str) (body:Option Tm) (env:Option SymEnv) (ctx:List Typing)
inductive SymChoice where
 |mk (cond:Sym) (one:Sym) (two:Sym)
inductive SymEnv where
 |mk (name:Str) (isv:Sym) (next:Option SymEnv)
end
def Sym.kind:Sym->Int| .mk x _ _ _ _ _ _ _=>x
def Sym.term:Sym->Option Tm| .mk _ x _ _ _ _ _ _=>x
def Sym.size:Sym->Int| .mk _ _ x _ _ _ _ _=>x
def Sym.labels:Sym->List Str| .mk _ _ _ x _ _ _ _=>x
def Sym.parts:Sym->List Sym| .mk _ _ _ _ x _ _ _=>x
def Sym.comps:Sym->List SymComp| .mk _ _ _ _ _ x _ _=>x
def Sym.fn:Sym->Option SymFun| .mk _ _ _ _ _ _ x _=>x
def Sym.choice:Sym->Option SymChoice| .mk _ _ _ _ _ _ _ x=>x
theorem Sym.eta(t:Sym):Sym.mk t.kind t.term t.size t.labels t.parts t.comps t.fn t.choice=t:=by cases t;rfl
def SymComp.gens:SymComp->List Gen| .mk x _ _ _=>x
def SymComp.whr:SymComp->Option Tm| .mk _ x _ _=>x
def SymComp.size:SymComp->Int| .mk _ _ x _=>x
def SymComp.head:SymComp->Sym| .mk _ _ _ x=>x
theorem SymComp.eta(t:SymComp):SymComp.mk t.gens t.whr t.size t.head=t:=by cases t;rfl
def SymFun.name:SymFun->Str| .mk x _ _ _=>x
def SymFun.body:SymFun->Option Tm| .mk _ x _ _=>x
def SymFun.env:SymFun->Option SymEnv| .mk _ _ x _=>x
def SymFun.ctx:SymFun->List Typing| .mk _ _ _ x=>x
theorem SymFun.eta(t:SymFun):SymFun.mk t.name t.body t.env t.ctx=t:=by cases t;rfl
def SymChoice.cond:SymChoice->Sym| .mk x _ _=>x
def SymChoice.one:SymChoice->Sym| .mk _ x _=>x
def SymChoice.two:SymChoice->Sym| .mk _ _ x=>x
theorem SymChoice.eta(t:SymChoice):SymChoice.mk t.cond t.one t.two=t:=by cases t;rfl
def SymEnv.name:SymEnv->Str| .mk x _ _=>x
def SymEnv.isv:SymEnv->Sym| .mk _ x _=>x
def SymEnv.next:SymEnv->Option SymEnv| .mk _ _ x=>x
theorem SymEnv.eta(t:SymEnv):SymEnv.mk t.name t.isv t.next=t:=by cases t;rfl
def Sym.zero:Sym:=Sym.mk 0 none 0 [] [] [] none none
def SymComp.zero:SymComp:=SymComp.mk [] none 0 Sym.zero
def SymFun.zero:SymFun:=SymFun.mk [] none none []
def SymChoice.zero:SymChoice:=SymChoice.mk Sym.zero Sym.zero Sym.zero
def SymEnv.zero:SymEnv:=SymEnv.mk [] Sym.zero none
structure Worker where
 db:DBase
 work:Int
def Worker.zero:Worker:=Worker.mk DBase.zero 0
structure Runner where
 w:Worker
 listed:Int
def Runner.zero:Runner:=Runner.mk Worker.zero 0
structure Normer where
 s:Schema
 work:Int
 names:Int
def Normer.zero:Normer:=Normer.mk Schema.zero 0 0
structure LRun where
 db:DBase
 work:Int
 bad:Bool
def LRun.zero:LRun:=LRun.mk DBase.zero 0 false
structure LNorm where
 s:Schema
 next:Int
 work:Int
 bad:Bool
def LNorm.zero:LNorm:=LNorm.mk Schema.zero 0 0 false
structure LStitch where
 paths:List (List Str)
 tables:List (List FRow)
 at_:Int
 bad:Bool
def LStitch.zero:LStitch:=LStitch.mk [] [] 0 false
structure Shredder where
 paths:List (List Str)
 out:List FQuery
 tag:Int
def Shredder.zero:Shredder:=Shredder.mk [] [] 0
structure Typer where
 s:Schema
def Typer.zero:Typer:=Typer.mk Schema.zero
structure Cur where
 b:List Int
 i:Int
 h:Int
def Cur.zero:Cur:=Cur.mk [] 0 0
inductive Ki where
 |int (k:IntKind)
 |bool
 |str
 |slice (c:Ki)
 |struct (n:Nat)
 |ptr (c:Ki)
 deriving DecidableEq
abbrev Sty:Nat->Type
 |0=>Ty
 |1=>Val
 |2=>Tm
 |3=>Gen
 |4=>TDecl
 |5=>Schema
 |6=>TData
 |7=>DBase
 |8=>Typing
 |9=>Head
 |10=>Comp
 |11=>Query
 |12=>FComp
 |13=>FQuery
 |14=>Key
 |15=>FRow
 |16=>NRow
 |17=>Plan
 |18=>Leaf
 |19=>Reader
 |20=>Around
 |21=>StRow
 |22=>LBind
 |23=>LFun
 |24=>Thing
 |25=>Clo
 |26=>Envi
 |27=>LComp
 |28=>LSym
 |29=>LBd
 |30=>Sym
 |31=>SymComp
 |32=>SymFun
 |33=>SymChoice
 |34=>SymEnv
 |35=>Worker
 |36=>Runner
 |37=>Normer
 |38=>LRun
 |39=>LNorm
 |40=>LStitch
 |41=>Shredder
 |42=>Typer
 |43=>Cur
 |_=>Unit
abbrev Ki.T:Ki->Type
 | .int _=>Int
 | .bool=>Bool
 | .str=>Str
 | .slice c=>List c.T
 | .struct n=>Sty n
 | .ptr c=>Option c.T
abbrev HL:List Ki->Type
 | []=>Unit
 |c::cs=>c.T×HL cs
abbrev kI:Ki:=.int .i64
abbrev kS:Ki:=.str
abbrev kL(c:Ki):Ki:=.slice c
abbrev kR(n:Nat):Ki:=.struct n
def flds:Nat->List Ki
 |0=>[kI,kL kS,kL (kR 0)]
 |1=>[kI,kI,kL kS,kL (kR 1)]
 |2=>[kI,kS,kI,kR 0,kL kS,kL (kR 2)]
 |3=>[kS,kS]
 |4=>[kS,kR 0]
 |5=>[kL (kR 4)]
 |6=>[kS,kL (kR 1)]
 |7=>[kL (kR 6)]
 |8=>[kS,kR 0]
 |9=>[kI,kR 2,kL kS,kL (kR 9),kR 11]
 |10=>[kL (kR 3),kR 2,kR 9]
 |11=>[kL (kR 10)]
 |12=>[kI,kI,kI,kL (kR 3),kR 2,kL (kR 2)]
 |13=>[kL kS,kL (kR 12)]
 |14=>[kI,kL kI]
 |15=>[kR 14,kR 14,kL (kR 1)]
 |16=>[kI,kI,kL (kR 1)]
 |17=>[kI,kS,kS,kR 2,kL (kR 2),kL (kR 17)]
 |18=>[kL kS,.ptr (kR 0)]
 |19=>[kS,kI,.bool]
 |20=>[kI,kL (kR 3),kR 2]
 |21=>[kS,kL (kR 1)]
 |22=>[kS,kR 1,kR 23]
 |23=>[.bool,kR 2,kL (kR 22)]
 |24=>[.ptr (kR 1),.ptr (kR 25)]
 |25=>[kS,.ptr (kR 2),.ptr (kR 26)]
 |26=>[kS,kR 24,.ptr (kR 26)]
 |27=>[kL (kR 3),kR 2,kR 28]
 |28=>[kI,kR 2,kL kS,kL (kR 28),kL (kR 27),kL (kR 29)]
 |29=>[kS,kR 28,kR 0]
 |30=>[kI,.ptr (kR 2),kI,kL kS,kL (kR 30),kL (kR 31),.ptr (kR 32),.ptr (kR 33)]
 |31=>[kL (kR 3),.ptr (kR 2),kI,kR 30]
 |32=>[kS,.ptr (kR 2),.ptr (kR 34),kL (kR 8)]
 |33=>[kR 30,kR 30,kR 30]
 |34=>[kS,kR 30,.ptr (kR 34)]
 |35=>[kR 7,kI]
 |36=>[kR 35,kI]
 |37=>[kR 5,kI,kI]
 |38=>[kR 7,kI,.bool]
 |39=>[kR 5,kI,kI,.bool]
 |40=>[kL (kL kS),kL (kL (kR 15)),kI,.bool]
 |41=>[kL (kL kS),kL (kR 13),kI]
 |42=>[kR 5]
 |43=>[kL (.int .u8),kI,kI]
 |_=>[]
def un:(n:Nat)->Sty n->HL (flds n)
 |0=>fun(t:Ty)=>((t.kind,t.labels,t.args,()):Int×(List Str)×(List Ty)×Unit)
 |1=>fun(t:Val)=>((t.kind,t.n,t.labels,t.args,()):Int×Int×(List Str)×(List Val)×Unit)
 |2=>fun(t:Tm)=>((t.kind,t.name,t.n,t.type,t.labels,t.args,()):Int×Str×Int×Ty×(List Str)×(List Tm)×Unit)
 |3=>fun(t:Gen)=>((t.var,t.table,()):Str×Str×Unit)
 |4=>fun(t:TDecl)=>((t.name,t.row,()):Str×Ty×Unit)
 |5=>fun(t:Schema)=>((t.tables,()):(List TDecl)×Unit)
 |6=>fun(t:TData)=>((t.name,t.rows,()):Str×(List Val)×Unit)
 |7=>fun(t:DBase)=>((t.tables,()):(List TData)×Unit)
 |8=>fun(t:Typing)=>((t.name,t.type,()):Str×Ty×Unit)
 |9=>fun(t:Head)=>((t.kind,t.term,t.labels,t.parts,t.query,()):Int×Tm×(List Str)×(List Head)×Query×Unit)
 |10=>fun(t:Comp)=>((t.gens,t.whr,t.head,()):(List Gen)×Tm×Head×Unit)
 |11=>fun(t:Query)=>((t.comps,()):(List Comp)×Unit)
 |12=>fun(t:FComp)=>((t.outer,t.outerGens,t.tag,t.gens,t.whr,t.cols,()):Int×Int×Int×(List Gen)×Tm×(List Tm)×Unit)
 |13=>fun(t:FQuery)=>((t.path,t.comps,()):(List Str)×(List FComp)×Unit)
 |14=>fun(t:Key)=>((t.tag,t.rows,()):Int×(List Int)×Unit)
 |15=>fun(t:FRow)=>((t.outer,t.own,t.cols,()):Key×Key×(List Val)×Unit)
 |16=>fun(t:NRow)=>((t.outer,t.own,t.cols,()):Int×Int×(List Val)×Unit)
 |17=>fun(t:Plan)=>((t.kind,t.var,t.table,t.cond,t.keys,t.args,()):Int×Str×Str×Tm×(List Tm)×(List Plan)×Unit)
 |18=>fun(t:Leaf)=>((t.path,t.t,()):(List Str)×(Option Ty)×Unit)
 |19=>fun(t:Reader)=>((t.s,t.at_,t.bad,()):Str×Int×Bool×Unit)
 |20=>fun(t:Around)=>((t.tag,t.gens,t.whr,()):Int×(List Gen)×Tm×Unit)
 |21=>fun(t:StRow)=>((t.own,t.cols,()):Str×(List Val)×Unit)
 |22=>fun(t:LBind)=>((t.name,t.v,t.f,()):Str×Val×LFun×Unit)
 |23=>fun(t:LFun)=>((t.isf,t.e,t.env,()):Bool×Tm×(List LBind)×Unit)
 |24=>fun(t:Thing)=>((t.v,t.fn,()):(Option Val)×(Option Clo)×Unit)
 |25=>fun(t:Clo)=>((t.name,t.body,t.env,()):Str×(Option Tm)×(Option Envi)×Unit)
 |26=>fun(t:Envi)=>((t.name,t.isv,t.next,()):Str×Thing×(Option Envi)×Unit)
 |27=>fun(t:LComp)=>((t.gens,t.whr,t.head,()):(List Gen)×Tm×LSym×Unit)
 |28=>fun(t:LSym)=>((t.kind,t.term,t.labels,t.parts,t.comps,t.env,()):Int×Tm×(List Str)×(List LSym)×(List LComp)×(List LBd)×Unit)
 |29=>fun(t:LBd)=>((t.name,t.sym,t.t,()):Str×LSym×Ty×Unit)
 |30=>fun(t:Sym)=>((t.kind,t.term,t.size,t.labels,t.parts,t.comps,t.fn,t.choice,()):Int×(Option Tm)×Int×(List Str)×(List Sym)×(List SymComp)×(Option SymFun)×(Option SymChoice)×Unit)
 |31=>fun(t:SymComp)=>((t.gens,t.whr,t.size,t.head,()):(List Gen)×(Option Tm)×Int×Sym×Unit)
 |32=>fun(t:SymFun)=>((t.name,t.body,t.env,t.ctx,()):Str×(Option Tm)×(Option SymEnv)×(List Typing)×Unit)
 |33=>fun(t:SymChoice)=>((t.cond,t.one,t.two,()):Sym×Sym×Sym×Unit)
 |34=>fun(t:SymEnv)=>((t.name,t.isv,t.next,()):Str×Sym×(Option SymEnv)×Unit)
 |35=>fun(t:Worker)=>((t.db,t.work,()):DBase×Int×Unit)
 |36=>fun(t:Runner)=>((t.w,t.listed,()):Worker×Int×Unit)
 |37=>fun(t:Normer)=>((t.s,t.work,t.names,()):Schema×Int×Int×Unit)
 |38=>fun(t:LRun)=>((t.db,t.work,t.bad,()):DBase×Int×Bool×Unit)
 |39=>fun(t:LNorm)=>((t.s,t.next,t.work,t.bad,()):Schema×Int×Int×Bool×Unit)
 |40=>fun(t:LStitch)=>((t.paths,t.tables,t.at_,t.bad,()):(List (List Str))×(List (List FRow))×Int×Bool×Unit)
 |41=>fun(t:Shredder)=>((t.paths,t.out,t.tag,()):(List (List Str))×(List FQuery)×Int×Unit)
 |42=>fun(t:Typer)=>((t.s,()):Schema×Unit)
 |43=>fun(t:Cur)=>((t.b,t.i,t.h,()):(List Int)×Int×Int×Unit)
 |_+44=>fun _=>()
def mk:(n:Nat)->HL (flds n)->Sty n
 |0=>fun(h:Int×(List Str)×(List Ty)×Unit)=>Ty.mk h.1 h.2.1 h.2.2.1
 |1=>fun(h:Int×Int×(List Str)×(List Val)×Unit)=>Val.mk h.1 h.2.1 h.2.2.1 h.2.2.2.1
 |2=>fun(h:Int×Str×Int×Ty×(List Str)×(List Tm)×Unit)=>Tm.mk h.1 h.2.1 h.2.2.1 h.2.2.2.1 h.2.2.2.2.1 h.2.2.2.2.2.1
 |3=>fun(h:Str×Str×Unit)=>Gen.mk h.1 h.2.1
 |4=>fun(h:Str×Ty×Unit)=>TDecl.mk h.1 h.2.1
 |5=>fun(h:(List TDecl)×Unit)=>Schema.mk h.1
 |6=>fun(h:Str×(List Val)×Unit)=>TData.mk h.1 h.2.1
 |7=>fun(h:(List TData)×Unit)=>DBase.mk h.1
 |8=>fun(h:Str×Ty×Unit)=>Typing.mk h.1 h.2.1
 |9=>fun(h:Int×Tm×(List Str)×(List Head)×Query×Unit)=>Head.mk h.1 h.2.1 h.2.2.1 h.2.2.2.1 h.2.2.2.2.1
 |10=>fun(h:(List Gen)×Tm×Head×Unit)=>Comp.mk h.1 h.2.1 h.2.2.1
 |11=>fun(h:(List Comp)×Unit)=>Query.mk h.1
 |12=>fun(h:Int×Int×Int×(List Gen)×Tm×(List Tm)×Unit)=>FComp.mk h.1 h.2.1 h.2.2.1 h.2.2.2.1 h.2.2.2.2.1 h.2.2.2.2.2.1
 |13=>fun(h:(List Str)×(List FComp)×Unit)=>FQuery.mk h.1 h.2.1
 |14=>fun(h:Int×(List Int)×Unit)=>Key.mk h.1 h.2.1
 |15=>fun(h:Key×Key×(List Val)×Unit)=>FRow.mk h.1 h.2.1 h.2.2.1
 |16=>fun(h:Int×Int×(List Val)×Unit)=>NRow.mk h.1 h.2.1 h.2.2.1
 |17=>fun(h:Int×Str×Str×Tm×(List Tm)×(List Plan)×Unit)=>Plan.mk h.1 h.2.1 h.2.2.1 h.2.2.2.1 h.2.2.2.2.1 h.2.2.2.2.2.1
 |18=>fun(h:(List Str)×(Option Ty)×Unit)=>Leaf.mk h.1 h.2.1
 |19=>fun(h:Str×Int×Bool×Unit)=>Reader.mk h.1 h.2.1 h.2.2.1
 |20=>fun(h:Int×(List Gen)×Tm×Unit)=>Around.mk h.1 h.2.1 h.2.2.1
 |21=>fun(h:Str×(List Val)×Unit)=>StRow.mk h.1 h.2.1
 |22=>fun(h:Str×Val×LFun×Unit)=>LBind.mk h.1 h.2.1 h.2.2.1
 |23=>fun(h:Bool×Tm×(List LBind)×Unit)=>LFun.mk h.1 h.2.1 h.2.2.1
 |24=>fun(h:(Option Val)×(Option Clo)×Unit)=>Thing.mk h.1 h.2.1
 |25=>fun(h:Str×(Option Tm)×(Option Envi)×Unit)=>Clo.mk h.1 h.2.1 h.2.2.1
 |26=>fun(h:Str×Thing×(Option Envi)×Unit)=>Envi.mk h.1 h.2.1 h.2.2.1
 |27=>fun(h:(List Gen)×Tm×LSym×Unit)=>LComp.mk h.1 h.2.1 h.2.2.1
 |28=>fun(h:Int×Tm×(List Str)×(List LSym)×(List LComp)×(List LBd)×Unit)=>LSym.mk h.1 h.2.1 h.2.2.1 h.2.2.2.1 h.2.2.2.2.1 h.2.2.2.2.2.1
 |29=>fun(h:Str×LSym×Ty×Unit)=>LBd.mk h.1 h.2.1 h.2.2.1
 |30=>fun(h:Int×(Option Tm)×Int×(List Str)×(List Sym)×(List SymComp)×(Option SymFun)×(Option SymChoice)×Unit)=>Sym.mk h.1 h.2.1 h.2.2.1 h.2.2.2.1 h.2.2.2.2.1 h.2.2.2.2.2.1 h.2.2.2.2.2.2.1 h.2.2.2.2.2.2.2.1
 |31=>fun(h:(List Gen)×(Option Tm)×Int×Sym×Unit)=>SymComp.mk h.1 h.2.1 h.2.2.1 h.2.2.2.1
 |32=>fun(h:Str×(Option Tm)×(Option SymEnv)×(List Typing)×Unit)=>SymFun.mk h.1 h.2.1 h.2.2.1 h.2.2.2.1
 |33=>fun(h:Sym×Sym×Sym×Unit)=>SymChoice.mk h.1 h.2.1 h.2.2.1
 |34=>fun(h:Str×Sym×(Option SymEnv)×Unit)=>SymEnv.mk h.1 h.2.1 h.2.2.1
 |35=>fun(h:DBase×Int×Unit)=>Worker.mk h.1 h.2.1
 |36=>fun(h:Worker×Int×Unit)=>Runner.mk h.1 h.2.1
 |37=>fun(h:Schema×Int×Int×Unit)=>Normer.mk h.1 h.2.1 h.2.2.1
 |38=>fun(h:DBase×Int×Bool×Unit)=>LRun.mk h.1 h.2.1 h.2.2.1
 |39=>fun(h:Schema×Int×Int×Bool×Unit)=>LNorm.mk h.1 h.2.1 h.2.2.1 h.2.2.2.1
 |40=>fun(h:(List (List Str))×(List (List FRow))×Int×Bool×Unit)=>LStitch.mk h.1 h.2.1 h.2.2.1 h.2.2.2.1
 |41=>fun(h:(List (List Str))×(List FQuery)×Int×Unit)=>Shredder.mk h.1 h.2.1 h.2.2.1
 |42=>fun(h:Schema×Unit)=>Typer.mk h.1
 |43=>fun(h:(List Int)×Int×Int×Unit)=>Cur.mk h.1 h.2.1 h.2.2.1
 |_+44=>fun _=>()
theorem un_mk:∀(n:Nat) (h:HL (flds n)),un n (mk n h)=h
 |0,_|1,_|2,_|3,_|4,_|5,_|6,_|7,_|8,_|9,_|10,_|11,_|12,_|13,_|14,_|15,_|16,_|17,_|18,_|19,_|20,_|21,_|22,_|23,_|24,_|25,_|26,_|27,_|28,_|29,_|30,_|31,_|32,_|33,_|34,_|35,_|36,_|37,_|38,_|39,_|40,_|41,_|42,_|43,_=>rfl
 |_+44,_=>rfl
def ssz:Nat->Nat
 |0=>3
 |1=>4
 |2=>8
 |3=>2
 |4=>4
 |5=>1
 |6=>2
 |7=>1
 |8=>4
 |9=>12
 |10=>21
 |11=>1
 |12=>13
 |13=>2
 |14=>2
 |15=>5
 |16=>3
 |17=>13
 |18=>2
 |19=>3
 |20=>10
 |21=>2
 |22=>15
 |23=>10
 |24=>2
 |25=>3
 |26=>4
 |27=>22
 |28=>13
 |29=>17
 |30=>8
 |31=>11
 |32=>4
 |33=>24
 |34=>10
 |35=>2
 |36=>3
 |37=>3
 |38=>3
 |39=>4
 |40=>4
 |41=>3
 |42=>1
 |43=>3
 |_=>0
def Ki.sz:Ki->Nat
 | .struct n=>ssz n
 |_=>1
def szs:List Ki->Nat
 | []=>0
 |c::cs=>c.sz+szs cs
theorem ssz_flds:∀n,ssz n=szs (flds n)
 |0|1|2|3|4|5|6|7|8|9|10|11|12|13|14|15|16|17|18|19|20|21|22|23|24|25|26|27|28|29|30|31|32|33|34|35|36|37|38|39|40|41|42|43=>rfl
 |_+44=>rfl
def zS:(n:Nat)->Sty n
 |0=>Ty.zero
 |1=>Val.zero
 |2=>Tm.zero
 |3=>Gen.zero
 |4=>TDecl.zero
 |5=>Schema.zero
 |6=>TData.zero
 |7=>DBase.zero
 |8=>Typing.zero
 |9=>Head.zero
 |10=>Comp.zero
 |11=>Query.zero
 |12=>FComp.zero
 |13=>FQuery.zero
 |14=>Key.zero
 |15=>FRow.zero
 |16=>NRow.zero
 |17=>Plan.zero
 |18=>Leaf.zero
 |19=>Reader.zero
 |20=>Around.zero
 |21=>StRow.zero
 |22=>LBind.zero
 |23=>LFun.zero
 |24=>Thing.zero
 |25=>Clo.zero
 |26=>Envi.zero
 |27=>LComp.zero
 |28=>LSym.zero
 |29=>LBd.zero
 |30=>Sym.zero
 |31=>SymComp.zero
 |32=>SymFun.zero
 |33=>SymChoice.zero
 |34=>SymEnv.zero
 |35=>Worker.zero
 |36=>Runner.zero
 |37=>Normer.zero
 |38=>LRun.zero
 |39=>LNorm.zero
 |40=>LStitch.zero
 |41=>Shredder.zero
 |42=>Typer.zero
 |43=>Cur.zero
 |_+44=>()
def Ki.z:(c:Ki)->c.T
 | .int _=>(0:Int)
 | .bool=>false
 | .str=>([]:Str)
 | .slice c=>([]:List c.T)
 | .struct n=>zS n
 | .ptr c=>(none:Option c.T)
def zH:(cs:List Ki)->HL cs
 | []=>()
 |c::cs=>(c.z,zH cs)
theorem un_zS:∀n,un n (zS n)=zH (flds n)
 |0|1|2|3|4|5|6|7|8|9|10|11|12|13|14|15|16|17|18|19|20|21|22|23|24|25|26|27|28|29|30|31|32|33|34|35|36|37|38|39|40|41|42|43=>rfl
 |_+44=>rfl
end Go.Q
namespace Go.Q
def inR(k:IntKind)(n:Int):Prop:=k.min<=n∧n<=k.max
def HAll(P:(c:Ki)->c.T->List Value->Prop):(cs:List Ki)->HL cs->List Value->Prop
 | [],_,v=>v=[]
 |c::cs,h,v=>∃a b,v=a++b∧a.length=c.sz∧P c h.1 a∧HAll P cs h.2 b
def Cells(w:World)(ad:Addr)(vs:List Value):Prop:=∀j u,vs[j]? =some u->w.cell? (ad.add j)=some u
def RowK(F:Nat->Prop)(w:World){α:Type}(sz:Nat)(P:α->List Value->Prop)(xs:List α)(v:List Value):Prop:=
 ∃A cap,v=[.slice A xs.length cap]∧xs.length<=cap∧cap<=maxLen∧
  (∀i (h:i<xs.length),∃ad es,A=some ad∧F ad.block∧es.length=sz∧Cells w (ad.add (i*sz)) es∧P xs[i] es)
def PtrK(F:Nat->Prop)(w:World){α:Type}(sz:Nat)(P:α->List Value->Prop)(x:Option α)(v:List Value):Prop:=
 match x with
 |none=>v=[.pointer none]
 |some x=>∃ad es,v=[.pointer (some ad)]∧F ad.block∧es.length=sz∧Cells w ad es∧P x es
def K(F:Nat->Prop)(w:World):Nat->(c:Ki)->c.T->List Value->Prop
 |0,_,_,_=>False
 |_+1,.int k,n,v=>v=[.int k n]∧inR k n
 |_+1,.bool,b,v=>v=[.bool b]
 |_+1,.str,s,v=>v=[.string ⟨List.toArray s⟩]∧List.length s<=maxLen
 |d+1,.slice c,xs,v=>RowK F w c.sz (K F w d c) xs v
 |d+1,.struct n,x,v=>HAll (K F w d) (flds n) (un n x) v
 |d+1,.ptr c,x,v=>PtrK F w c.sz (K F w d c) x v
theorem HAll.mono{P Q:(c:Ki)->c.T->List Value->Prop}(h:∀c x v,P c x v->Q c x v):∀cs (x:HL cs) v,HAll P cs x v->HAll Q cs x v
 | [],_,_,hv=>hv
 |_::cs,x,_,⟨a,b,e,hl,hp,hr⟩=>⟨a,b,e,hl,h _ _ _ hp,HAll.mono h cs x.2 b hr⟩
theorem HAll.len{P:(c:Ki)->c.T->List Value->Prop}:∀cs (x:HL cs) v,HAll P cs x v->v.length=szs cs
 | [],_,_,hv=>by cases hv;rfl
 |c::cs,x,_,⟨a,b,e,hl,_,hr⟩=>by subst e;simp[szs,hl,HAll.len cs x.2 b hr]
theorem K.len{F:Nat->Prop}{w:World}:∀ {d:Nat} {c:Ki} {x:c.T} {v:List Value},K F w d c x v->v.length=c.sz
 |0,_,_,_,h=>h.elim
 |_+1,.int _,_,_,h=>by simp only[K]at h;simp[h.1,Ki.sz]
 |_+1,.bool,_,_,h=>by simp only[K]at h;simp[h,Ki.sz]
 |_+1,.str,_,_,h=>by simp only[K]at h;simp[h.1,Ki.sz]
 |_+1,.slice c,_,_,h=>by simp only[K,RowK]at h;obtain⟨A,cap,rfl,_⟩:=h;rfl
 |_+1,.struct n,_,_,h=>by simp only[K]at h;rw[HAll.len _ _ _ h,Ki.sz,ssz_flds]
 |_+1,.ptr c,none,_,h=>by simp only[K,PtrK]at h;simp[h,Ki.sz]
 |_+1,.ptr c,some _,_,h=>by simp only[K,PtrK]at h;obtain⟨A,cap,rfl,_⟩:=h;rfl
theorem K.keep{F F':Nat->Prop}{w w':World}(hb:∀b,F b->F' b∧w'.heap[b]? =w.heap[b]?):∀ {d:Nat} {c:Ki} {x:c.T} {v:List Value},K F w d c x v->K F' w' d c x v:=by
 have hc:∀(ad:Addr) es,F ad.block->Cells w ad es->Cells w' ad es:=fun ad es hF h j u hj=>by
  have:=h j u hj
  have hblk:(ad.add j).block=ad.block:=by unfold Addr.add;split<;>rfl
  rw[<-this]
  exact World.cell?_of_block (by rw[hblk];exact(hb _ hF).2)
 intro d
 induction d with
 |zero=>intro c x v h;exact h.elim
 |succ d ih=>
  intro c x v h
  cases c with
  |int k=>exact h
  |bool=>exact h
  |str=>exact h
  |slice c=>
   obtain⟨A,cap,rfl,h1,h2,h3⟩:=h
   refine⟨A,cap,rfl,h1,h2,fun i hi=> ?_⟩
   obtain⟨ad,es,hA,hF,hl,hcs,hk⟩:=h3 i hi
   refine⟨ad,es,hA,(hb _ hF).1,hl,hc _ _ ?_ hcs,ih hk⟩
   have hblk:(ad.add (i*c.sz)).block=ad.block:=by unfold Addr.add;split<;>rfl
   rw[hblk];exact hF
  |struct n=>exact HAll.mono (fun _ _ _=>ih) _ _ _ h
  |ptr c=>
   cases x with
   |none=>exact h
   |some x=>
    obtain⟨ad,es,rfl,hF,hl,hcs,hk⟩:=h
    exact⟨ad,es,rfl,(hb _ hF).1,hl,hc _ _ hF hcs,ih hk⟩
theorem K.up{F:Nat->Prop}{w:World}:∀ {d:Nat} {c:Ki} {x:c.T} {v:List Value},K F w d c x v->K F w (d+1) c x v:=by
 intro d
 induction d with
 |zero=>intro c x v h;exact h.elim
 |succ d ih=>
  intro c x v h
  cases c with
  |int k=>exact h
  |bool=>exact h
  |str=>exact h
  |slice c=>
   obtain⟨A,cap,rfl,h1,h2,h3⟩:=h
   refine⟨A,cap,rfl,h1,h2,fun i hi=> ?_⟩
   obtain⟨ad,es,hA,hF,hl,hcs,hk⟩:=h3 i hi
   exact⟨ad,es,hA,hF,hl,hcs,ih hk⟩
  |struct n=>exact HAll.mono (fun _ _ _=>ih) _ _ _ h
  |ptr c=>
   cases x with
   |none=>exact h
   |some x=>
    obtain⟨ad,es,rfl,hF,hl,hcs,hk⟩:=h
    exact⟨ad,es,rfl,hF,hl,hcs,ih hk⟩
theorem K.le{F:Nat->Prop}{w:World}{d e:Nat}(hde:d<=e){c:Ki}{x:c.T}{v:List Value}(h:K F w d c x v):K F w e c x v:=by
 induction hde with
 |refl=>exact h
 |step _ ih=>exact ih.up
def Kx(F:Nat->Prop)(w:World)(c:Ki)(x:c.T)(v:List Value):Prop:=∃d,K F w d c x v
section
variable {F:Nat->Prop} {w:World}
theorem Kx.len{c:Ki}{x:c.T}{v:List Value}(h:Kx F w c x v):v.length=c.sz:=h.elim fun _ h=>h.len
theorem Kx.keep{F':Nat->Prop}{w':World}(hb:∀b,F b->F' b∧w'.heap[b]? =w.heap[b]?){c:Ki}{x:c.T}{v:List Value}(h:Kx F w c x v):Kx F' w' c x v:=h.elim fun d h=>⟨d,h.keep hb⟩
theorem Kx_int{k:IntKind}{n:Int}{v:List Value}:Kx F w (.int k) n v↔v=[.int k n]∧inR k n:=
 ⟨fun⟨d,h⟩=>by cases d with|zero=>exact h.elim|succ d=>exact h,fun h=>⟨1,h⟩⟩
theorem Kx_bool{b:Bool}{v:List Value}:Kx F w .bool b v↔v=[.bool b]:=
 ⟨fun⟨d,h⟩=>by cases d with|zero=>exact h.elim|succ d=>exact h,fun h=>⟨1,h⟩⟩
theorem Kx_str{s:Str}{v:List Value}:Kx F w .str s v↔v=[.string ⟨s.toArray⟩]∧s.length<=maxLen:=
 ⟨fun⟨d,h⟩=>by cases d with|zero=>exact h.elim|succ d=>exact h,fun h=>⟨1,h⟩⟩
theorem bound_all{n:Nat}{p:Nat->Nat->Prop}(hup:∀i d e,d<=e->p i d->p i e)(h:∀i,i<n->∃d,p i d):∃d,∀i,i<n->p i d:=by
 induction n with
 |zero=>exact⟨0,fun i hi=>absurd hi (by omega)⟩
 |succ n ih=>
  obtain⟨d,hd⟩:=ih fun i hi=>h i (by omega)
  obtain⟨e,he⟩:=h n (by omega)
  refine⟨max d e,fun i hi=> ?_⟩
  rcases Nat.lt_or_ge i n with h'|h'
  ·exact hup i d _ (Nat.le_max_left _ _) (hd i h')
  ·obtain rfl:i=n:=by omega
   exact hup i e _ (Nat.le_max_right _ _) he
theorem Kx_slice{c:Ki}{xs:List c.T}{v:List Value}:Kx F w (.slice c) xs v↔ ∃A cap,v=[.slice A xs.length cap]∧xs.length<=cap∧cap<=maxLen∧
   (∀i (h:i<xs.length),∃ad es,A=some ad∧F ad.block∧es.length=c.sz∧Cells w (ad.add (i*c.sz)) es∧Kx F w c xs[i] es):=by
 constructor
 ·rintro⟨d,h⟩
  cases d with
  |zero=>exact h.elim
  |succ d=>
   obtain⟨A,cap,e,h1,h2,h3⟩:=h
   refine⟨A,cap,e,h1,h2,fun i hi=> ?_⟩
   obtain⟨ad,es,a,b,c',d',e'⟩:=h3 i hi
   exact⟨ad,es,a,b,c',d',⟨d,e'⟩⟩
 ·rintro⟨A,cap,e,h1,h2,h3⟩
  obtain⟨d,hd⟩:=bound_all (n:=xs.length) (p:=fun i d=>∀h:i<xs.length,∃ad es,A=some ad∧F ad.block∧es.length=c.sz∧Cells w (ad.add (i*c.sz)) es∧K F w d c xs[i] es)
   (fun i d e hde hp h=>by obtain⟨ad,es,a,b,c',d',e'⟩:=hp h;exact⟨ad,es,a,b,c',d',e'.le hde⟩)
   (fun i hi=>by
    obtain⟨ad,es,a,b,c',d',⟨dd,e'⟩⟩:=h3 i hi
    exact⟨dd,fun _=>⟨ad,es,a,b,c',d',e'⟩⟩)
  exact⟨d+1,A,cap,e,h1,h2,fun i hi=>hd i hi hi⟩
theorem HAll_some{p:Nat->(c:Ki)->c.T->List Value->Prop}(hup:∀d e,d<=e->∀c x v,p d c x v->p e c x v):∀cs (x:HL cs) v,HAll (fun c x v=>∃d,p d c x v) cs x v->∃d,HAll (p d) cs x v
 | [],_,_,h=>⟨0,h⟩
 |c::cs,x,_,⟨a,b,e,hl,⟨d,hp⟩,hr⟩=>by
  obtain⟨d',h'⟩:=HAll_some hup cs x.2 b hr
  exact⟨max d d',a,b,e,hl,hup _ _ (Nat.le_max_left _ _) _ _ _ hp,HAll.mono (hup _ _ (Nat.le_max_right _ _)) _ _ _ h'⟩
theorem Kx_struct{n:Nat}{x:Sty n}{v:List Value}:Kx F w (.struct n) x v↔HAll (Kx F w) (flds n) (un n x) v:=by
 constructor
 ·rintro⟨d,h⟩
  cases d with
  |zero=>exact h.elim
  |succ d=>exact HAll.mono (fun _ _ _ h=>⟨d,h⟩) _ _ _ h
 ·intro h
  obtain⟨d,hd⟩:=HAll_some (p:=K F w) (fun d e hde c x v h=>h.le hde) _ _ _ h
  exact⟨d+1,hd⟩
theorem Kx_ptr_none{c:Ki}{v:List Value}:Kx F w (.ptr c) none v↔v=[.pointer none]:=
 ⟨fun⟨d,h⟩=>by cases d with|zero=>exact h.elim|succ d=>exact h,fun h=>⟨1,h⟩⟩
theorem Kx_ptr_some{c:Ki}{x:c.T}{v:List Value}:Kx F w (.ptr c) (some x) v↔ ∃ad es,v=[.pointer (some ad)]∧F ad.block∧es.length=c.sz∧Cells w ad es∧Kx F w c x es:=by
 constructor
 ·rintro⟨d,h⟩
  cases d with
  |zero=>exact h.elim
  |succ d=>obtain⟨ad,es,a,b,c',d',e'⟩:=h;exact⟨ad,es,a,b,c',d',⟨d,e'⟩⟩
 ·rintro⟨ad,es,a,b,c',d',⟨d,e'⟩⟩
  exact⟨d+1,ad,es,a,b,c',d',e'⟩
end
end Go.Q
namespace Go.Q
def ElemsD{α:Type}(sz:Nat)(P:α->List Value->List Nat->Prop):List α->List Value->List Nat->Prop
 | [],v,bs=>v=[]∧bs=[]
 |x::xs,v,bs=>∃a b p q,v=a++b∧a.length=sz∧bs=p++q∧P x a p∧ElemsD sz P xs b q
def HAllD(P:(c:Ki)->c.T->List Value->List Nat->Prop):(cs:List Ki)->HL cs->List Value->List Nat->Prop
 | [],_,v,bs=>v=[]∧bs=[]
 |c::cs,h,v,bs=>∃a b p q,v=a++b∧a.length=c.sz∧bs=p++q∧P c h.1 a p∧HAllD P cs h.2 b q
def RowD(w:World){α:Type}(sz:Nat)(P:α->List Value->List Nat->Prop)(xs:List α)(v:Value)(bs:List Nat):Prop:=
 ((∃A,v= .slice A 0 0)∧xs=[]∧bs=[])∨
 ∃g cap cur e rest,v= .slice (some ⟨g,0,none⟩) xs.length cap∧w.heap[g]? =some (.cells cur e (0,0))∧xs.length<=cap∧cap<=maxLen∧cur.size=cap*sz∧bs=g::rest∧
  ElemsD sz P xs (cur.toList.take (xs.length*sz)) rest
def D(w:World):Nat->(c:Ki)->c.T->List Value->List Nat->Prop
 |0,_,_,_,_=>False
 |_+1,.int k,n,v,bs=>v=[.int k n]∧inR k n∧bs=[]
 |_+1,.bool,b,v,bs=>v=[.bool b]∧bs=[]
 |_+1,.str,s,v,bs=>v=[.string ⟨List.toArray s⟩]∧List.length s<=maxLen∧bs=[]
 |d+1,.slice c,xs,v,bs=>∃u,v=[u]∧RowD w c.sz (D w d c) xs u bs
 |d+1,.struct n,x,v,bs=>HAllD (D w d) (flds n) (un n x) v bs
 |_+1,.ptr _,_,_,_=>False
section
theorem ElemsD.mono{α:Type}{sz:Nat}{P Q:α->List Value->List Nat->Prop}:∀ {xs:List α} {v bs},(∀x a p,(∀b∈p,b∈bs)->P x a p->Q x a p)->ElemsD sz P xs v bs->ElemsD sz Q xs v bs
 | [],_,_,_,h=>h
 |_::xs,_,_,hm,⟨a,b,p,q,e,hl,eb,hp,hr⟩=>by
  subst eb
  exact⟨a,b,p,q,e,hl,rfl,hm _ _ _ (fun _ hb=>List.mem_append_left _ hb) hp,ElemsD.mono (fun x a' p' hs h'=>hm x a' p' (fun b hb=>List.mem_append_right _ (hs b hb)) h') hr⟩
theorem HAllD.mono{P Q:(c:Ki)->c.T->List Value->List Nat->Prop}:∀ {cs} {x:HL cs} {v bs},(∀c x a p,(∀b∈p,b∈bs)->P c x a p->Q c x a p)->HAllD P cs x v bs->HAllD Q cs x v bs
 | [],_,_,_,_,h=>h
 |_::cs,_,_,_,hm,⟨a,b,p,q,e,hl,eb,hp,hr⟩=>by
  subst eb
  exact⟨a,b,p,q,e,hl,rfl,hm _ _ _ _ (fun _ hb=>List.mem_append_left _ hb) hp,HAllD.mono (fun c x a' p' hs h'=>hm c x a' p' (fun b hb=>List.mem_append_right _ (hs b hb)) h') hr⟩
theorem ElemsD.len{α:Type}{sz:Nat}{P:α->List Value->List Nat->Prop}:∀ {xs:List α} {v bs},ElemsD sz P xs v bs->v.length=xs.length*sz
 | [],_,_,h=>by simp[h.1]
 |_::xs,_,_,⟨a,b,p,q,e,hl,eb,hp,hr⟩=>by subst e;simp[hl,hr.len,Nat.add_mul];omega
theorem RowD.mono{w w':World}{α:Type}{sz:Nat}{P Q:α->List Value->List Nat->Prop}{xs:List α}{v:Value}{bs:List Nat}(hb:∀b∈bs,w'.heap[b]? =w.heap[b]?)
  (hm:∀x a p,(∀b∈p,b∈bs)->P x a p->Q x a p) (h:RowD w sz P xs v bs):RowD w' sz Q xs v bs:=by
 rcases h with h|⟨g,cap,cur,e,rest,rfl,hg,h1,h2,h3,rfl,h4⟩
 ·exact .inl h
 ·refine .inr ⟨g,cap,cur,e,rest,rfl,?_,h1,h2,h3,rfl,h4.mono fun x a p hs hp=>hm x a p (fun b hb=>List.mem_cons_of_mem _ (hs b hb)) hp⟩
  rw[hb g (by simp)];exact hg
theorem D.keep{w w':World}:∀ {d:Nat} {c:Ki} {x:c.T} {v:List Value} {bs:List Nat},(∀b∈bs,w'.heap[b]? =w.heap[b]?)->D w d c x v bs->D w' d c x v bs
 |0,_,_,_,_,_,h=>h.elim
 |_+1,.int _,_,_,_,_,h=>h
 |_+1,.bool,_,_,_,_,h=>h
 |_+1,.str,_,_,_,_,h=>h
 |d+1,.slice c,_,_,_,hb,⟨u,e,h⟩=>⟨u,e,h.mono hb fun _ _ _ hs hp=>D.keep (fun b hb'=>hb b (hs b hb')) hp⟩
 |d+1,.struct n,_,_,_,hb,h=>by
  simp only[D]at h⊢
  exact h.mono fun _ _ _ _ hs hp=>D.keep (fun b hb'=>hb b (hs b hb')) hp
 |_+1,.ptr _,_,_,_,_,h=>h.elim
theorem D.up{w:World}:∀ {d:Nat} {c:Ki} {x:c.T} {v:List Value} {bs:List Nat},D w d c x v bs->D w (d+1) c x v bs
 |0,_,_,_,_,h=>h.elim
 |_+1,.int _,_,_,_,h=>h
 |_+1,.bool,_,_,_,h=>h
 |_+1,.str,_,_,_,h=>h
 |d+1,.slice c,_,_,_,⟨u,e,h⟩=>⟨u,e,h.mono (fun _ _=>rfl) fun _ _ _ _ hp=>D.up hp⟩
 |d+1,.struct n,_,_,_,h=>by
  rw[D]at h⊢
  exact h.mono fun _ _ _ _ _ hp=>D.up hp
 |_+1,.ptr _,_,_,_,h=>h.elim
theorem D.le{w:World}{d e:Nat}(hde:d<=e){c:Ki}{x:c.T}{v:List Value}{bs:List Nat}(h:D w d c x v bs):D w e c x v bs:=by
 induction hde with
 |refl=>exact h
 |step _ ih=>exact ih.up
theorem Cells_drop{w:World}{g:Nat}{cur:Array Value}{e:TypeId}{fr:Nat×Nat}(hg:w.heap[g]? =some (.cells cur e fr))(i:Nat)(es:List Value)(h:∀j u,es[j]? =some u->cur[i+j]? =some u):
  Cells w ((⟨g,0,none⟩:Addr).add i) es:=by
 intro j u hj
 have ha:((⟨g,0,none⟩:Addr).add i).add j=⟨g,i+j,none⟩:=by
  unfold Addr.add
  by_cases h1:i=0<;>by_cases h2:j=0<;>simp[h1,h2]
 rw[ha]
 simp[World.cell?,hg,h j u hj]
theorem ElemsD.at{α:Type}{sz:Nat}{P:α->List Value->List Nat->Prop}:∀ {xs:List α} {v bs},ElemsD sz P xs v bs->∀i (hi:i<xs.length),
  ∃es p,es.length=sz∧(∀j u,es[j]? =some u->v[i*sz+j]? =some u)∧(∀b∈p,b∈bs)∧P xs[i] es p
 | [],_,_,_,i,hi=>absurd hi (by simp)
 |_::xs,_,_,⟨a,b,p,q,e,hl,eb,hp,hr⟩,0,_=>by
  subst e eb
  refine⟨a,p,hl,fun j u hj=> ?_,fun b hb=>List.mem_append_left _ hb,hp⟩
  have hj':j<a.length:=(List.getElem?_eq_some_iff.1 hj).1
  rw[Nat.zero_mul,Nat.zero_add,List.getElem?_append_left hj'];exact hj
 |_::xs,_,_,⟨a,b,p,q,e,hl,eb,hp,hr⟩,i+1,hi=>by
  subst e eb
  obtain⟨es,p',h1,h2,h3,h4⟩:=hr.at i (by simpa using hi)
  refine⟨es,p',h1,fun j u hj=> ?_,fun b hb=>List.mem_append_right _ (h3 b hb),h4⟩
  rw[List.getElem?_append_right (by rw[hl,Nat.add_mul];omega),hl]
  have:(i+1)*sz+j-sz=i*sz+j:=by rw[Nat.add_mul];omega
  rw[this];exact h2 j u hj
theorem RowD.read{w:World}{F:Nat->Prop}{α:Type}{sz:Nat}{P:α->List Value->List Nat->Prop}{Q:α->List Value->Prop}{xs:List α}{v:Value}{bs:List Nat}(hF:∀b∈bs,F b)
  (hm:∀x a p,(∀b∈p,b∈bs)->P x a p->Q x a) (h:RowD w sz P xs v bs):RowK F w sz Q xs [v]:=by
 rcases h with⟨⟨A,rfl⟩,rfl,_⟩|⟨g,cap,cur,e,rest,rfl,hg,h1,h2,h3,rfl,h4⟩
 ·exact⟨A,0,rfl,by simp,by simp,fun i hi=>absurd hi (by simp)⟩
 ·refine⟨_,cap,rfl,h1,h2,fun i hi=> ?_⟩
  obtain⟨es,p,ha,hb,hc,hd⟩:=h4.at i hi
  refine⟨_,es,rfl,hF g (by simp),ha,Cells_drop hg _ _ fun j u hj=> ?_,hm _ _ _ (fun b hb=>List.mem_cons_of_mem _ (hc b hb)) hd⟩
  have:=hb j u hj
  rw[List.getElem?_take]at this
  split at this
  ·simpa using this
  ·cases this
theorem HAllD.read{P:(c:Ki)->c.T->List Value->List Nat->Prop}{Q:(c:Ki)->c.T->List Value->Prop}:∀ {cs} {x:HL cs} {v bs},(∀c x a p,(∀b∈p,b∈bs)->P c x a p->Q c x a)->HAllD P cs x v bs->HAll Q cs x v
 | [],_,_,_,_,h=>h.1
 |_::cs,_,_,_,hm,⟨a,b,p,q,e,hl,eb,hp,hr⟩=>by
  subst eb
  exact⟨a,b,e,hl,hm _ _ _ _ (fun _ hb=>List.mem_append_left _ hb) hp,HAllD.read (fun c x a' p' hs h'=>hm c x a' p' (fun b hb=>List.mem_append_right _ (hs b hb)) h') hr⟩
theorem D.read{w:World}{F:Nat->Prop}:∀ {d:Nat} {c:Ki} {x:c.T} {v:List Value} {bs:List Nat},(∀b∈bs,F b)->D w d c x v bs->K F w d c x v
 |0,_,_,_,_,_,h=>h.elim
 |_+1,.int _,_,_,_,_,h=>⟨h.1,h.2.1⟩
 |_+1,.bool,_,_,_,_,h=>h.1
 |_+1,.str,_,_,_,_,h=>⟨h.1,h.2.1⟩
 |d+1,.slice c,_,_,_,hb,⟨u,e,h⟩=>by
  subst e
  exact h.read hb fun _ _ _ hs hp=>D.read (fun b hb'=>hb b (hs b hb')) hp
 |d+1,.struct n,_,_,_,hb,h=>by
  rw[D]at h;rw[K]
  exact h.read fun _ _ _ _ hs hp=>D.read (fun b hb'=>hb b (hs b hb')) hp
 |_+1,.ptr _,_,_,_,_,h=>h.elim
end
def Dx(w:World)(c:Ki)(x:c.T)(v:List Value)(bs:List Nat):Prop:=∃d,D w d c x v bs
section
variable {w:World}
theorem Dx.keep{w':World}{c:Ki}{x:c.T}{v:List Value}{bs:List Nat}(hb:∀b∈bs,w'.heap[b]? =w.heap[b]?)(h:Dx w c x v bs):Dx w' c x v bs:=h.elim fun d h=>⟨d,h.keep hb⟩
theorem Dx.read{F:Nat->Prop}{c:Ki}{x:c.T}{v:List Value}{bs:List Nat}(hb:∀b∈bs,F b)(h:Dx w c x v bs):Kx F w c x v:=h.elim fun d h=>⟨d,h.read hb⟩
theorem Dx.len{c:Ki}{x:c.T}{v:List Value}{bs:List Nat}(h:Dx w c x v bs):v.length=c.sz:=(h.read (F:=fun _=>True) (fun _ _=>trivial)).len
theorem ElemsD_some{α:Type}{sz:Nat}{p:Nat->α->List Value->List Nat->Prop}(hup:∀d e,d<=e->∀x v b,p d x v b->p e x v b):∀ {xs:List α} {v bs},ElemsD sz (fun x v b=>∃d,p d x v b) xs v bs->∃d,ElemsD sz (p d) xs v bs
 | [],_,_,h=>⟨0,h⟩
 |_::xs,_,_,⟨a,b,q,r,e,hl,eb,⟨d,hp⟩,hr⟩=>by
  obtain⟨d',h'⟩:=ElemsD_some hup hr
  exact⟨max d d',a,b,q,r,e,hl,eb,hup _ _ (Nat.le_max_left _ _) _ _ _ hp,h'.mono fun x v b _ h=>hup _ _ (Nat.le_max_right _ _) _ _ _ h⟩
theorem HAllD_some{p:Nat->(c:Ki)->c.T->List Value->List Nat->Prop}(hup:∀d e,d<=e->∀c x v b,p d c x v b->p e c x v b):∀ {cs} {x:HL cs} {v bs},HAllD (fun c x v b=>∃d,p d c x v b) cs x v bs->∃d,HAllD (p d) cs x v bs
 | [],_,_,_,h=>⟨0,h⟩
 |_::cs,_,_,_,⟨a,b,q,r,e,hl,eb,⟨d,hp⟩,hr⟩=>by
  obtain⟨d',h'⟩:=HAllD_some hup hr
  exact⟨max d d',a,b,q,r,e,hl,eb,hup _ _ (Nat.le_max_left _ _) _ _ _ _ hp,h'.mono fun c x v b _ h=>hup _ _ (Nat.le_max_right _ _) _ _ _ _ h⟩
theorem Dx_slice{c:Ki}{xs:List c.T}{v:List Value}{bs:List Nat}:Dx w (.slice c) xs v bs↔ ∃u,v=[u]∧RowD w c.sz (Dx w c) xs u bs:=by
 constructor
 ·rintro⟨d,h⟩
  cases d with
  |zero=>exact h.elim
  |succ d=>
   obtain⟨u,e,h⟩:=h
   exact⟨u,e,h.mono (fun _ _=>rfl) fun _ _ _ _ h=>⟨d,h⟩⟩
 ·rintro⟨u,e,h⟩
  rcases h with h|⟨g,cap,cur,el,rest,h0,hg,h1,h2,h3,h5,h4⟩
  ·exact⟨1,u,e,.inl h⟩
  ·obtain⟨d,hd⟩:=ElemsD_some (p:=fun d=>D w d c) (fun d e hde _ _ _ h=>h.le hde) h4
   exact⟨d+1,u,e,.inr ⟨g,cap,cur,el,rest,h0,hg,h1,h2,h3,h5,hd⟩⟩
theorem Dx_struct{n:Nat}{x:Sty n}{v:List Value}{bs:List Nat}:Dx w (.struct n) x v bs↔HAllD (Dx w) (flds n) (un n x) v bs:=by
 constructor
 ·rintro⟨d,h⟩
  cases d with
  |zero=>exact h.elim
  |succ d=>exact HAllD.mono (fun _ _ _ _ _ h=>⟨d,h⟩) h
 ·intro h
  obtain⟨d,hd⟩:=HAllD_some (p:=D w) (fun d e hde c x v b h=>h.le hde) h
  exact⟨d+1,hd⟩
theorem Dx_int{k:IntKind}{n:Int}{v:List Value}{bs:List Nat}:Dx w (.int k) n v bs↔v=[.int k n]∧inR k n∧bs=[]:=
 ⟨fun⟨d,h⟩=>by cases d with|zero=>exact h.elim|succ d=>exact h,fun h=>⟨1,h⟩⟩
theorem Dx_bool{b:Bool}{v:List Value}{bs:List Nat}:Dx w .bool b v bs↔v=[.bool b]∧bs=[]:=
 ⟨fun⟨d,h⟩=>by cases d with|zero=>exact h.elim|succ d=>exact h,fun h=>⟨1,h⟩⟩
theorem Dx_str{s:Str}{v:List Value}{bs:List Nat}:Dx w .str s v bs↔v=[.string ⟨s.toArray⟩]∧s.length<=maxLen∧bs=[]:=
 ⟨fun⟨d,h⟩=>by cases d with|zero=>exact h.elim|succ d=>exact h,fun h=>⟨1,h⟩⟩
end
end Go.Q
namespace Go.Q
abbrev Lab:=List Nat
inductive AV where
 |v (c:Ki) (x:c.T)
 |sl (l:Lab)
 |pt (l:Lab) (off:Nat)
 |ep (l:Lab) (c:Ki) (i:Int) (off:Nat)
 |ag (n:Nat) (ls:List AV)
 |fn (f:FuncId) (cs:List AV)
 |tu (vs:List AV)
 |nl (c:Ki)
 |cl (c:Ki) (xs:List c.T)
 |mp (l:Lab)
 |ls (l:Lab) (c:Ki) (n:Nat)
 |no
 |ud
inductive Ob where
 |box (ls:List AV)
 |row (deep pin:Bool) (c:Ki) (xs:List c.T)
 |mp (kk vk:Ki) (es:List (kk.T×vk.T))
def Ob.pn:Ob->Bool
 | .row _ p _ _=>p
 |_=>false
def Ob.pnd(pb:Lab->Bool)(l:Lab):Ob->Bool
 | .row _ p _ _=>p
 | .box _=>pb l
 | .mp _ _ _=>pb l
theorem pnd_false{pb:Lab->Bool}{l:Lab}{o:Ob}(h:o.pn=false)(hb:pb l=false):o.pnd pb l=false:=by
 cases o with
 |box ls=>exact hb
 |row d p c xs=>exact h
 |mp _ _ _=>exact hb
structure Env where
 tm:List (Nat×AV)
 ob:List (Lab×Ob)
def lk{α:Type}:List (Nat×α)->Nat->Option α
 | [],_=>none
 |(k,x)::l,n=>if k=n then some x else lk l n
def lo{α:Type}:List (Lab×α)->Lab->Option α
 | [],_=>none
 |(k,x)::l,n=>if k=n then some x else lo l n
mutual
def AV.refs(p:Lab->Bool):AV->Bool
 | .v _ _=>false
 | .sl l| .pt l _| .ep l _ _ _=>p l
 | .ag _ ls=>refsL p ls
 | .fn _ cs=>refsL p cs
 | .tu vs=>refsL p vs
 | .nl _=>false
 | .cl _ _=>false
 | .mp l=>p l
 | .ls l _ _=>p l
 | .no=>false
 | .ud=>false
def refsL(p:Lab->Bool):List AV->Bool
 | []=>false
 |a::as=>a.refs p||refsL p as
end
def AV.kill(p:Lab->Bool)(a:AV):AV:=if a.refs p then .no else a
def killT(p:Lab->Bool):List (Nat×AV)->List (Nat×AV)
 | []=>[]
 |(t,a)::l=>(t,a.kill p)::killT p l
def killL(p:Lab->Bool):List AV->List AV
 | []=>[]
 |a::l=>a.kill p::killL p l
def Ob.kill(p:Lab->Bool):Ob->Ob
 | .box ls=>.box (killL p ls)
 |o=>o
def killO(p:Lab->Bool):List (Lab×Ob)->List (Lab×Ob)
 | []=>[]
 |(l,o)::r=>if p l then killO p r else(l,o.kill p)::killO p r
def Env.kill(p:Lab->Bool)(Γ:Env):Env:=⟨killT p Γ.tm,killO p Γ.ob⟩
def hd(d:Nat):Lab->Bool
 | []=>false
 |n::_=>n==d
def Env.put(Γ:Env)(d:Nat)(a:AV):Env:=⟨(d,a)::Γ.tm,Γ.ob⟩
def Env.new(Γ:Env)(l:Lab)(o:Ob):Env:=⟨Γ.tm,(l,o)::Γ.ob⟩
def Env.get(Γ:Env)(t:Nat):Option AV:=lk Γ.tm t
def keepT(tm:List (Nat×AV)):List Nat->List (Nat×AV)
 | []=>[]
 |t::ts=>match lk tm t with
  |some a=>(t,a)::keepT tm ts
  |none=>keepT tm ts
def keepO(ob:List (Lab×Ob)):List Lab->List (Lab×Ob)
 | []=>[]
 |l::ls=>match lo ob l with
  |some o=>(l,o)::keepO ob ls
  |none=>keepO ob ls
def Env.keep(Γ:Env)(ts:List Nat)(ls:List Lab):Env:=⟨keepT Γ.tm ts,keepO Γ.ob ls⟩
section rep
variable (σ:Lab->Value) (F:Nat->Prop) (w:World)
mutual
def RepC:AV->List Value->Prop
 | .v c x,cs=>Kx F w c x cs
 | .sl l,cs=>∃A n c,σ l= .slice A n c∧cs=[.slice A n c]
 | .pt l off,cs=>∃b,σ l= .pointer (some ⟨b,0,none⟩)∧cs=[.pointer (some ⟨b,off,none⟩)]
 | .ep l c i off,cs=>∃g n cap,σ l= .slice (some ⟨g,0,none⟩) n cap∧0<=i∧cs=[.pointer (some ⟨g,i.toNat*c.sz+off,none⟩)]
 | .ag n ls,cs=>ls.length=ssz n∧RepCs ls cs
 | .fn f caps,cs=>∃vs,cs=[.func (.func f) #[] vs.toArray]∧RepCs caps vs
 | .tu _,_=>False
 | .nl _,cs=>∃A,cs=[.slice A 0 0]
 | .cl c xs,cs=>Kx F w (.slice c) xs cs∧∃A,cs=[.slice A (List.length xs) (List.length xs)]
 | .mp l,cs=>∃g,σ l= .map (some g)∧cs=[.map (some g)]
 | .ls l _ n,cs=>∃b,σ l= .pointer (some ⟨b,0,none⟩)∧cs=[.slice (some ⟨b,0,none⟩) n n]
 | .no,_=>True
 | .ud,cs=>cs=[undef]
def RepCs:List AV->List Value->Prop
 | [],cs=>cs=[]
 |a::as,cs=>∃u us,cs=u::us∧RepC a [u]∧RepCs as us
end
def AV.isS:AV->Bool
 | .v (.struct _) _=>true
 | .ag _ _=>true
 |_=>false
def RepU(a:AV)(u:Value):Prop:=if a.isS then∃cs,u= .agg cs.toArray∧RepC σ F w a cs else RepC σ F w a [u]
def RepUs:List AV->List Value->Prop
 | [],us=>us=[]
 |a::as,us=>∃v vs,us=v::vs∧RepU σ F w a v∧RepUs as vs
def RepV:AV->Value->Prop
 | .tu as,u=>∃us,u= .tuple us.toArray∧RepUs σ F w as us
 |a,u=>RepU σ F w a u
end rep
abbrev Own:=Nat->Option Lab
structure Gd where
 rd:Nat->Prop
 pin:Lab->Value
 pb:Lab->Bool
 tb:List (Nat×Array Value)
instance:CoeFun Gd (fun _=>Nat->Prop):=⟨Gd.rd⟩
abbrev gd(p:Nat->Prop):Gd:=⟨p,fun _=>undef,fun _=>false,[]⟩
abbrev gdT(T:List (Nat×Array Value))(p:Nat->Prop):Gd:=⟨p,fun _=>undef,fun _=>false,T⟩
def fz(G:Gd)(ow:Own)(w:World)(b:Nat):Prop:=ow b=none∧b<w.heap.size∧G b
def keq:(c:Ki)->c.T->c.T->Bool
 | .int _,(a:Int),(b:Int)=>a==b
 | .bool,(a:Bool),(b:Bool)=>a==b
 | .str,(a:Str),(b:Str)=>a==b
 |_,_,_=>false
def EntX(F:Nat->Prop)(w:World)(kk vk:Ki):List (kk.T×vk.T)->List MapEntry->Prop
 | [],es=>es=[]
 |(k,v)::r,es=>∃e t,es=e::t∧Kx F w kk k [e.key]∧Kx F w vk v [e.val]∧EntX F w kk vk r t
theorem EntX.keep{F F':Nat->Prop}{w w':World}(hb:∀b,F b->F' b∧w'.heap[b]? =w.heap[b]?){kk vk:Ki}:∀ {es:List (kk.T×vk.T)} {ms:List MapEntry},EntX F w kk vk es ms->EntX F' w' kk vk es ms
 | [],_,h=>h
 |(k,v)::r,_,⟨e,t,h0,h1,h2,h3⟩=>⟨e,t,h0,h1.keep hb,h2.keep hb,EntX.keep hb h3⟩
def kdist{kk vk:Ki}(es:List (kk.T×vk.T)):Prop:=es.Pairwise fun a b=>keq kk a.1 b.1=false
def EntR(F:Nat->Prop)(w:World)(kk vk:Ki)(es:List (kk.T×vk.T))(ms:List MapEntry):Prop:=∃es',es'.Perm es∧kdist es'∧EntX F w kk vk es' ms
theorem EntR.keep{F F':Nat->Prop}{w w':World}(hb:∀b,F b->F' b∧w'.heap[b]? =w.heap[b]?){kk vk:Ki}{es:List (kk.T×vk.T)}{ms:List MapEntry}:EntR F w kk vk es ms->EntR F' w' kk vk es ms
 |⟨es',h1,h2,h3⟩=>⟨es',h1,h2,h3.keep hb⟩
def RowO(w:World)(F:Nat->Prop)(deep:Bool)(c:Ki)(xs:List c.T)(v:Value)(bs:List Nat):Prop:=
 if deep then RowD w c.sz (Dx w c) xs v bs else RowD w c.sz (fun x a p=>Kx F w c x a∧p=[]) xs v bs
def ObR(G:Gd)(σ:Lab->Value)(ow:Own)(w:World)(l:Lab):Ob->Prop
 | .box ls=>∃b e cs,σ l= .pointer (some ⟨b,0,none⟩)∧w.heap[b]? =some (.cells cs e (0,0))∧ow b=some l∧RepCs σ (fz G ow w) w ls cs.toList
 | .row deep _ c xs=>∃bs,RowO w (fz G ow w) deep c xs (σ l) bs∧bs.Nodup∧∀b∈bs,ow b=some l
 | .mp kk vk es=>∃g ms clk,σ l= .map (some g)∧w.heap[g]? =some (.map ms clk)∧ow g=some l∧EntR (fz G ow w) w kk vk es ms.toList
def Laid(T:List (Nat×Array Value))(F:Nat->Prop)(w:World):Prop:=∀b v,(b,v)∈T->F b∧∃e fr,w.heap[b]? =some (.cells v e fr)
theorem Laid.keep{T:List (Nat×Array Value)}{F F':Nat->Prop}{w w':World}(h:Laid T F w)(hb:∀b,F b->F' b∧w'.heap[b]? =w.heap[b]?):Laid T F' w':=fun b v hv=>by
 obtain⟨h1,e,fr,h2⟩:=h b v hv
 exact⟨(hb b h1).1,e,fr,(hb b h1).2.trans h2⟩
structure Tp (G:Gd) (ow:Own) (w:World):Prop where
 new:∀b,w.heap.size<=b->G b
 laid:Laid G.tb (fz G ow w) w
structure Rep (N:Nat) (G:Gd) (σ:Lab->Value) (ow:Own) (w:World) (a:Act) (Γ:Env):Prop where
 size:a.tmps.size=N
 defers:a.defers=[]
 tm:∀t x,lk Γ.tm t=some x->RepV σ (fz G ow w) w x (a.tmps.getD t undef)
 ob:∀l o,lo Γ.ob l=some o->ObR G σ ow w l o
 own:∀b l,ow b=some l->G b
 top:Tp G ow w
 pin:∀l o,lo Γ.ob l=some o->o.pnd G.pb l=true->σ l=G.pin l
 big:∀d l,d<N->G.pb (d::l)=false
structure Ext (ow:Own) (w:World) (ow':Own) (w':World):Prop where
 os:w'.os=w.os
 tape:w'.tape=w.tape
 output:w'.output=w.output
 size:w.heap.size<=w'.heap.size
 block:∀b,b<w.heap.size->ow b=none->ow' b=none∧w'.heap[b]? =w.heap[b]?
theorem Ext.refl(ow:Own)(w:World):Ext ow w ow w:=⟨rfl,rfl,rfl,Nat.le_refl _,fun _ _ h=>⟨h,rfl⟩⟩
theorem Ext.trans{a b c:Own}{u v w:World}(h:Ext a u b v)(k:Ext b v c w):Ext a u c w:=
 ⟨k.os.trans h.os,k.tape.trans h.tape,k.output.trans h.output,Nat.le_trans h.size k.size,fun i hi hn=>by
  obtain⟨h1,h2⟩:=h.block i hi hn
  obtain⟨h3,h4⟩:=k.block i (Nat.lt_of_lt_of_le hi h.size) h1
  exact⟨h3,h4.trans h2⟩⟩
end Go.Q
namespace Go.Q
inductive O where
 |t (n:Nat)
 |i (n:Int)
 |k (k:IntKind) (n:Int)
 |b (b:Bool)
 |s (s:Str)
 |nl (c:Ki)
 |np (c:Ki)
 |f (f:FuncId)
 |no
inductive Md where
 |v (c:Ki)
 |io (c:Ki)
 |fn
inductive LV where
 |v (c:Ki) (x:c.T)
 |o (c:Ki) (xs:List c.T)
 |s (c:Ki) (xs:List c.T)
inductive LO where
 |box (ls:List LV)
 |row (dp:Bool) (c:Ki) (xs:List c.T)
 |mp (kk vk:Ki) (es:List (kk.T×vk.T))
 |gone
inductive SA where
 |v (c:Ki) (x:c.T)
 |io (c:Ki) (x:c.T)
 |fn (f:FuncId) (cs:List (Sigma Ki.T))
 |pt (i off:Nat)
 |sl (i:Nat)
 |mp (i:Nat)
 |ag (n:Nat) (ls:List SA)
 |fb (f:FuncId) (cs:List SA)
 |lo (o:LO)
inductive RA where
 |v (c:Ki) (x:c.T)
 |o (c:Ki) (x:c.T)
 |s (c:Ki) (xs:List c.T)
 |t (rs:List RA)
 |w (c:Ki) (y:Option c.T) (n:Int)
 |cl (c:Ki) (xs:List c.T)
 |q (r:RA) (os:List LO)
 |m (kk vk:Ki) (es:List (kk.T×vk.T))
 |b (n:Nat) (x:Sty n)
def LV.ra:LV->RA
 | .v c x=>.v c x
 | .o c xs=>.o (.slice c) xs
 | .s c xs=>.s c xs
inductive RM where
 |v (c:Ki)
 |o (c:Ki)
 |s (c:Ki)
 |cl (c:Ki)
 |m (kk vk:Ki)
 |b (n:Nat)
inductive Mq where
 |v (c:Ki)
 |fn
 |q
 |rw(dp:Bool) (c:Ki)
inductive I where
 |mv (d:Nat) (o:O)
 |nck (d:Nat) (o:O)
 |un (d:Nat) (u:UnOp) (o:O)
 |bi (d:Nat) (b:BinOp) (x y:O)
 |be (d:Nat) (ne:Bool) (x y:O)
 |pk (d:Nat) (c x y:O)
 |fa (d:Nat) (o:O) (n j off:Nat)
 |ia (d:Nat) (o i:O) (c:Ki)
 |ld (d:Nat) (o:O) (c:Ki)
 |st (o x:O) (c:Ki)
 |bx (d:Nat) (o:O) (c:Ki)
 |al (d:Nat) (c:Ki)
 |ln (d:Nat) (st:Bool) (o:O)
 |mk (d:Nat) (deep:Bool) (c:Ki) (n:O)
 |ca (d:Option Nat) (f:FuncId) (xs:List (O×Md))
 |cv (d:Option Nat) (f:FuncId) (xs:List (O×Md))
 |cf (d:Option Nat) (o:O) (xs:List (O×Md))
 |bs (d:Nat) (dp:Bool) (c:Ki) (xs:List O)
 |bd (d:Nat) (n:Nat) (ps:List (Nat×Nat×O))
 |an (d:Nat) (dp:Bool) (c:Ki) (o x:O)
 |ap (d:Nat) (L:Lab) (dp:Bool) (c:Ki) (o x:O)
 |ci (d:Nat) (k:IntKind) (o:O)
 |cfr (d:Nat) (o:O) (xs:List (O×Md))
 |cs (d:Nat) (o:O)
 |ix (d:Nat) (o i:O)
 |sx (d:Nat) (o:O) (lo hi:Option O)
 |sa (d:Nat) (L:Lab) (o x:O)
 |cq (d:Option Nat) (f:FuncId) (xs:List (O×Mq))
 |xt (d:Nat) (o:O) (i:Nat)
 |pn (o:O)
 |bf (d:Nat) (c:Ki) (xs:List O)
 |bo (d:Nat) (c:Ki) (xs:List O)
 |mm (d:Nat) (kk vk:Ki)
 |mu (m k v:O) (kk vk:Ki)
 |ml (d:Nat) (m k:O) (kk vk:Ki) (ok:Bool)
 |bl (d:Nat) (c:Ki) (xs:List O)
 |apl (d:Nat) (L:Lab) (c:Ki) (o:O) (t:Nat)
 |g (t:Nat) (b:Bool) (i:I)
inductive C where
 |skip
 |rg (is:List I)
 |dr (ds:List Nat) (ps ts:List I)
 |sq (a b:C)
 |cd (o:O) (a b:C)
 |bk (id:Nat) (c:C)
 |lp (c:C)
 |ex (id:Nat)
 |rt
 |gt (t:Nat) (dp:Bool) (k:Ki) (c:C)
 |gb (t j:Nat) (dp:Bool) (k:Ki) (c:C)
 |zb (t j:Nat) (k:Ki) (c:C)
 |kp (ts:List Nat) (ls:List Lab) (c:C)
 |lk (ts:List Nat) (ls:List Lab) (c:C)
 |dq (hs is:List Nat) (d:Nat) (ps ts:List I)
 |dl (hs is:List Nat) (d:Nat) (ps:List I) (d1:Nat) (c:Ki) (xs:List O) (ts:List I)
inductive Xt where
 |nrm
 |ex (id:Nat)
 |rt
def need{α:Type}:Option α->(α->Prop)->Prop
 |some a,f=>f a
 |none,_=>False
def ev(Γ:Env):O->Option AV
 | .t n=>lk Γ.tm n
 | .i n=>some (.v kI n)
 | .k k n=>some (.v (.int k) n)
 | .b b=>some (.v .bool b)
 | .s s=>some (.v .str s)
 | .nl c=>some (.nl c)
 | .np c=>some (.v (.ptr c) (none:Option c.T))
 | .f f=>some (.fn f [])
 | .no=>some .no
def gt{α:Type}(xs:List α)(i:Int)(z:α):α:=xs.getD i.toNat z
def w64(n:Int):Int:=IntKind.i64.wrap n
def AV.as(c:Ki):AV->Option c.T
 | .v c' x=>if h:c'=c then some (h▸x)else none
 |_=>none
def Ob.as(c:Ki):Ob->Option (List c.T)
 | .row _ _ c' xs=>if h:c'=c then some (h▸xs)else none
 |_=>none
theorem as_v(c:Ki)(x:c.T):AV.as c (.v c x)=some x:=by simp[AV.as]
theorem as_row(c:Ki)(d p:Bool)(xs:List c.T):Ob.as c (.row d p c xs)=some xs:=by simp[Ob.as]
def Ki.flat:Ki->Bool
 | .int _=>true
 | .bool=>true
 | .str=>true
 |_=>false
def pkL(ob:List (Lab×Ob)):(c:Ki)->AV->Option c.T
 | .slice c,.sl l=>(lo ob l).bind (Ob.as c)
 | .slice c,.nl _=>some ([]:List c.T)
 | .slice c,.cl c' xs=>AV.as (.slice c) (.v (.slice c') xs)
 |c,a=>AV.as c a
def hget:(cs:List Ki)->HL cs->Nat->Option AV
 | [],_,_=>none
 |c::_,h,0=>some (.v c h.1)
 |_::cs,h,j+1=>hget cs h.2 j
def lv:Nat->(cs:List Ki)->HL cs->List AV
 |0,_,_=>[]
 |_+1,[],_=>[]
 |f+1,.struct n::cs,h=>lv f (flds n) (un n h.1)++lv f cs h.2
 |f+1,c::cs,h=>.v c h.1::lv f cs h.2
def lvs(n:Nat)(x:Sty n):List AV:=lv 99 (flds n) (un n x)
def im(ob:List (Lab×Ob)):Nat->(cs:List Ki)->List AV->Option (HL cs×List AV)
 |0,_,_=>none
 |_+1,[],ls=>some ((),ls)
 |f+1,.struct n::cs,ls=>(im ob f (flds n) ls).bind fun r=>(im ob f cs r.2).map fun q=>((mk n r.1,q.1),q.2)
 |_+1,_::_,[]=>none
 |f+1,c::cs,a::ls=>(pkL ob c a).bind fun x=>(im ob f cs ls).map fun q=>((x,q.1),q.2)
def imS(ob:List (Lab×Ob))(n:Nat)(ls:List AV):Option (Sty n):=(im ob 99 (flds n) ls).bind fun r=>if r.2.isEmpty then some (mk n r.1)else none
def pk(ob:List (Lab×Ob)):(c:Ki)->AV->Option c.T
 | .struct n,.ag m ls=>if n=m then imS ob n ls else none
 | .ptr c,.pt l off=>(match lo ob l with
  |some (.box ls)=>(im ob 99 [c] (ls.drop off)).map fun r=>some r.1.1
  |_=>none)
 |c,a=>pkL ob c a
def pkOL(ob:List (Lab×Ob)):(c:Ki)->AV->Option (c.T×List Lab)
 | .slice c,.sl l=>(match lo ob l with
  |some (.row dp false c' xs)=>if dp||c'.flat then(Ob.as c (.row dp false c' xs)).map fun y=>(y,[l])else none
  |_=>none)
 | .slice c,.nl _=>some (([]:List c.T),[])
 | .int k,a=>(AV.as (.int k) a).map fun x=>(x,[])
 | .bool,a=>(AV.as .bool a).map fun x=>(x,[])
 | .str,a=>(AV.as .str a).map fun x=>(x,[])
 |_,_=>none
def imO(ob:List (Lab×Ob)):Nat->(cs:List Ki)->List AV->Option (HL cs×List AV×List Lab)
 |0,_,_=>none
 |_+1,[],ls=>some ((),ls,[])
 |f+1,.struct n::cs,ls=>(imO ob f (flds n) ls).bind fun r=>(imO ob f cs r.2.1).map fun q=>((mk n r.1,q.1),q.2.1,r.2.2++q.2.2)
 |_+1,_::_,[]=>none
 |f+1,c::cs,a::ls=>(pkOL ob c a).bind fun x=>(imO ob f cs ls).map fun q=>((x.1,q.1),q.2.1,x.2++q.2.2)
def pkO(ob:List (Lab×Ob)):(c:Ki)->AV->Option (c.T×List Lab)
 | .struct n,.ag m ls=>if n=m then(imO ob 99 (flds n) ls).bind fun r=>if r.2.1.isEmpty then some (mk n r.1,r.2.2)else none else none
 |c,a=>pkOL ob c a
def cellsOf:AV->List AV
 | .v (.struct n) x=>lvs n x
 | .ag _ ls=>ls
 |a=>[a]
def setAt:List AV->Nat->List AV->List AV
 |ls,_,[]=>ls
 | [],_,_=>[]
 |_::ls,0,x::xs=>x::setAt ls 0 xs
 |l::ls,k+1,xs=>l::setAt ls k xs
def lks:Nat->List Ki->List Ki
 |0,_=>[]
 |_+1,[]=>[]
 |f+1,.struct n::cs=>lks f (flds n)++lks f cs
 |f+1,c::cs=>c::lks f cs
def z1:Ki->AV
 | .slice c=>.nl c
 | .struct _=>.no
 |c=>.v c c.z
def zA:Ki->List AV
 | .struct n=>(lks 99 (flds n)).map z1
 |c=>[z1 c]
def fok:Nat->List Ki->Bool
 |0,_=>false
 |_+1,[]=>true
 |f+1,.struct n::cs=>fok f (flds n)&&fok f cs
 |f+1,_::cs=>fok f cs
theorem fok99:∀n,fok 99 (flds n)=true
 |0|1|2|3|4|5|6|7|8|9|10|11|12|13|14|15|16|17|18|19|20|21|22|23|24|25|26|27|28|29|30|31|32|33|34|35|36|37|38|39|40|41|42|43=>rfl
 |_+44=>rfl
def nop:Nat->List Ki->Bool
 |0,_=>false
 |_+1,[]=>true
 |f+1,.struct n::cs=>nop f (flds n)&&nop f cs
 |_+1,.ptr _::_=>false
 |f+1,_::cs=>nop f cs
def AV.leaf:AV->Bool
 | .v (.struct _) _=>false
 | .ag _ _=>false
 | .tu _=>false
 |_=>true
mutual
def AV.stor:AV->Bool
 | .tu _=>false
 | .no=>false
 | .ud=>false
 | .ag _ ls=>storL ls
 |_=>true
def storL:List AV->Bool
 | []=>true
 |a::as=>a.leaf&&a.stor&&storL as
end
def iand(k:IntKind)(m n:Int):Int:=k.wrap ((BitVec.ofInt k.bits m&&&BitVec.ofInt k.bits n).toNat:Int)
def ixor(k:IntKind)(m n:Int):Int:=k.wrap ((BitVec.ofInt k.bits m^^^BitVec.ofInt k.bits n).toNat:Int)
def ishr(k:IntKind)(m n:Int):Int:=m.fdiv (2^min n.toNat k.bits)
def vb:BinOp->AV->AV->(AV->Prop)->Prop
 | .add,.v (.int k) (m:Int),.v (.int k') (n:Int),f=>k=k'∧f (.v (.int k) (k.wrap (m+n)))
 | .sub,.v (.int k) (m:Int),.v (.int k') (n:Int),f=>k=k'∧f (.v (.int k) (k.wrap (m-n)))
 | .mul,.v (.int k) (m:Int),.v (.int k') (n:Int),f=>k=k'∧f (.v (.int k) (k.wrap (m*n)))
 | .quo,.v (.int k) (m:Int),.v (.int k') (n:Int),f=>k=k'∧n≠0∧f (.v (.int k) (k.wrap (m.tdiv n)))
 | .rem,.v (.int k) (m:Int),.v (.int k') (n:Int),f=>k=k'∧n≠0∧f (.v (.int k) (k.wrap (m.tmod n)))
 | .lss,.v (.int k) (m:Int),.v (.int k') (n:Int),f=>k=k'∧f (.v .bool (decide (m<n)))
 | .leq,.v (.int k) (m:Int),.v (.int k') (n:Int),f=>k=k'∧f (.v .bool (decide (m<=n)))
 | .gtr,.v (.int k) (m:Int),.v (.int k') (n:Int),f=>k=k'∧f (.v .bool (decide (n<m)))
 | .geq,.v (.int k) (m:Int),.v (.int k') (n:Int),f=>k=k'∧f (.v .bool (decide (n<=m)))
 | .eql,.v (.int k) (m:Int),.v (.int k') (n:Int),f=>k=k'∧f (.v .bool (m==n))
 | .neq,.v (.int k) (m:Int),.v (.int k') (n:Int),f=>k=k'∧f (.v .bool (!(m==n)))
 | .and,.v (.int k) (m:Int),.v (.int k') (n:Int),f=>k=k'∧f (.v (.int k) (iand k m n))
 | .xor,.v (.int k) (m:Int),.v (.int k') (n:Int),f=>k=k'∧f (.v (.int k) (ixor k m n))
 | .shr,.v (.int k) (m:Int),.v (.int _) (n:Int),f=>0<=n∧f (.v (.int k) (ishr k m n))
 | .eql,.v .str (m:Str),.v .str (n:Str),f=>f (.v .bool (m==n))
 | .neq,.v .str (m:Str),.v .str (n:Str),f=>f (.v .bool (!(m==n)))
 | .lss,.v .str (m:Str),.v .str (n:Str),f=>f (.v .bool (Op.bytesLess m n))
 | .leq,.v .str (m:Str),.v .str (n:Str),f=>f (.v .bool (Op.bytesLess m n||m==n))
 | .gtr,.v .str (m:Str),.v .str (n:Str),f=>f (.v .bool (!(Op.bytesLess m n||m==n)))
 | .geq,.v .str (m:Str),.v .str (n:Str),f=>f (.v .bool (!(Op.bytesLess m n)))
 | .add,.v .str (m:Str),.v .str (n:Str),f=>m.length+n.length<=9223372036854775807∧f (.v .str (m++n))
 |_,_,_,_=>False
def vu:UnOp->AV->Option AV
 | .not,.v .bool (b:Bool)=>some (.v .bool (!b))
 | .neg,.v (.int k) (n:Int)=>some (.v (.int k) (k.wrap (-n)))
 |_,_=>none
def intsOf(s:Str):List Int:=s.map fun b=>(b.toNat:Int)
def bytesOf(xs:List Int):Str:=xs.map fun n=>UInt8.ofNat n.toNat
theorem bytes_ints(s:Str):bytesOf (intsOf s)=s:=by
 unfold bytesOf intsOf
 rw[List.map_map]
 have:((fun n:Int=>UInt8.ofNat n.toNat)∘fun b:UInt8=>(b.toNat:Int))=id:=by funext b;simp
 rw[this,List.map_id]
def evo(Γ:Env):Option O->Int->Option Int
 |none,z=>some z
 |some o,_=>(match ev Γ o with|some (.v (.int _) (n:Int))=>some n|_=>none)
def evs(Γ:Env):List O->Option (List AV)
 | []=>some []
 |o::r=>(ev Γ o).bind fun a=>(evs Γ r).map fun s=>a::s
def capS:List AV->Option (List (Sigma Ki.T))
 | []=>some []
 | .v (.struct _) _::_=>none
 | .v c x::r=>(capS r).map fun s=>⟨c,x⟩::s
 |_::_=>none
def capV:List (Sigma Ki.T)->List AV
 | []=>[]
 |⟨c,x⟩::r=>.v c x::capV r
def capA:List (Sigma Ki.T)->List SA
 | []=>[]
 |⟨c,x⟩::r=>.v c x::capA r
def fnS:AV->Option (FuncId×List (Sigma Ki.T))
 | .fn f cs=>(capS cs).map fun s=>(f,s)
 |_=>none
def pks(ob:List (Lab×Ob))(c:Ki):List AV->Option (List c.T)
 | []=>some []
 |a::r=>(pk ob c a).bind fun x=>(pks ob c r).map fun s=>x::s
def Ki.nref:Ki->Bool
 | .int _=>true
 | .bool=>true
 | .str=>true
 | .struct n=>(flds n).all Ki.flat
 |_=>false
def shr(ob:List (Lab×Ob))(c:Ki)(a:AV):Bool:=c.nref||(match a with
 | .v _ _=>true
 | .nl _=>true
 | .cl _ _=>true
 | .sl l=>(match lo ob l with|some (.row dp _ _ _)=> !dp|_=>false)
 |_=>false)
def evp(Γ:Env):List (Nat×Nat×O)->Option (List (Nat×AV))
 | []=>some []
 |(off,sz,o)::r=>(ev Γ o).bind fun a=>if a.stor&&(cellsOf a).length==sz then(evp Γ r).map fun s=>(off,a)::s else none
def fillA:List AV->List (Nat×AV)->List AV
 |ls,[]=>ls
 |ls,(off,a)::r=>fillA (setAt ls off (cellsOf a)) r
def co(Γ:Env):List (O×Md)->Option (List SA)
 | []=>some []
 |(o,.v c)::r=>(ev Γ o).bind fun a=>(pk Γ.ob c a).bind fun x=>(co Γ r).map fun s=>.v c x::s
 |(_,.io _)::_=>none
 |(o,.fn)::r=>(ev Γ o).bind fun a=>(fnS a).bind fun f=>(co Γ r).map fun s=>.fn f.1 f.2::s
def ownL(l:Lab):Nat->List AV->List AV×List (Lab×Ob)
 |_,[]=>([],[])
 |j,.v (.slice c) xs::ls=>(.sl (l++[j])::(ownL l (j+1) ls).1,(l++[j],.row true false c xs)::(ownL l (j+1) ls).2)
 |j,a::ls=>(a::(ownL l (j+1) ls).1,(ownL l (j+1) ls).2)
mutual
def RA.intro(l:Lab):RA->AV×List (Lab×Ob)
 | .v c x=>(.v c x,[])
 | .o (.slice c) xs=>(.sl l,[(l,.row true false c xs)])
 | .o (.struct n) x=>(.ag n (ownL l 0 (lvs n x)).1,(ownL l 0 (lvs n x)).2)
 | .o c x=>(.v c x,[])
 | .s c xs=>(.sl l,[(l,.row false false c xs)])
 | .t rs=>(.tu (introL l 0 rs).1,(introL l 0 rs).2)
 | .w _ _ n=>(.v kI n,[])
 | .cl c xs=>(.cl c xs,[])
 | .q _ _=>(.no,[])
 | .m kk vk es=>(.mp l,[(l,.mp kk vk es)])
 | .b n x=>(.pt l 0,[(l,.box (lvs n x))])
def introL(l:Lab):Nat->List RA->List AV×List (Lab×Ob)
 |_,[]=>([],[])
 |i,r::rs=>((r.intro (l++[i])).1::(introL l (i+1) rs).1,(r.intro (l++[i])).2++(introL l (i+1) rs).2)
end
mutual
def AV.ff:AV->Bool
 | .v c _=>c.flat
 | .cl _ _=>false
 | .ag _ ls=>ffL ls
 | .fn _ cs=>ffL cs
 | .tu vs=>ffL vs
 |_=>true
def ffL:List AV->Bool
 | []=>true
 |a::as=>a.ff&&ffL as
end
def ffO:List (Lab×Ob)->Bool
 | []=>true
 |(_,.row dp _ c _)::r=>(dp||c.flat)&&ffO r
 |_=>false
def RA.isW:RA->Bool
 | .w _ _ _=>true
 |_=>false
def RA.isX:RA->Bool
 | .w _ _ _=>true
 | .q _ _=>true
 |_=>false
theorem isW_of{r:RA}(h:r.isX=false):r.isW=false:=by cases r<;>first|rfl|(simp[RA.isX]at h)
def RA.wn:RA->Int
 | .w _ _ n=>n
 |_=>0
def wAs(c:Ki):RA->Option c.T
 | .w c' (some y) _=>if h:c'=c then some (h▸y)else none
 |_=>none
def RA.safe(r:RA):Bool:=(r.intro []).1.ff&&ffO (r.intro []).2
def coLab(Γ:Env):List (O×Md)->Bool
 | []=>false
 |(o,_)::r=>(match ev Γ o with|some a=>a.refs (fun _=>true)|none=>true)||coLab Γ r
def Env.ret(Γ:Env)(d:Option Nat)(r:RA):Env:=
 match d with
 |none=>Γ
 |some d=>let Γ':=Γ.kill (hd d);⟨(d,(r.intro [d]).1)::Γ'.tm,(r.intro [d]).2++Γ'.ob⟩
def frz(c:Ki)(x:c.T):Prop:=need (pkO (RA.intro [] (.o c x)).2 c (RA.intro [] (.o c x)).1) fun q=>q.1=x∧q.2.Nodup
def vK(Γ:Env)(d:Option Nat)(r:RA)(K:Env->Prop):Prop:=K (Γ.ret d r)
def I.dst:I->Option Nat
 | .mv d _| .nck d _| .un d _ _| .bi d _ _ _| .be d _ _ _| .pk d _ _ _| .fa d _ _ _ _| .ia d _ _ _| .ld d _ _| .bx d _ _| .al d _| .ln d _ _| .mk d _ _ _| .bs d _ _ _| .bd d _ _| .an d _ _ _ _| .ap d _ _ _ _ _| .ci d _ _| .cfr d _ _| .cs d _| .ix d _ _| .sx d _ _ _| .sa d _ _ _=>some d
 | .st _ _ _=>none
 | .cq d _ _=>d
 | .xt d _ _| .bf d _ _| .bo d _ _| .mm d _ _| .ml d _ _ _ _ _| .bl d _ _| .apl d _ _ _ _=>some d
 | .pn _| .mu _ _ _ _ _=>none
 | .cf d _ _=>d
 | .ca d _ _=>d
 | .cv d _ _=>d
 | .g _ _ i=>i.dst
def Env.puto(Γ:Env)(a:AV):Option Nat->Env
 |some d=>Γ.put d a
 |none=>Γ
def Env.skip(Γ:Env):Option Nat->Env
 |some d=>Γ.put d .ud
 |none=>Γ
def pkOs(ob:List (Lab×Ob))(c:Ki):List AV->Option (List c.T×List Lab)
 | []=>some ([],[])
 |a::r=>(pkO ob c a).bind fun x=>(pkOs ob c r).map fun s=>(x.1::s.1,x.2++s.2)
def elemsOf:Ki->Nat->List AV->List AV
 |_,0,_=>[]
 | .struct n,k+1,ls=>.ag n (ls.take (ssz n))::elemsOf (.struct n) k (ls.drop (ssz n))
 |c,k+1,a::ls=>a::elemsOf c k ls
 |_,_+1,[]=>[]
def Env.lit(Γ:Env)(t:Nat)(l:Lab)(c:Ki)(ys:List c.T)(ls:List Lab):Env:=
 let Γ':=Γ.kill fun m=>m==l||ls.contains m
 ⟨(t,.sl l)::Γ'.tm,(l,.row true false c ys)::Γ'.ob⟩
def vap(d:Nat)(L:Lab)(c:Ki)(o x:O)(Γ:Env)(K:Env->Prop):Prop:=need (ev Γ o) fun
 | .sl l=>need (lo Γ.ob l) fun
  | .row dp' false c' xs=>dp'=true∧need (Ob.as c (.row dp' false c' xs)) fun xs=>need (ev Γ x) fun a=>need (pkO Γ.ob (.slice c) a) fun r=>r.2.Nodup∧l∉r.2∧List.length xs+List.length r.1<=33554432∧
    let Γ':=Γ.kill (fun m=>m==l||m==L||r.2.contains m);K ((Γ'.new L (.row true false c (xs++r.1))).put d (.sl L))
  |_=>False
 |_=>False
def Ki.key:Ki->Bool
 | .int _=>true
 | .bool=>true
 | .str=>true
 |_=>false
def Ki.isSt:Ki->Bool
 | .struct _=>true
 |_=>false
def mset{kk vk:Ki}:List (kk.T×vk.T)->kk.T->vk.T->List (kk.T×vk.T)
 | [],x,y=>[(x,y)]
 |(k,v)::r,x,y=>if keq kk x k then(x,y)::r else(k,v)::mset r x y
def mgt{kk vk:Ki}:List (kk.T×vk.T)->kk.T->vk.T
 | [],_=>vk.z
 |(k,v)::r,x=>if keq kk x k then v else mgt r x
def mhas{kk vk:Ki}:List (kk.T×vk.T)->kk.T->Bool
 | [],_=>false
 |(k,_)::r,x=>keq kk x k||mhas r x
def mpAs(kk vk:Ki):Ob->Option (List (kk.T×vk.T))
 | .mp kk' vk' es=>if h:kk'=kk∧vk'=vk then some (h.1▸h.2▸es)else none
 |_=>none
inductive LE where
 |lab (l:Lab)
 |new (dp:Bool) (c:Ki)
def LE.is(l:Lab):LE->Bool
 | .lab m=>m==l
 | .new _ _=>false
def addL(l:Lab):Nat->List LE->Nat×List LE
 |i,[]=>(i,[.lab l])
 |i,e::es=>if e.is l then(i,e::es)else((addL l (i+1) es).1,e::(addL l (i+1) es).2)
mutual
def lnd(es:List LE):AV->Option (SA×List LE)
 | .v c x=>some (.v c x,es)
 | .nl c=>some (.v (.slice c) ([]:List c.T),es)
 | .cl c xs=>some (.v (.slice c) xs,es)
 | .pt l off=>some (.pt (addL l 0 es).1 off,(addL l 0 es).2)
 | .sl l=>some (.sl (addL l 0 es).1,(addL l 0 es).2)
 | .mp l=>some (.mp (addL l 0 es).1,(addL l 0 es).2)
 | .ag n as=>(lndL es as).map fun r=>(.ag n r.1,r.2)
 | .fn f cs=>(lndL es cs).map fun r=>(.fb f r.1,r.2)
 |_=>none
def lndL(es:List LE):List AV->Option (List SA×List LE)
 | []=>some ([],es)
 |a::as=>if a.isS then none else(lnd es a).bind fun r=>(lndL r.2 as).map fun q=>(r.1::q.1,q.2)
end
def lnq(ob:List (Lab×Ob))(es:List LE)(a:AV):Mq->Option (SA×List LE)
 | .v c=>if a.refs (fun _=>true)then none else(pk ob c a).map fun x=>(.v c x,es)
 | .fn=>(fnS a).map fun f=>(.fn f.1 f.2,es)
 | .q=>lnd es a
 | .rw dp c=>(match a with
  | .nl _=>some (.sl es.length,es++[.new dp c])
  | .sl l=>some (.sl (addL l 0 es).1,(addL l 0 es).2)
  |_=>none)
def lnqs(Γ:Env)(es:List LE):List (O×Mq)->Option (List SA×List LE)
 | []=>some ([],es)
 |(o,m)::r=>(ev Γ o).bind fun a=>(lnq Γ.ob es a m).bind fun s=>(lnqs Γ s.2 r).map fun q=>(s.1::q.1,q.2)
def lfs(ob:List (Lab×Ob)):List AV->Option (List LV×List Lab)
 | []=>some ([],[])
 | .v (.struct _) _::_=>none
 | .v c x::r=>(lfs ob r).map fun q=>(.v c x::q.1,q.2)
 | .nl c::r=>(lfs ob r).map fun q=>(.v (.slice c) ([]:List c.T)::q.1,q.2)
 | .cl c xs::r=>(lfs ob r).map fun q=>(.v (.slice c) xs::q.1,q.2)
 | .sl l::r=>(match lo ob l with
  |some (.row true false c xs)=>(lfs ob r).map fun q=>(.o c xs::q.1,l::q.2)
  |some (.row false false c xs)=>(lfs ob r).map fun q=>(.s c xs::q.1,l::q.2)
  |_=>none)
 |_=>none
def lob(ob:List (Lab×Ob)):Ob->Option (LO×List Lab)
 | .box as=>(lfs ob as).map fun q=>(.box q.1,q.2)
 | .row dp _ c xs=>some (.row dp c xs,[])
 | .mp kk vk es=>some (.mp kk vk es,[])
def loe(ob:List (Lab×Ob)):LE->Option (LO×List Lab)
 | .new dp c=>some (.row dp c [],[])
 | .lab l=>(lo ob l).bind (lob ob)
def loes(ob:List (Lab×Ob)):List LE->Option (List LO×List Lab)
 | []=>some ([],[])
 |e::es=>(loe ob e).bind fun q=>(loes ob es).map fun p=>(q.1::p.1,q.2++p.2)
def labs:List LE->List Lab
 | []=>[]
 | .lab l::es=>l::labs es
 | .new _ _::es=>labs es
def LO.obs(l:Lab)(pin:Bool):LO->List (Lab×Ob)
 | .box ls=>(l,.box (introL l 0 (ls.map LV.ra)).1)::(introL l 0 (ls.map LV.ra)).2
 | .row dp c xs=>[(l,.row dp pin c xs)]
 | .mp kk vk es=>[(l,.mp kk vk es)]
 | .gone=>[]
def LO.isGone:LO->Bool
 | .gone=>true
 |_=>false
def pinOf:Option Ob->Bool
 |some (.row _ p _ _)=>p
 |_=>false
def backO(ob:List (Lab×Ob)):List LE->List LO->List (Lab×Ob)
 | .lab l::es,o::os=>o.obs l (pinOf (lo ob l))++backO ob es os
 | .new _ _::es,_::os=>backO ob es os
 |_,_=>[]
def goneL:List LE->List LO->List Lab
 | .lab l::es,o::os=>if o.isGone then l::goneL es os else goneL es os
 | .new _ _::es,_::os=>goneL es os
 |_,_=>[]
def LO.like:LO->LO->Bool
 |_,.gone=>true
 | .box _,.box _=>true
 | .row d _ _,.row e _ _=>d==e
 | .mp _ _ _,.mp _ _ _=>true
 |_,_=>false
def likes:List LO->List LO->Bool
 | [],[]=>true
 |a::as,b::bs=>a.like b&&likes as bs
 |_,_=>false
def newGone:List LE->List LO->Bool
 | .new _ _::es,o::os=>o.isGone&&newGone es os
 |_::es,_::os=>newGone es os
 |_,_=>true
def inLs(ls:List Lab)(m:Lab):Bool:=ls.contains m
def subL(ls:List Lab):Lab->Bool
 |n::_::_=>inLs ls [n]
 |_=>false
def hdo(d:Option Nat)(m:Lab):Bool:=match d with|some d=>hd d m|none=>false
def dropO(p:Lab->Bool):List (Lab×Ob)->List (Lab×Ob)
 | []=>[]
 |(l,o)::r=>if p l then dropO p r else(l,o)::dropO p r
def resA(d:Option Nat)(r:RA)(tm:List (Nat×AV)):List (Nat×AV):=match d with|some d=>(d,(r.intro [d]).1)::tm|none=>tm
def resO(d:Option Nat)(r:RA):List (Lab×Ob):=match d with|some d=>(r.intro [d]).2|none=>[]
def nodB:List Lab->Bool
 | []=>true
 |l::ls=> !ls.contains l&&nodB ls
def oneL:List LE->List LO->Bool
 | .lab l::es,.box _::os=>(match l with| [_]=>true|_=>false)&&oneL es os
 |_::es,_::os=>oneL es os
 |_,_=>true
def Env.back(Γ:Env)(d:Option Nat)(es:List LE)(cons:List Lab)(os':List LO)(r:RA):Env:=
 let q:Lab->Bool:=fun m=>hdo d m||(inLs cons m||(inLs (goneL es os') m||subL (labs es) m))
 ⟨resA d r (killT q Γ.tm),resO d r++(backO Γ.ob es os'++dropO (inLs (labs es)) (killO q Γ.ob))⟩
section
variable (S:FuncId->List SA->RA->Prop)
def vq(d:Option Nat)(f:FuncId)(as:List SA)(es:List LE)(Γ:Env)(K:Env->Prop):Prop:=
 need (loes Γ.ob es) fun p=>∃r os',S f (as++p.1.map SA.lo) (.q r os')∧es≠ []∧nodB (labs es++p.2)=true∧likes p.1 os'=true∧newGone es os'=true∧oneL es p.1=true∧(labs es).all (fun m=> !hdo d m&& !subL (labs es) m)=true∧K (Γ.back d es p.2 os' r)
def vi:I->Env->(Env->Prop)->Prop
 | .mv d o,Γ,K=>need (ev Γ o) fun a=>K (Γ.put d a)
 | .nck d o,Γ,K=>need (ev Γ o) fun
  | .v (.ptr c) x=>∃y:c.T,x=some y∧K (Γ.put d (.v (.ptr c) (some y)))
  | .pt l off=>K (Γ.put d (.pt l off))
  | .ep l c i off=>K (Γ.put d (.ep l c i off))
  |_=>False
 | .un d u o,Γ,K=>need (ev Γ o) fun a=>need (vu u a) fun r=>K (Γ.put d r)
 | .bi d b x y,Γ,K=>need (ev Γ x) fun a=>need (ev Γ y) fun a'=>vb b a a' fun r=>K (Γ.put d r)
 | .be d ne x y,Γ,K=>need (ev Γ x) fun
  | .v .bool (m:Bool)=>need (ev Γ y) fun
   | .v .bool (n:Bool)=>K (Γ.put d (.v .bool (if ne then !(m==n)else m==n)))
   |_=>False
  |_=>False
 | .pk d c x y,Γ,K=>need (ev Γ c) fun
  | .v .bool (b:Bool)=>(b=true->need (ev Γ x) fun a=>K (Γ.put d a))∧(b=false->need (ev Γ y) fun a=>K (Γ.put d a))
  |_=>False
 | .fa d o n j off,Γ,K=>need (ev Γ o) fun
  | .v (.ptr (.struct m)) x=>∃y:Sty m,x=some y∧need (hget (flds m) (un m y) j) fun
   | .v c z=>m=n∧K (Γ.put d (.v (.ptr c) (some z)))
   |_=>False
  | .pt l o'=>K (Γ.put d (.pt l (o'+off)))
  | .ep l c i o'=>K (Γ.put d (.ep l c i (o'+off)))
  |_=>False
 | .ia d o i c,Γ,K=>need (ev Γ o) fun a=>need (ev Γ i) fun
  | .v (.int _) (n:Int)=>match a with
   | .v (.slice c') xs=>c'=c∧0<=n∧n<(List.length xs:Int)∧K (Γ.put d (.v (.ptr c') (some (gt xs n c'.z))))
   | .sl l=>need (lo Γ.ob l) fun
    | .row _ _ c' xs=>c'=c∧0<=n∧n<(xs.length:Int)∧K (Γ.put d (.ep l c' n 0))
    |_=>False
   |_=>False
  |_=>False
 | .ld d o c,Γ,K=>need (ev Γ o) fun
  | .v (.ptr c') x=>∃y:c'.T,x=some y∧c'=c∧K (Γ.put d (.v c' y))
  | .pt l off=>need (lo Γ.ob l) fun
   | .box ls=>match c with
    | .struct n=>off+ssz n<=ls.length∧K (Γ.put d (.ag n ((ls.drop off).take (ssz n))))
    |_=>∃a,ls[off]? =some a∧a.leaf=true∧K (Γ.put d a)
   |_=>False
  | .ep l c' i 0=>need (lo Γ.ob l) fun
   | .row _ _ c2 xs=>c'=c∧c2=c∧c2.flat=true∧0<=i∧i<(xs.length:Int)∧K (Γ.put d (.v c2 (gt xs i c2.z)))
   |_=>False
  |_=>False
 | .st o x c,Γ,K=>need (ev Γ o) fun
  | .pt l off=>need (lo Γ.ob l) fun
   | .box ls=>need (ev Γ x) fun a=>a.stor=true∧(cellsOf a).length=c.sz∧off+c.sz<=ls.length∧K ⟨Γ.tm,(l,.box (setAt ls off (cellsOf a)))::Γ.ob⟩
   |_=>False
  | .ep l c' i 0=>need (lo Γ.ob l) fun
   | .row true p c2 xs=>need (ev Γ x) fun a=>need (pkO Γ.ob c2 a) fun r=>
     c'=c2∧c2=c∧0<=i∧i<(xs.length:Int)∧r.2.Nodup∧l∉r.2∧
     let Γ':=Γ.kill (fun m=>r.2.contains m);K ⟨Γ'.tm,(l,.row true p c2 (xs.set i.toNat r.1))::Γ'.ob⟩
   | .row false p c2 xs=>need (ev Γ x) fun a=>need (pk Γ.ob c2 a) fun y=>
     c'=c2∧c2=c∧0<=i∧i<(xs.length:Int)∧a.refs (fun _=>true)=false∧K ⟨Γ.tm,(l,.row false p c2 (xs.set i.toNat y))::Γ.ob⟩
   |_=>False
  |_=>False
 | .bx d o c,Γ,K=>let Γ':=Γ.kill (hd d);need (ev Γ' o) fun a=>a.stor=true∧K ((Γ'.new [d] (.box (cellsOf a))).put d (.pt [d] 0))
 | .al d c,Γ,K=>let Γ':=Γ.kill (hd d);K ((Γ'.new [d] (.box (zA c))).put d (.pt [d] 0))
 | .ln d false o,Γ,K=>need (ev Γ o) fun
  | .v (.slice _) xs=>(List.length xs:Int)<=9223372036854775807->K (Γ.put d (.v kI (List.length xs:Int)))
  | .sl l=>need (lo Γ.ob l) fun
   | .row _ _ _ xs=>(List.length xs:Int)<=9223372036854775807->K (Γ.put d (.v kI (List.length xs:Int)))
   |_=>False
  | .nl _=>K (Γ.put d (.v kI (0:Int)))
  |_=>False
 | .ln d true o,Γ,K=>need (ev Γ o) fun
  | .v .str s=>(List.length s:Int)<=9223372036854775807->K (Γ.put d (.v kI (List.length s:Int)))
  |_=>False
 | .mk d deep c n,Γ,K=>need (ev Γ n) fun
  | .v (.int _) (n:Int)=>0<=n∧n<=2147483647∧nop 99 [c]=true∧let Γ':=Γ.kill (hd d);K ((Γ'.new [d] (.row deep false c (List.replicate n.toNat c.z))).put d (.sl [d]))
  |_=>False
 | .ca d f xs,Γ,K=>need (co Γ xs) fun as=>∃r,S f as r∧(coLab Γ xs=false∨r.safe=true)∧vK Γ d r K
 | .cv d f xs,Γ,K=>need (co Γ xs) fun as=>∃r,S f as r∧(match r with
  | .v c x=>(coLab Γ xs=false∨c.flat=true)∧K (Γ.puto (.v c x) d)
  | .o c x=>frz c x∧K (Γ.puto (.v c x) d)
  |_=>False)
 | .cfr d o xs,Γ,K=>need ((ev Γ o).bind fnS) fun f=>need (co Γ xs) fun as=>∃(c:Ki) (x:c.T),S f.1 (as++capA f.2) (.v c x)∧coLab Γ xs=false∧K (Γ.put d (.v c x))
 | .cf d o xs,Γ,K=>need ((ev Γ o).bind fnS) fun f=>need (co Γ xs) fun as=>∃r,S f.1 (as++capA f.2) r∧(coLab Γ xs=false∨r.safe=true)∧vK Γ d r K
 | .bs d _ c [],Γ,K=>K (Γ.put d (.nl c))
 | .bs d dp c (x::xs),Γ,K=>let Γ':=Γ.kill (hd d);need (evs Γ' (x::xs)) fun as=>need (pks Γ'.ob c as) fun ys=>((!dp||c.nref)&& !refsL (fun _=>true) as)=true∧K ((Γ'.new [d] (.row dp false c ys)).put d (.sl [d]))
 | .bd d n ps,Γ,K=>need (evp Γ ps) fun as=>K (Γ.put d (.ag n (fillA (zA (kR n)) as)))
 | .an d dp c o x,Γ,K=>let Γ':=Γ.kill (hd d);need (ev Γ' o) fun
  | .nl _=>need (ev Γ' x) fun a=>need (pk Γ'.ob (.slice c) a) fun ys=>((!dp||c.nref)&&shr Γ'.ob c a)=true∧List.length ys<=33554432∧K ((Γ'.new [d] (.row dp false c ys)).put d (.sl [d]))
  |_=>False
 | .ap d L dp c o x,Γ,K=>need (ev Γ o) fun
  | .sl l=>need (lo Γ.ob l) fun
   | .row dp' false c' xs=>dp'=dp∧need (Ob.as c (.row dp' false c' xs)) fun xs=>need (ev Γ x) fun a=>
    if dp&& !c.nref then need (pkO Γ.ob (.slice c) a) fun r=>r.2.Nodup∧l∉r.2∧List.length xs+List.length r.1<=33554432∧
     let Γ':=Γ.kill (fun m=>m==l||m==L||r.2.contains m);K ((Γ'.new L (.row dp false c (xs++r.1))).put d (.sl L))
    else need (pk Γ.ob (.slice c) a) fun ys=>shr Γ.ob c a=true∧List.length xs+List.length ys<=33554432∧
     let Γ':=Γ.kill (fun m=>m==l||m==L);K ((Γ'.new L (.row dp false c (xs++ys))).put d (.sl L))
   |_=>False
  |_=>False
 | .ci d k o,Γ,K=>need (ev Γ o) fun
  | .v (.int _) (n:Int)=>K (Γ.put d (.v (.int k) (k.wrap n)))
  |_=>False
 | .cs d o,Γ,K=>need (ev Γ o) fun a=>need (pk Γ.ob (kL (.int .u8)) a) fun(xs:List Int)=>K (Γ.put d (.v .str (bytesOf xs)))
 | .ix d o i,Γ,K=>need (ev Γ o) fun
  | .v .str (s:Str)=>need (ev Γ i) fun
   | .v (.int _) (n:Int)=>0<=n∧n<(List.length s:Int)∧K (Γ.put d (.v (.int .u8) ((s.getD n.toNat 0).toNat:Int)))
   |_=>False
  |_=>False
 | .sx d o a b,Γ,K=>need (ev Γ o) fun
  | .v .str (s:Str)=>need (evo Γ a 0) fun i=>need (evo Γ b (List.length s)) fun j=>0<=i∧i<=j∧j<=(List.length s:Int)∧K (Γ.put d (.v .str ((List.take j.toNat s).drop i.toNat)))
  |_=>False
 | .sa d L o x,Γ,K=>need (ev Γ o) fun
  | .sl l=>need (lo Γ.ob l) fun
   | .row true false c' xs=>need (Ob.as (.int .u8) (.row true false c' xs)) fun(xs:List Int)=>need (ev Γ x) fun
    | .v .str (s:Str)=>List.length xs+List.length s<=33554432∧
     let Γ':=Γ.kill (fun m=>m==l||m==L);K ((Γ'.new L (.row true false (.int .u8) (xs++intsOf s))).put d (.sl L))
    |_=>False
   |_=>False
  |_=>False
 | .cq d f xs,Γ,K=>need (lnqs Γ [] xs) fun q=>vq S d f q.1 q.2 Γ K
 | .xt d o i,Γ,K=>need (ev Γ o) fun
  | .tu as=>need as[i]? fun a=>K (Γ.put d a)
  |_=>False
 | .pn _,_,_=>False
 | .bl d c xs,Γ,K=>let Γ':=Γ.kill (hd d);need (evs Γ' xs) fun as=>(as.all fun a=>a.stor&&(cellsOf a).length==c.sz)=true∧K ((Γ'.new [d] (.box (as.flatMap cellsOf))).put d (.ls [d] c as.length))
 | .apl d L c o t,Γ,K=>need (lk Γ.tm t) fun
  | .ls l c' n=>need (lo Γ.ob l) fun
   | .box ls=>need (pkOs Γ.ob c (elemsOf c n ls)) fun r=>c'=c∧c.nref=false∧ls.length=n*c.sz∧n<=33554432∧nodB r.2=true∧r.2.contains l=false∧vap d L c o (.t t) (Γ.lit t l c r.1 r.2) K
   |_=>False
  |_=>False
 | .bf d c xs,Γ,K=>need (evs Γ xs) fun as=>need (pks Γ.ob c as) fun ys=>refsL (fun _=>true) as=false∧K (Γ.put d (.v (.slice c) ys))
 | .bo d c xs,Γ,K=>let Γ':=Γ.kill (hd d);need (evs Γ' xs) fun as=>need (pkOs Γ'.ob c as) fun r=>nodB r.2=true∧let Γ2:=Γ'.kill (fun m=>hd d m||inLs r.2 m);K ((Γ2.new [d] (.row true false c r.1)).put d (.sl [d]))
 | .mm d kk vk,Γ,K=>let Γ':=Γ.kill (hd d);K ((Γ'.new [d] (.mp kk vk [])).put d (.mp [d]))
 | .mu m k v kk vk,Γ,K=>need (ev Γ m) fun
  | .mp l=>need (lo Γ.ob l) fun
   | .mp kk' vk' es0=>need (mpAs kk vk (.mp kk' vk' es0)) fun es=>need (ev Γ k) fun a=>need (AV.as kk a) fun x=>need (ev Γ v) fun b=>need (AV.as vk b) fun y=>kk.key=true∧vk.isSt=false∧K ⟨Γ.tm,(l,.mp kk vk (mset es x y))::Γ.ob⟩
   |_=>False
  |_=>False
 | .ml d m k kk vk ok,Γ,K=>need (ev Γ m) fun
  | .mp l=>need (lo Γ.ob l) fun
   | .mp kk' vk' es0=>need (mpAs kk vk (.mp kk' vk' es0)) fun es=>need (ev Γ k) fun a=>need (AV.as kk a) fun x=>kk.key=true∧vk.isSt=false∧K (Γ.put d (if ok then .tu [.v vk (mgt es x),.v .bool (mhas es x)]else .v vk (mgt es x)))
   |_=>False
  |_=>False
 | .g t b i,Γ,K=>need (lk Γ.tm t) fun
  | .v .bool (x:Bool)=>(x=b->vi i ⟨(t,.v .bool b)::Γ.tm,Γ.ob⟩ K)∧(x=(!b)->K (Env.skip ⟨(t,.v .bool (!b))::Γ.tm,Γ.ob⟩ i.dst))
  | .ud=>K (Γ.skip i.dst)
  |_=>False
def vs:List I->Env->(Env->Prop)->Prop
 | [],Γ,K=>K Γ
 |i::is,Γ,K=>vi S i Γ fun Γ'=>vs is Γ' K
def hds(ds:List Nat):Lab->Bool
 | []=>false
 |n::_=>ds.contains n
def Env.pre(Γ:Env):List Nat->Env
 | []=>Γ
 |d::ds=>Γ.kill (hds (d::ds))
def hotL(Γ:Env)(hs:List Nat):Lab->Bool:=fun l=>hs.any fun t=>match lk Γ.tm t with
 |some (.sl m)=>m==l
 |some (.pt m _)=>m==l
 |_=>false
def AV.lone:AV->Bool
 | .v _ _| .nl _| .cl _ _=>true
 |_=>false
def hotP(h:Lab->Bool)(d:Nat):Lab->Bool:=fun l=>h l||(hd d l||match l with
 |n::_::_=>h [n]
 |_=>false)
def hotC(Γ:Env)(hs:List Nat)(d:Nat)(is:List Nat):Bool:=
 (hs.all fun t=>match lk Γ.tm t with
  |some (.sl l)=>(match lo Γ.ob l with|some (.row _ _ _ _)=>true|_=>false)
  |some (.pt l _)=>(match lo Γ.ob l with|some (.box ls)=>ls.all AV.lone|_=>false)
  |_=>false)&&
 (is.all fun t=>hs.contains t||match lk Γ.tm t with|some a=> !a.refs (hotP (hotL Γ hs) d)|none=>true)&&
 Γ.ob.all fun o=>match o.2 with| .box ls=> !refsL (hotP (hotL Γ hs) d) ls|_=>true
def freeB(d:Nat)(Γ:Env):Bool:=(Γ.tm.all fun q=> !q.2.refs (hd d))&&Γ.ob.all fun o=> !hd d o.1&&match o.2 with
 | .box ls=> !refsL (hd d) ls
 |_=>true
def vc(L:C->Env->(Xt->Env->Prop)->Prop):C->Env->(Xt->Env->Prop)->Prop
 | .skip,Γ,K=>K .nrm Γ
 | .rg is,Γ,K=>vs S is Γ fun Γ'=>K .nrm Γ'
 | .dr ds ps ts,Γ,K=>vs S ps (Γ.pre ds) fun Γ'=>vs S ts Γ' fun Γ''=>K .nrm Γ''
 | .dq hs is d ps ts,Γ,K=>hotC (Γ.pre [d]) hs d is=true∧vs S ps (Γ.pre [d]) fun Γ'=>vs S ts Γ' fun Γ''=>K .nrm Γ''
 | .dl hs is d ps d1 c xs ts,Γ,K=>hotC (Γ.pre [d,d1]) hs d is=true∧vs S ps (Γ.pre [d,d1]) fun Γ'=>freeB d1 Γ'=true∧vs S (.bl d1 c xs::ts) Γ' fun Γ''=>K .nrm Γ''
 | .sq a b,Γ,K=>vc L a Γ fun e Γ'=>match e with
  | .nrm=>vc L b Γ' K
  |e=>K e Γ'
 | .cd o a b,Γ,K=>need (ev Γ o) fun
  | .v .bool (x:Bool)=>(x=true->vc L a Γ K)∧(x=false->vc L b Γ K)
  |_=>False
 | .bk id c,Γ,K=>vc L c Γ fun e Γ'=>match e with
  | .ex j=>if j=id then K .nrm Γ' else K (.ex j) Γ'
  |e=>K e Γ'
 | .lp c,Γ,K=>L c Γ K
 | .ex id,Γ,K=>K (.ex id) Γ
 | .rt,Γ,K=>K .rt Γ
 | .gt t dp k c,Γ,K=>need (lk Γ.tm t) fun
  | .nl _=>let Γ':=Γ.kill (fun m=>m==[t]);vc L c ((Γ'.new [t] (.row dp false k [])).put t (.sl [t])) K
  |_=>vc L c Γ K
 | .kp ts ls c,Γ,K=>vc L c (Γ.keep ts ls) K
 | .lk _ _ c,Γ,K=>L c Γ K
 | .zb t j k c,Γ,K=>need (lk Γ.tm t) fun
  | .pt l 0=>need (lo Γ.ob l) fun
   | .box ls=>need ls[j]? fun
    | .sl m=>let Γ':=Γ.kill (fun m'=>m'==m);need (lo Γ.ob m) fun q=>need (pk [(m,q)] k (.sl m)) fun x=>need (lo Γ'.ob l) fun
     | .box ls'=>vc L c ⟨Γ'.tm,(l,.box (setAt ls' j [.v k x]))::Γ'.ob⟩ K
     |_=>False
    |_=>vc L c Γ K
   |_=>False
  |_=>False
 | .gb t j dp k c,Γ,K=>need (lk Γ.tm t) fun
  | .pt l 0=>let Γ':=Γ.kill (fun m=>m==l++[j]);need (lo Γ'.ob l) fun
   | .box ls=>need ls[j]? fun
    | .nl _=>vc L c (Env.mk Γ'.tm ((l++[j],.row dp false k [])::(l,.box (setAt ls j [.sl (l++[j])]))::Γ'.ob)) K
    |_=>vc L c Γ K
   |_=>False
  |_=>False
end
end Go.Q
namespace Go.Q
section keep
variable {σ σ':Lab->Value} {F F':Nat->Prop} {w w':World} {p:Lab->Bool}
mutual
theorem RepC.keep(hσ:∀l,p l=false->σ' l=σ l)(hb:∀b,F b->F' b∧w'.heap[b]? =w.heap[b]?):∀ {a:AV} {cs:List Value},a.refs p=false->RepC σ F w a cs->RepC σ' F' w' a cs
 | .v c x,cs,_,h=>by simp only[RepC]at h⊢;exact h.keep hb
 | .sl l,cs,hr,h=>by simp only[RepC,AV.refs]at hr h⊢;rw[hσ l hr];exact h
 | .pt l off,cs,hr,h=>by simp only[RepC,AV.refs]at hr h⊢;rw[hσ l hr];exact h
 | .ep l c i off,cs,hr,h=>by simp only[RepC,AV.refs]at hr h⊢;rw[hσ l hr];exact h
 | .ag n ls,cs,hr,h=>by simp only[RepC,AV.refs]at hr h⊢;exact⟨h.1,RepCs.keep hσ hb hr h.2⟩
 | .fn f caps,cs,hr,h=>by
  simp only[RepC,AV.refs]at hr h⊢
  obtain⟨vs,e,h⟩:=h
  exact⟨vs,e,RepCs.keep hσ hb hr h⟩
 | .tu _,cs,_,h=>by simp only[RepC]at h
 | .nl _,cs,_,h=>by simp only[RepC]at h⊢;exact h
 | .cl c xs,cs,_,h=>by simp only[RepC]at h⊢;exact⟨h.1.keep hb,h.2⟩
 | .mp l,cs,hr,h=>by simp only[RepC,AV.refs]at hr h⊢;rw[hσ l hr];exact h
 | .ls l _ _,cs,hr,h=>by simp only[RepC,AV.refs]at hr h⊢;rw[hσ l hr];exact h
 | .no,cs,_,_=>by simp only[RepC]
 | .ud,cs,_,h=>by simp only[RepC]at h⊢;exact h
theorem RepCs.keep(hσ:∀l,p l=false->σ' l=σ l)(hb:∀b,F b->F' b∧w'.heap[b]? =w.heap[b]?):∀ {as:List AV} {cs:List Value},refsL p as=false->RepCs σ F w as cs->RepCs σ' F' w' as cs
 | [],cs,_,h=>by simp only[RepCs]at h⊢;exact h
 |a::as,cs,hr,h=>by
  simp only[RepCs,refsL,Bool.or_eq_false_iff]at hr h⊢
  obtain⟨u,us,e,h1,h2⟩:=h
  exact⟨u,us,e,RepC.keep hσ hb hr.1 h1,RepCs.keep hσ hb hr.2 h2⟩
end
theorem RepU.keep(hσ:∀l,p l=false->σ' l=σ l)(hb:∀b,F b->F' b∧w'.heap[b]? =w.heap[b]?){a:AV}{u:Value}(hr:a.refs p=false)(h:RepU σ F w a u):RepU σ' F' w' a u:=by
 unfold RepU at h⊢
 split at h
 ·rename_i hs
  rw[if_pos hs]
  obtain⟨cs,e,h⟩:=h
  exact⟨cs,e,h.keep hσ hb hr⟩
 ·rename_i hs
  rw[if_neg hs]
  exact h.keep hσ hb hr
theorem RepUs.keep(hσ:∀l,p l=false->σ' l=σ l)(hb:∀b,F b->F' b∧w'.heap[b]? =w.heap[b]?):∀ {as:List AV} {us:List Value},refsL p as=false->RepUs σ F w as us->RepUs σ' F' w' as us
 | [],us,_,h=>h
 |a::as,us,hr,⟨v,vs,e,h1,h2⟩=>by
  simp only[refsL,Bool.or_eq_false_iff]at hr
  exact⟨v,vs,e,h1.keep hσ hb hr.1,RepUs.keep hσ hb hr.2 h2⟩
theorem RepV.keep(hσ:∀l,p l=false->σ' l=σ l)(hb:∀b,F b->F' b∧w'.heap[b]? =w.heap[b]?){a:AV}{u:Value}(hr:a.refs p=false)(h:RepV σ F w a u):RepV σ' F' w' a u:=by
 cases a with
 |tu as=>
  obtain⟨us,e,h⟩:=h
  exact⟨us,e,h.keep hσ hb (by simpa[AV.refs]using hr)⟩
 |_=>exact RepU.keep hσ hb hr h
end keep
theorem RepV_no{σ:Lab->Value}{F:Nat->Prop}{w:World}{u:Value}:RepV σ F w .no u:=by
 simp[RepV,RepU,AV.isS,RepC]
theorem kill_refs(p:Lab->Bool)(a:AV):(a.kill p).refs p=false:=by
 unfold AV.kill
 split
 ·simp[AV.refs]
 ·simp_all
theorem lk_killT(p:Lab->Bool):∀(tm:List (Nat×AV)) (t:Nat),lk (killT p tm) t=(lk tm t).map (·.kill p)
 | [],_=>rfl
 |(k,a)::l,t=>by
  simp only[killT,lk]
  split
  ·rfl
  ·exact lk_killT p l t
theorem lo_killO(p:Lab->Bool):∀(ob:List (Lab×Ob)) (l:Lab),p l=false->lo (killO p ob) l=(lo ob l).map (·.kill p)
 | [],_,_=>rfl
 |(k,a)::r,l,hl=>by
  simp only[killO,lo]
  by_cases hk:p k=true
  ·rw[if_pos hk,lo_killO p r l hl]
   have:k≠l:=fun e=>by rw[e]at hk;rw[hk]at hl;cases hl
   rw[if_neg this]
  ·rw[if_neg hk]
   simp only[lo]
   split
   ·rfl
   ·exact lo_killO p r l hl
theorem lo_killO_none(p:Lab->Bool):∀(ob:List (Lab×Ob)) (l:Lab),p l=true->lo (killO p ob) l=none
 | [],_,_=>rfl
 |(k,a)::r,l,hl=>by
  simp only[killO]
  by_cases hk:p k=true
  ·rw[if_pos hk];exact lo_killO_none p r l hl
  ·rw[if_neg hk]
   simp only[lo]
   have:k≠l:=fun e=>hk (by rw[e];exact hl)
   rw[if_neg this]
   exact lo_killO_none p r l hl
section rep
variable {N:Nat} {G:Gd} {σ:Lab->Value} {ow:Own} {w:World} {a:Act} {Γ:Env}
mutual
theorem RepC.weaken{F:Nat->Prop}(p:Lab->Bool):∀ {x:AV} {cs:List Value},RepC σ F w x cs->RepC σ F w (x.kill p) cs:=by
 intro x cs h
 unfold AV.kill
 split
 ·simp only[RepC]
 ·exact h
end
theorem RepCs.kill{F:Nat->Prop}(p:Lab->Bool):∀ {as:List AV} {cs:List Value},RepCs σ F w as cs->RepCs σ F w (killL p as) cs
 | [],_,h=>h
 |a::as,cs,h=>by
  simp only[RepCs,killL]at h⊢
  obtain⟨u,us,e,h1,h2⟩:=h
  exact⟨u,us,e,h1.weaken p,RepCs.kill p h2⟩
theorem refsL_killL(p:Lab->Bool):∀(as:List AV),refsL p (killL p as)=false
 | []=>rfl
 |a::as=>by simp[killL,refsL,kill_refs,refsL_killL p as]
theorem RepV.kill{F:Nat->Prop}(p:Lab->Bool){x:AV}{u:Value}(h:RepV σ F w x u):RepV σ F w (x.kill p) u:=by
 unfold AV.kill
 split
 ·exact RepV_no
 ·exact h
theorem ObR.kill(p:Lab->Bool){l:Lab}{o:Ob}(h:ObR G σ ow w l o):ObR G σ ow w l (o.kill p):=by
 cases o with
 |box ls=>
  obtain⟨b,e,cs,h1,h2,h3,h4⟩:=h
  exact⟨b,e,cs,h1,h2,h3,RepCs.kill p h4⟩
 |row d q c xs=>exact h
 |mp kk vk es=>exact h
theorem Rep.kill(p:Lab->Bool)(h:Rep N G σ ow w a Γ):Rep N G σ ow w a (Γ.kill p):=by
 refine⟨h.size,h.defers,fun t x hx=> ?_,fun l o ho=> ?_,?_,?_,fun l o ho hp=> ?_,h.big⟩
 ·simp only[Env.kill,lk_killT,Option.map_eq_some_iff]at hx
  obtain⟨y,hy,rfl⟩:=hx
  exact(h.tm t y hy).kill p
 ·simp only[Env.kill]at ho
  by_cases hl:p l=true
  ·rw[lo_killO_none p _ _ hl]at ho;cases ho
  ·rw[lo_killO p _ _ (by simpa using hl)]at ho
   simp only[Option.map_eq_some_iff]at ho
   obtain⟨y,hy,rfl⟩:=ho
   exact(h.ob l y hy).kill p
 ·exact h.own
 ·exact h.top
 ·simp only[Env.kill]at ho
  by_cases hl:p l=true
  ·rw[lo_killO_none p _ _ hl]at ho;cases ho
  ·rw[lo_killO p _ _ (by simpa using hl)]at ho
   simp only[Option.map_eq_some_iff]at ho
   obtain⟨y,hy,rfl⟩:=ho
   refine h.pin l y hy ?_
   cases y<;>exact hp
structure Free (p:Lab->Bool) (Γ:Env):Prop where
 tm:∀t x,lk Γ.tm t=some x->x.refs p=false
 ob:∀l o,lo Γ.ob l=some o->p l=false∧(∀ls,o= .box ls->refsL p ls=false)
theorem Free.kill(p:Lab->Bool)(Γ:Env):Free p (Γ.kill p):=by
 refine⟨fun t x hx=> ?_,fun l o ho=> ?_⟩
 ·simp only[Env.kill,lk_killT,Option.map_eq_some_iff]at hx
  obtain⟨y,hy,rfl⟩:=hx
  exact kill_refs p y
 ·simp only[Env.kill]at ho
  by_cases hl:p l=true
  ·rw[lo_killO_none p _ _ hl]at ho;cases ho
  ·have hl':p l=false:=by simpa using hl
   rw[lo_killO p _ _ hl']at ho
   simp only[Option.map_eq_some_iff]at ho
   obtain⟨y,hy,rfl⟩:=ho
   refine⟨hl',fun ls e=> ?_⟩
   cases y with
   |box ls'=>simp only[Ob.kill,Ob.box.injEq]at e;rw[<-e];exact refsL_killL p ls'
   |row d q c xs=>simp[Ob.kill]at e
   |mp _ _ _=>simp[Ob.kill]at e
structure Upd (p:Lab->Bool) (ow:Own) (w:World) (ow':Own) (w':World):Prop where
 os:w'.os=w.os
 tape:w'.tape=w.tape
 output:w'.output=w.output
 size:w.heap.size<=w'.heap.size
 block:∀b,b<w.heap.size->(∀l,ow b=some l->p l=false)->ow' b=ow b∧w'.heap[b]? =w.heap[b]?
theorem Upd.ext{p:Lab->Bool}{ow':Own}{w':World}(h:Upd p ow w ow' w'):Ext ow w ow' w':=
 ⟨h.os,h.tape,h.output,h.size,fun b hb hn=>by
  obtain⟨h1,h2⟩:=h.block b hb (fun l hl=>by rw[hn]at hl;cases hl)
  exact⟨h1.trans hn,h2⟩⟩
theorem Upd.fz{p:Lab->Bool}{ow':Own}{w':World}(h:Upd p ow w ow' w'):∀b,fz G ow w b->Q.fz G ow' w' b∧w'.heap[b]? =w.heap[b]? :=fun b hb=>by
 obtain⟨h1,h2⟩:=h.block b hb.2.1 (fun l hl=>by rw[hb.1]at hl;cases hl)
 exact⟨⟨h1.trans hb.1,Nat.lt_of_lt_of_le hb.2.1 h.size,hb.2.2⟩,h2⟩
theorem RowD.lt{α:Type}{sz:Nat}{P:α->List Value->List Nat->Prop}{xs:List α}{v:Value}{bs:List Nat}(hP:∀x a q,(∀b∈q,b∈bs)->P x a q->∀b∈q,b<w.heap.size)(h:RowD w sz P xs v bs):∀b∈bs,b<w.heap.size:=by
 rcases h with⟨_,_,rfl⟩|⟨g,cap,cur,e,rest,rfl,hg,_,_,_,rfl,h4⟩
 ·simp
 ·have key:∀ {xs:List α} {v:List Value} {r:List Nat},(∀b∈r,b∈g::rest)->ElemsD sz P xs v r->∀b∈r,b<w.heap.size:=by
   intro xs
   induction xs with
   |nil=>intro v r _ h b hb;rw[h.2]at hb;cases hb
   |cons x xs ih=>
    intro v r hs h b hb
    obtain⟨a,b',p,q,e,hl,rfl,hp,hr⟩:=h
    rcases List.mem_append.1 hb with hb|hb
    ·exact hP x a p (fun b hb=>hs b (List.mem_append_left _ hb)) hp b hb
    ·exact ih (fun b hb=>hs b (List.mem_append_right _ hb)) hr b hb
  intro b hb
  rcases List.mem_cons.1 hb with rfl|hb
  ·exact(Array.getElem?_eq_some_iff.1 hg).1
  ·exact key (fun b hb=>List.mem_cons_of_mem _ hb) h4 b hb
theorem HAllD.lt{P:(c:Ki)->c.T->List Value->List Nat->Prop}(hP:∀c x a q,P c x a q->∀b∈q,b<w.heap.size):∀ {cs} {x:HL cs} {v bs},HAllD P cs x v bs->∀b∈bs,b<w.heap.size
 | [],_,_,_,h=>by simp[h.2]
 |_::cs,_,_,_,⟨a,b,p,q,e,hl,eb,hp,hr⟩=>by
  subst eb
  intro b hb
  rcases List.mem_append.1 hb with hb|hb
  ·exact hP _ _ _ _ hp b hb
  ·exact HAllD.lt hP hr b hb
theorem D.lt:∀ {d:Nat} {c:Ki} {x:c.T} {v:List Value} {bs:List Nat},D w d c x v bs->∀b∈bs,b<w.heap.size
 |0,_,_,_,_,h=>h.elim
 |_+1,.int _,_,_,_,h=>by simp[h.2.2]
 |_+1,.bool,_,_,_,h=>by simp[h.2]
 |_+1,.str,_,_,_,h=>by simp[h.2.2]
 |d+1,.slice c,_,_,_,⟨u,e,h⟩=>h.lt fun _ _ _ _ hp=>D.lt hp
 |d+1,.struct n,_,_,_,h=>by
  rw[D]at h
  exact HAllD.lt (fun _ _ _ _ hp=>D.lt hp) h
 |_+1,.ptr _,_,_,_,h=>h.elim
theorem Dx.lt{c:Ki}{x:c.T}{v:List Value}{bs:List Nat}(h:Dx w c x v bs):∀b∈bs,b<w.heap.size:=h.elim fun _ h=>D.lt h
theorem RowO.lt{F:Nat->Prop}{deep:Bool}{c:Ki}{xs:List c.T}{v:Value}{bs:List Nat}(h:RowO w F deep c xs v bs):∀b∈bs,b<w.heap.size:=by
 unfold RowO at h
 split at h
 ·exact h.lt fun _ _ _ _ hp=>Dx.lt hp
 ·exact h.lt fun _ _ _ _ hp=>by simp[hp.2]
theorem RowO.keep{F F':Nat->Prop}{w':World}{deep:Bool}{c:Ki}{xs:List c.T}{v:Value}{bs:List Nat}(hF:∀b,F b->F' b∧w'.heap[b]? =w.heap[b]?)(hb:∀b∈bs,w'.heap[b]? =w.heap[b]?)
  (h:RowO w F deep c xs v bs):RowO w' F' deep c xs v bs:=by
 unfold RowO at h⊢
 cases deep with
 |true=>
  simp only[if_true]at h⊢
  exact h.mono hb fun x a p hs hp=>hp.keep fun b h=>hb b (hs b h)
 |false=>
  simp only[Bool.false_eq_true,if_false]at h⊢
  exact h.mono hb fun x a p hs hp=>⟨hp.1.keep hF,hp.2⟩
theorem ObR.upd{p q:Lab->Bool}{ow':Own}{w':World}{σ':Lab->Value}{l:Lab}{o:Ob}(hu:Upd p ow w ow' w')(hσ:∀l,q l=false->σ' l=σ l)(hl:p l=false)(hq:q l=false)(hf:∀ls,o= .box ls->refsL q ls=false)
  (h:ObR G σ ow w l o):ObR G σ' ow' w' l o:=by
 cases o with
 |box ls=>
  obtain⟨b,e,cs,h1,h2,h3,h4⟩:=h
  have hblt:b<w.heap.size:=(Array.getElem?_eq_some_iff.1 h2).1
  obtain⟨k1,k2⟩:=hu.block b hblt (fun l' hl'=>by rw[h3]at hl';cases hl';exact hl)
  exact⟨b,e,cs,by rw[hσ l hq];exact h1,by rw[k2];exact h2,by rw[k1];exact h3,RepCs.keep hσ hu.fz (hf ls rfl) h4⟩
 |row d pin c xs=>
  obtain⟨bs,h1,h2,h3⟩:=h
  have hk:∀b∈bs,ow' b=ow b∧w'.heap[b]? =w.heap[b]? :=fun b hb=>hu.block b (h1.lt b hb) (fun l' hl'=>by rw[h3 b hb]at hl';cases hl';exact hl)
  refine⟨bs,?_,h2,fun b hb=>by rw[(hk b hb).1];exact h3 b hb⟩
  rw[hσ l hq]
  exact h1.keep hu.fz fun b hb=>(hk b hb).2
 |mp kk vk es=>
  obtain⟨g,ms,clk,h1,h2,h3,h4⟩:=h
  have hblt:g<w.heap.size:=(Array.getElem?_eq_some_iff.1 h2).1
  obtain⟨k1,k2⟩:=hu.block g hblt (fun l' hl'=>by rw[h3]at hl';cases hl';exact hl)
  exact⟨g,ms,clk,by rw[hσ l hq];exact h1,by rw[k2];exact h2,by rw[k1];exact h3,h4.keep hu.fz⟩
theorem Rep.own'{p:Lab->Bool}{ow':Own}{w':World}(h:Rep N G σ ow w a Γ)(hu:Upd p ow w ow' w'):∀b l,ow' b=some l->G b:=fun b l hl=>by
 rcases Nat.lt_or_ge b w.heap.size with hb|hb
 ·cases ho:ow b with
  |some l'=>exact h.own b l' ho
  |none=>
   obtain⟨h1,_⟩:=hu.block b hb (fun l' hl'=>by rw[ho]at hl';cases hl')
   rw[h1,ho]at hl
   cases hl
 ·exact h.top.new b hb
theorem Rep.top'{p:Lab->Bool}{ow':Own}{w':World}(h:Rep N G σ ow w a Γ)(hu:Upd p ow w ow' w'):Tp G ow' w':=⟨fun b hb=>h.top.new b (Nat.le_trans hu.size hb),h.top.laid.keep hu.fz⟩
theorem Rep.upd{p:Lab->Bool}{ow':Own}{w':World}{σ':Lab->Value}(h:Rep N G σ ow w a Γ)(hu:Upd p ow w ow' w')(hσ:∀l,p l=false->σ' l=σ l)(hf:Free p Γ):Rep N G σ' ow' w' a Γ:=
 ⟨h.size,h.defers,fun t x hx=>(h.tm t x hx).keep hσ hu.fz (hf.tm t x hx),fun l o ho=>(h.ob l o ho).upd hu hσ (hf.ob l o ho).1 (hf.ob l o ho).1 (hf.ob l o ho).2,h.own' hu,h.top' hu,fun l o ho hp=>(hσ l (hf.ob l o ho).1).trans (h.pin l o ho hp),h.big⟩
theorem getD_put(a:Act)(d t:Nat)(v:Value)(hd:d<a.tmps.size):(a.put (some d) v).tmps.getD t undef=if d=t then v else a.tmps.getD t undef:=by
 simp only[Act.put,Array.getD_eq_getD_getElem?]
 by_cases h:d=t
 ·subst h;rw[if_pos rfl,Array.getElem?_setIfInBounds_self,if_pos hd];rfl
 ·rw[if_neg h,Array.getElem?_setIfInBounds_ne h]
theorem Rep.put(h:Rep N G σ ow w a Γ){d:Nat}(hd:d<N){x:AV}{v:Value}(hx:RepV σ (fz G ow w) w x v):Rep N G σ ow w (a.put (some d) v) (Γ.put d x):=by
 have hd':d<a.tmps.size:=by rw[h.size];exact hd
 refine⟨by simp[Act.put,h.size],h.defers,fun t y hy=> ?_,h.ob,h.own,h.top,h.pin,h.big⟩
 rw[getD_put a d t v hd']
 simp only[Env.put,lk]at hy
 split at hy
 ·rename_i he
  rw[if_pos he]
  cases hy
  exact hx
 ·rename_i he
  rw[if_neg he]
  exact h.tm t y hy
theorem Rep.new(h:Rep N G σ ow w a Γ){l:Lab}{o:Ob}(ho:ObR G σ ow w l o)(hpn:o.pnd G.pb l=true->σ l=G.pin l:=by intro h;cases h):Rep N G σ ow w a (Γ.new l o):=
 ⟨h.size,h.defers,h.tm,fun k q hq=>by
  simp only[Env.new,lo]at hq
  split at hq
  ·rename_i he;subst he;cases hq;exact ho
  ·exact h.ob k q hq,h.own,h.top,fun k q hq hp=>by
  simp only[Env.new,lo]at hq
  split at hq
  ·rename_i he;subst he;cases hq;exact hpn hp
  ·exact h.pin k q hq hp,h.big⟩
end rep
end Go.Q
namespace Go.Q
def inB(k:IntKind)(n:Int):Bool:=decide (k.min<=n)&&decide (n<=k.max)
def O.m:O->Operand->Bool
 | .t n1,.tmp k1=>n1==k1
 | .i n1,.const (.int k1 m1)=>k1== .i64&&n1==m1&&inB .i64 n1
 | .k k0 n1,.const (.int k1 m1)=>k0==k1&&n1==m1&&inB k0 n1
 | .b b1,.const (.bool b2)=>b1==b2
 | .s s1,.const (.string z1)=>z1.data.toList==s1&&decide (s1.length<=1099511627776)
 | .nl _,.const (.slice none 0 0)=>true
 | .np _,.const (.pointer none)=>true
 | .f f1,.func g1=>f1==g1
 | .no,.const (.map none)=>true
 |_,_=>false
theorem inB_inR{k:IntKind}{n:Int}(h:inB k n=true):inR k n:=by
 simp[inB]at h;exact h
section
variable {N:Nat} {G:Gd} {σ:Lab->Value} {ow:Own} {w:World} {a:Act} {Γ:Env} {F:Nat->Prop}
theorem RepV_int{k:IntKind}{n:Int}{u:Value}:RepV σ F w (.v (.int k) n) u↔u= .int k n∧inR k n:=by
 simp[RepV,RepU,AV.isS,RepC,Kx_int]
theorem RepV_bool{b:Bool}{u:Value}:RepV σ F w (.v .bool b) u↔u= .bool b:=by
 simp[RepV,RepU,AV.isS,RepC,Kx_bool]
theorem RepV_str{s:Str}{u:Value}:RepV σ F w (.v .str s) u↔u= .string ⟨s.toArray⟩∧s.length<=maxLen:=by
 simp[RepV,RepU,AV.isS,RepC,Kx_str]
theorem RepV_nl{c:Ki}{u:Value}:RepV σ F w (.nl c) u↔ ∃A,u= .slice A 0 0:=by
 simp[RepV,RepU,AV.isS,RepC]
theorem RepV_sl{l:Lab}{u:Value}:RepV σ F w (.sl l) u↔ ∃A n c,σ l= .slice A n c∧u= .slice A n c:=by
 simp[RepV,RepU,AV.isS,RepC]
theorem RepV_pt{l:Lab}{off:Nat}{u:Value}:RepV σ F w (.pt l off) u↔ ∃b,σ l= .pointer (some ⟨b,0,none⟩)∧u= .pointer (some ⟨b,off,none⟩):=by
 simp[RepV,RepU,AV.isS,RepC]
theorem RepV_ep{l:Lab}{c:Ki}{i:Int}{off:Nat}{u:Value}:RepV σ F w (.ep l c i off) u↔ ∃g n cap,σ l= .slice (some ⟨g,0,none⟩) n cap∧0<=i∧u= .pointer (some ⟨g,i.toNat*c.sz+off,none⟩):=by
 simp[RepV,RepU,AV.isS,RepC]
theorem RepV_ptr_none{c:Ki}{u:Value}:RepV σ F w (.v (.ptr c) (none:Option c.T)) u↔u= .pointer none:=by
 simp[RepV,RepU,AV.isS,RepC,Kx_ptr_none]
theorem RepV_ptr_some{c:Ki}{x:c.T}{u:Value}:RepV σ F w (.v (.ptr c) (some x:Option c.T)) u↔ ∃ad es,u= .pointer (some ad)∧F ad.block∧es.length=c.sz∧Cells w ad es∧Kx F w c x es:=by
 simp[RepV,RepU,AV.isS,RepC,Kx_ptr_some]
theorem RepV_slice{c:Ki}{xs:List c.T}{u:Value}:RepV σ F w (.v (.slice c) xs) u↔ ∃A cap,u= .slice A xs.length cap∧xs.length<=cap∧cap<=maxLen∧
   (∀i (h:i<xs.length),∃ad es,A=some ad∧F ad.block∧es.length=c.sz∧Cells w (ad.add (i*c.sz)) es∧Kx F w c xs[i] es):=by
 simp[RepV,RepU,AV.isS,RepC,Kx_slice]
theorem RepV_fn0{f:FuncId}{u:Value}:RepV σ F w (.fn f []) u↔u= .func (.func f) #[] #[]:=by
 simp[RepV,RepU,AV.isS,RepC,RepCs]
theorem ev_rep(h:Rep N G σ ow w a Γ){o:O}{x:Operand}(hm:o.m x=true){v:AV}(hv:ev Γ o=some v):RepV σ (fz G ow w) w v (a.eval x):=by
 cases o with
 |t n=>
  cases x<;>simp[O.m]at hm
  subst hm
  exact h.tm _ _ hv
 |i n=>
  cases x<;>simp[O.m]at hm
  rename_i c
  cases c<;>simp[O.m]at hm
  obtain⟨⟨rfl,rfl⟩,hi⟩:=hm
  simp only[ev,Option.some.injEq]at hv
  subst hv
  exact RepV_int.2 ⟨rfl,inB_inR hi⟩
 |k k n=>
  cases x<;>simp[O.m]at hm
  rename_i c
  cases c<;>simp[O.m]at hm
  obtain⟨⟨rfl,rfl⟩,hi⟩:=hm
  simp only[ev,Option.some.injEq]at hv
  subst hv
  exact RepV_int.2 ⟨rfl,inB_inR hi⟩
 |b b=>
  cases x<;>simp[O.m]at hm
  rename_i c
  cases c<;>simp[O.m]at hm
  subst hm
  simp only[ev,Option.some.injEq]at hv
  subst hv
  exact RepV_bool.2 rfl
 |s s=>
  cases x<;>simp[O.m]at hm
  rename_i c
  cases c<;>simp[O.m]at hm
  obtain⟨rfl,hi⟩:=hm
  simp only[ev,Option.some.injEq]at hv
  subst hv
  refine RepV_str.2 ⟨?_,by simp[maxLen];simp at hi;omega⟩
  simp[Act.eval]
 |nl c=>
  cases x<;>simp[O.m]at hm
  rename_i z
  split at hm<;>simp_all
  simp only[ev,Option.some.injEq]at hv
  subst hv
  exact RepV_nl.2 ⟨_,rfl⟩
 |np c=>
  cases x<;>simp[O.m]at hm
  rename_i z
  split at hm<;>simp_all
  simp only[ev,Option.some.injEq]at hv
  subst hv
  exact RepV_ptr_none.2 rfl
 |f f=>
  cases x<;>simp[O.m]at hm
  subst hm
  simp only[ev,Option.some.injEq]at hv
  subst hv
  exact RepV_fn0.2 rfl
 |no=>
  simp only[ev,Option.some.injEq]at hv
  subst hv
  simp[RepV,RepU,AV.isS,RepC]
end
section
variable (P:Program)
def tk1(t:TypeId):Ki->Bool
 | .int k=>match P.underlying t with|some (.int k')=>k==k'|_=>false
 | .bool=>match P.underlying t with|some .bool=>true|_=>false
 | .str=>match P.underlying t with|some .string=>true|_=>false
 | .slice _=>match P.underlying t with|some (.slice _)=>true|_=>false
 | .ptr _=>match P.underlying t with|some (.pointer _)=>true|_=>false
 | .struct _=>match P.underlying t with|some (.struct _)=>true|_=>false
def tsz(t:TypeId)(n:Nat):Bool:=match P.info? t with|some i=>i.size==n|none=>false
def tk(t:TypeId)(c:Ki):Bool:=tk1 P t c&&tsz P t c.sz
end
def Ki.isS:Ki->Bool
 | .struct _=>true
 |_=>false
section
variable {P:Program}
theorem tk_agg{t:TypeId}{c:Ki}(h:tk P t c=true)(w:World):(isAgg t).run P w= .ok c.isS w:=by
 simp only[tk,Bool.and_eq_true]at h
 have h1:=h.1
 unfold isAgg
 cases c<;>simp only[tk1]at h1<;>split at h1<;>simp_all[run_underlying,Ki.isS]
theorem tsz_info{t:TypeId}{n:Nat}(h:tsz P t n=true):∃i,P.info? t=some i∧i.size=n:=by
 unfold tsz at h
 split at h
 ·exact⟨_,by assumption,by simpa using h⟩
 ·cases h
theorem tsz_run{t:TypeId}{n:Nat}(h:tsz P t n=true)(w:World):(sizeOf t).run P w= .ok n w:=by
 obtain⟨i,hi,rfl⟩:=tsz_info h
 simp[sizeOf,typeInfo,hi]
theorem tk_size{t:TypeId}{c:Ki}(h:tk P t c=true)(w:World):(sizeOf t).run P w= .ok c.sz w:=tsz_run (by simp[tk]at h;exact h.2) w
def valOf(c:Ki)(es:List Value):Value:=if c.isS then .agg es.toArray else es.headD undef
theorem run_load_cells{t:TypeId}{c:Ki}(h:tk P t c=true)(w:World)(ad:Addr)(es:List Value)(hl:es.length=c.sz)(hc:Cells w ad es):
  (Instr.loadAt t (.pointer (some ad))).run P w= .ok (valOf c es) w:=by
 simp only[Instr.loadAt,Instr.sureAddr,Sem.run_bind,Sem.run_pure,Result.andThen_ok,loadVar,tk_agg h]
 cases hs:c.isS with
 |true=>
  have:=run_loadCells_list (P:=P) w ad es hc
  simp only[if_true,Sem.run_bind,tk_size h,Result.andThen_ok,<-hl,this,Sem.run_pure,valOf,hs]
 |false=>
  have h1:es.length=1:=by rw[hl];cases c<;>simp_all[Ki.sz,Ki.isS]
  obtain⟨e,rfl⟩:∃e,es=[e]:=List.length_eq_one_iff.1 h1
  have h0:=hc 0 e rfl
  have ha:ad.add 0=ad:=by simp[Addr.add]
  rw[ha]at h0
  simp[h0,valOf,hs]
theorem wp_value{o:Oper}{a:Act}{w w':World}{v:Value}{next:Act->World->Prop}{Q:Exit->Act->World->Prop}(h:(execOp a.eval o).run P w= .ok (.value v) w')(k:next (a.put o.dst v) w'):o.wp P a w next Q:=by
 unfold Oper.wp;rw[h];exact k
theorem wp_skip'{o:Oper}{a:Act}{w w':World}{next:Act->World->Prop}{Q:Exit->Act->World->Prop}(h:(execOp a.eval o).run P w= .ok .skip w')(k:next (a.put o.dst undef) w'):o.wp P a w next Q:=by
 unfold Oper.wp;rw[h];exact k
end
end Go.Q
namespace Go.Q
def dstOk(N d:Nat)(o:Oper):Bool:=o.dst==some d&&decide (d<N)
section
variable (P:Program)
def foff:List Ki->Nat->Nat
 | [],_=>0
 |_,0=>0
 |c::cs,j+1=>c.sz+foff cs j
def fOk(s:TypeId)(n j off:Nat):Bool:=
 match P.underlying s with
 |some (.struct fs)=>(match fs[j]? with
  |some f=>f.offset==off&&off==foff (flds n) j&&(match P.info? f.type with|some i=>i.size !=0|none=>false)
  |none=>false)
 |_=>false
def eOk(t:TypeId)(c:Ki):Bool:=
 match P.underlying t with
 |some (.slice e)=>tsz P e c.sz
 |_=>false
def lnOk(st:Bool)(t:TypeId):Bool:=
 match P.underlying t with
 |some .string=>st
 |some (.slice _)=> !st
 |_=>false
def kz:AV->Value
 | .v (.int k) _=>.int k 0
 | .v .bool _=>.bool false
 | .v .str _=>.string ⟨#[]⟩
 | .nl _=>.slice none 0 0
 | .v (.slice _) _=>.slice none 0 0
 | .v (.ptr _) _=>.pointer none
 |_=>undef
def zc(c:Ki):List Value:=(zA c).map kz
def zeq:Value->Value->Bool
 | .int k n,.int k' m=>k==k'&&n==m
 | .bool a,.bool b=>a==b
 | .string a,.string b=>a.data.toList==b.data.toList
 | .slice none a b,.slice none c d=>a==c&&b==d
 | .pointer none,.pointer none=>true
 |_,_=>false
def zeqs:List Value->List Value->Bool
 | [],[]=>true
 |a::as,b::bs=>zeq a b&&zeqs as bs
 |_,_=>false
def tz(t:TypeId)(c:Ki):Bool:=
 match P.info? t with
 |some i=>(match i.zero with|some z=>zeqs z.cells.toList (zc c)|none=>false)
 |none=>false
def mkOk(t:TypeId)(c:Ki):Bool:=
 match P.underlying t with
 |some (.slice e)=>tz P e c&&(match P.info? e with|some i=>i.size==c.sz&&decide (i.bytes<=65536)&&decide (0<i.size)|none=>false)
 |_=>false
def callOk(f:FuncId):Bool:=
 match P.funcs[f]? with
 |some fn=>fn.name != "runtime.NumGoroutine" &&fn.body.isSome
 |none=>false
def argsM:List (O×Md)->List Operand->Bool
 | [],[]=>true
 |(o,_)::r,x::xs=>o.m x&&argsM r xs
 |_,_=>false
def psM:Nat->List O->List (Nat×Operand)->Bool
 |_,[],[]=>true
 |i,o::r,(j,x)::xs=>i==j&&o.m x&&psM (i+1) r xs
 |_,_,_=>false
def rowOk(t:TypeId)(c:Ki):Bool:=
 match P.underlying t with
 |some (.slice e)=>tz P e c&&(match P.info? e with|some i=>i.size==c.sz&&Nat.ble i.bytes 65536&&Nat.blt 0 i.size&&(zc c).length==c.sz|none=>false)
 |_=>false
def bdM(n:Nat)(fs:Array Field):List (Nat×Nat×O)->List (Nat×Operand)->Bool
 | [],[]=>true
 |(off,sz,o)::r,(j,x)::xs=>(match fs[j]? with|some f=>f.offset==off&&tsz P f.type sz&&Nat.ble (off+sz) (ssz n)|none=>false)&&o.m x&&bdM n fs r xs
 |_,_=>false
def bdOk(t:TypeId)(n:Nat)(ps:List (Nat×Nat×O))(qs:List (Nat×Operand)):Bool:=
 match P.underlying t with
 |some (.struct fs)=>tz P t (.struct n)&&(zc (.struct n)).length==ssz n&&bdM P n fs ps qs&&fs.toList.all (fun f=>(P.info? f.type).isSome)
 |_=>false
def byOk(t:TypeId):Bool:=
 match P.underlying t with
 |some (.slice e)=>(match P.underlying e with|some (.int .u8)=>true|_=>false)
 |_=>false
def stOk(t:TypeId):Bool:=match P.underlying t with|some .string=>true|_=>false
def inOk(t:TypeId)(k:IntKind):Bool:=match P.underlying t with|some (.int k')=>k==k'|_=>false
def omO:Option O->Option Operand->Bool
 |none,none=>true
 |some o,some x=>o.m x
 |_,_=>false
def argsQ:List (O×Mq)->List Operand->Bool
 | [],[]=>true
 |(o,_)::r,x::xs=>o.m x&&argsQ r xs
 |_,_=>false
def mpOk(t:TypeId)(kk vk:Ki):Bool:=
 match P.underlying t with
 |some (.map k e)=>kk.key&&tk1 P k kk&&tz P e vk&&(match P.info? e with|some i=>(match i.zero with|some (.agg _)=>false|some _=>true|none=>false)|none=>false)
 |_=>false
def dstO(N:Nat)(d:Option Nat)(o:Oper):Bool:=match d with|some d=>dstOk N d o|none=>o.dst.isNone
def I.m(N:Nat):I->Oper->Bool
 | .mv d x,o=>(match o.op with| .move y=>dstOk N d o&&x.m y| .assign y=>dstOk N d o&&x.m y|_=>false)
 | .nck d x,o=>(match o.op with| .nilCheck y=>dstOk N d o&&x.m y|_=>false)
 | .un d u x,o=>(match o.op with| .unOp u' _ y=>dstOk N d o&&u==u'&&x.m y|_=>false)
 | .bi d b x y,o=>(match o.op with| .binOp b' _ x' y' _=>dstOk N d o&&b==b'&&x.m x'&&y.m y'|_=>false)
 | .be d ne x y,o=>(match o.op with| .binOp b' t x' y' _=>dstOk N d o&&(if ne then b'== .neq else b'== .eql)&&x.m x'&&y.m y'&&tk1 P t .bool|_=>false)
 | .pk d c x y,o=>(match o.op with| .pick c' x' y'=>dstOk N d o&&c.m c'&&x.m x'&&y.m y'|_=>false)
 | .fa d x n j off,o=>(match o.op with| .fieldAddr s x' f=>dstOk N d o&&x.m x'&&f==j&&fOk P s n j off|_=>false)
 | .ia d x y c,o=>(match o.op with| .indexAddr t x' y'=>dstOk N d o&&x.m x'&&y.m y'&&eOk P t c|_=>false)
 | .ld d x c,o=>(match o.op with| .load t x'=>dstOk N d o&&x.m x'&&tk P t c|_=>false)
 | .st x y c,o=>(match o.op with| .store t x' y'=>o.dst.isNone&&x.m x'&&y.m y'&&tk P t c|_=>false)
 | .bx d x _,o=>(match o.op with| .box _ x'=>dstOk N d o&&x.m x'|_=>false)
 | .al d c,o=>(match o.op with| .alloc e=>dstOk N d o&&tz P e c|_=>false)
 | .ln d isStr x,o=>(match o.op with| .call {callee:=.builtin .len,args:=⟨[x']⟩,argTypes:=⟨[t]⟩}=>dstOk N d o&&x.m x'&&lnOk P isStr t|_=>false)
 | .mk d _ c n,o=>(match o.op with| .makeSlice t x' y'=>dstOk N d o&&n.m x'&&n.m y'&&mkOk P t c|_=>false)
 | .ca d f xs,o=>(match o.op with| .call {callee:=.value (.func f'),args:=⟨as⟩,.. }=>(match d with|some d=>dstOk N d o|none=>o.dst.isNone)&&f==f'&&callOk P f&&argsM xs as|_=>false)
 | .cv d f xs,o=>(match o.op with| .call {callee:=.value (.func f'),args:=⟨as⟩,.. }=>(match d with|some d=>dstOk N d o|none=>o.dst.isNone)&&f==f'&&callOk P f&&argsM xs as|_=>false)
 | .cf d x xs,o=>(match o.op with| .call {callee:=.value y,args:=⟨as⟩,.. }=>dstO N d o&&x.m y&&argsM xs as|_=>false)
 | .bs d _ c xs,o=>(match o.op with| .buildSlice t n ⟨ps⟩=>dstOk N d o&&n==xs.length&&psM 0 xs ps&&rowOk P t c&&Nat.ble (n*c.sz) 16777216|_=>false)
 | .bd d n ps,o=>(match o.op with| .build t ⟨qs⟩=>dstOk N d o&&bdOk P t n ps qs|_=>false)
 | .an d _ c x y,o=>(match o.op with| .call {callee:=.builtin .append,args:=⟨[x',y']⟩,argTypes:=⟨[t,t']⟩}=>dstOk N d o&&t==t'&&x.m x'&&y.m y'&&rowOk P t c|_=>false)
 | .ap d _ _ c x y,o=>(match o.op with| .call {callee:=.builtin .append,args:=⟨[x',y']⟩,argTypes:=⟨[t,t']⟩}=>dstOk N d o&&t==t'&&x.m x'&&y.m y'&&rowOk P t c|_=>false)
 | .ci d k x,o=>(match o.op with| .convert s t x'=>dstOk N d o&&x.m x'&&(P.underlying s).isSome&&inOk P t k|_=>false)
 | .cs d x,o=>(match o.op with| .convert s t x'=>dstOk N d o&&x.m x'&&byOk P s&&stOk P t|_=>false)
 | .ix d x i,o=>(match o.op with| .index t x' i'=>dstOk N d o&&x.m x'&&i.m i'&&stOk P t|_=>false)
 | .sx d x a b,o=>(match o.op with| .slice t x' a' b' none=>dstOk N d o&&x.m x'&&omO a a'&&omO b b'&&stOk P t|_=>false)
 | .sa d _ x y,o=>(match o.op with| .call {callee:=.builtin .append,args:=⟨[x',y']⟩,argTypes:=⟨[t,u]⟩}=>dstOk N d o&&x.m x'&&y.m y'&&rowOk P t (.int .u8)&&stOk P u|_=>false)
 | .cfr d x xs,o=>(match o.op with| .call {callee:=.value y,args:=⟨as⟩,.. }=>dstO N (some d) o&&x.m y&&argsM xs as|_=>false)
 | .cq d f xs,o=>(match o.op with| .call {callee:=.value (.func f'),args:=⟨as⟩,.. }=>dstO N d o&&f==f'&&callOk P f&&argsQ xs as|_=>false)
 | .xt d x i,o=>(match o.op with| .extract x' i'=>dstOk N d o&&x.m x'&&i==i'|_=>false)
 | .pn _,_=>true
 | .bl d c xs,o=>(match o.op with| .buildSlice t n ⟨ps⟩=>dstOk N d o&&n==xs.length&&psM 0 xs ps&&rowOk P t c&&Nat.ble (n*c.sz) 16777216|_=>false)
 | .apl d _ c x t,o=>(match o.op with| .call {callee:=.builtin .append,args:=⟨[x',y']⟩,argTypes:=⟨[t1,t']⟩}=>dstOk N d o&&t1==t'&&x.m x'&&(O.t t).m y'&&rowOk P t1 c|_=>false)
 | .bf d c xs,o=>(match o.op with| .buildSlice t n ⟨ps⟩=>dstOk N d o&&n==xs.length&&psM 0 xs ps&&rowOk P t c&&Nat.ble (n*c.sz) 16777216|_=>false)
 | .bo d c xs,o=>(match o.op with| .buildSlice t n ⟨ps⟩=>dstOk N d o&&n==xs.length&&psM 0 xs ps&&rowOk P t c&&Nat.ble (n*c.sz) 16777216|_=>false)
 | .mm d _ _,o=>(match o.op with| .makeMap _ none=>dstOk N d o|_=>false)
 | .mu m k v kk vk,o=>(match o.op with| .mapUpdate t m' k' v'=>o.dst.isNone&&m.m m'&&k.m k'&&v.m v'&&mpOk P t kk vk| .insert t m' k' v'=>o.dst.isNone&&m.m m'&&k.m k'&&v.m v'&&mpOk P t kk vk|_=>false)
 | .ml d m k kk vk ok,o=>(match o.op with| .lookup t m' k' ok'=>dstOk N d o&&ok==ok'&&m.m m'&&k.m k'&&mpOk P t kk vk|_=>false)
 | .g _ _ _,_=>false
end
theorem zeq_eq{a b:Value}(h:zeq a b=true):a=b:=by
 unfold zeq at h
 split at h<;>simp_all
 rename_i x y
 cases x;cases y;simp_all
theorem zeqs_eq:∀ {as bs:List Value},zeqs as bs=true->as=bs
 | [],[],_=>rfl
 | [],_::_,h=>by simp[zeqs]at h
 |_::_,[],h=>by simp[zeqs]at h
 |a::as,b::bs,h=>by
  simp only[zeqs,Bool.and_eq_true]at h
  rw[zeq_eq h.1,zeqs_eq h.2]
def Post(N:Nat)(G:Gd)(ow:Own)(w:World)(K:Env->Prop)(a':Act)(w':World):Prop:=
 ∃Γ' σ' ow',K Γ'∧Rep N G σ' ow' w' a' Γ'∧Ext ow w ow' w'
section
variable {P:Program} {S:FuncId->List SA->RA->Prop} {N:Nat} {G:Gd} {σ:Lab->Value} {ow:Own} {w:World} {a:Act} {Γ:Env} {K:Env->Prop} {Q:Exit->Act->World->Prop} {o:Oper}
theorem need_iff{α:Type}{x:Option α}{f:α->Prop}(h:need x f):∃y,x=some y∧f y:=by
 cases x with
 |none=>exact h.elim
 |some y=>exact⟨y,rfl,h⟩
theorem dst_of{N d:Nat}{o:Oper}(h:dstOk N d o=true):o.dst=some d∧d<N:=by
 simpa[dstOk]using h
theorem step_put(hr:Rep N G σ ow w a Γ){d:Nat}(hd:dstOk N d o=true){v:Value}{x:AV}(hrun:(execOp a.eval o).run P w= .ok (.value v) w)(hx:RepV σ (fz G ow w) w x v)(hk:K (Γ.put d x)):o.wp P a w (Post N G ow w K) Q:=by
 obtain⟨h1,h2⟩:=dst_of hd
 refine wp_value hrun ?_
 rw[h1]
 exact⟨_,σ,ow,hk,hr.put h2 hx,Ext.refl _ _⟩
theorem snd_mv(hr:Rep N G σ ow w a Γ){d x}(hm:I.m P N (.mv d x) o=true)(hv:vi S (.mv d x) Γ K):o.wp P a w (Post N G ow w K) Q:=by
 obtain⟨v,he,hk⟩:=need_iff hv
 simp only[I.m]at hm
 split at hm
 ·rename_i y hop
  simp only[Bool.and_eq_true]at hm
  exact step_put hr hm.1 (by simp[execOp,hop]) (ev_rep hr hm.2 he) hk
 ·rename_i y hop
  simp only[Bool.and_eq_true]at hm
  exact step_put hr hm.1 (by simp[execOp,hop]) (ev_rep hr hm.2 he) hk
 ·cases hm
theorem snd_nck(hr:Rep N G σ ow w a Γ){d x}(hm:I.m P N (.nck d x) o=true)(hv:vi S (.nck d x) Γ K):o.wp P a w (Post N G ow w K) Q:=by
 obtain⟨v,he,hk⟩:=need_iff hv
 simp only[I.m]at hm
 split at hm
 ·rename_i y hop
  simp only[Bool.and_eq_true]at hm
  have hx:=ev_rep hr hm.2 he
  split at hk
  ·rename_i c z
   obtain⟨q,rfl,hk⟩:=hk
   have hx':=hx
   obtain⟨ad,es,e,_⟩:=RepV_ptr_some.1 hx'
   exact step_put hr hm.1 (by simp[execOp,hop,e];rfl) (by rw[<-e];exact hx) hk
  ·rename_i l off
   obtain⟨b,hb,e⟩:=RepV_pt.1 hx
   exact step_put hr hm.1 (by simp[execOp,hop,e];rfl) (by rw[<-e];exact hx) hk
  ·obtain⟨g,n,cap,hb,h0,e⟩:=RepV_ep.1 hx
   exact step_put hr hm.1 (by simp[execOp,hop,e];rfl) (by rw[<-e];exact hx) hk
  ·exact hk.elim
 ·cases hm
theorem snd_un(hr:Rep N G σ ow w a Γ){d u x}(hm:I.m P N (.un d u x) o=true)(hv:vi S (.un d u x) Γ K):o.wp P a w (Post N G ow w K) Q:=by
 obtain⟨v,he,hk⟩:=need_iff hv
 obtain⟨r,hu,hk⟩:=need_iff hk
 simp only[I.m]at hm
 split at hm
 ·rename_i u' t y hop
  simp only[Bool.and_eq_true,beq_iff_eq]at hm
  obtain⟨⟨hd,rfl⟩,hy⟩:=hm
  have hx:=ev_rep hr hy he
  unfold vu at hu
  split at hu
  ·rename_i b
   cases hu
   have e:=RepV_bool.1 hx
   exact step_put hr hd (by simp[execOp,hop,e,Op.unary]) (RepV_bool.2 rfl) hk
  ·rename_i k n
   cases hu
   have e:=(RepV_int.1 hx).1
   have hw:inR k (k.wrap (-n)):=by
    unfold inR IntKind.min IntKind.max IntKind.wrap
    cases k<;>simp[IntKind.signed,IntKind.bits]<;>(try split)<;>omega
   exact step_put hr hd (by simp[execOp,hop,e,Op.unary,Op.intArith]) (RepV_int.2 ⟨rfl,hw⟩) hk
  ·cases hu
 ·cases hm
end
end Go.Q
namespace Go.Q
theorem wrap_inR(k:IntKind)(n:Int):inR k (k.wrap n):=by
 unfold inR IntKind.min IntKind.max IntKind.wrap
 cases k<;>simp[IntKind.signed,IntKind.bits]<;>(try split)<;>omega
section
variable {P:Program} {S:FuncId->List SA->RA->Prop} {N:Nat} {G:Gd} {σ:Lab->Value} {ow:Own} {w:World} {a:Act} {Γ:Env} {K:Env->Prop} {Q:Exit->Act->World->Prop} {o:Oper}
theorem exec_bi{b:BinOp}{t ty:TypeId}{x y:Operand}(hop:o.op= .binOp b t x y ty){r:Value}(hg:(eqGuard b t x y (a.eval x) (a.eval y)).run P w= .ok () w)(h:(binOp b t (a.eval x) (a.eval y)).run P w= .ok r w):
  (execOp a.eval o).run P w= .ok (.value r) w:=by
 simp[execOp,hop,hg,h]
theorem guard_int{b:BinOp}{t:TypeId}{x y:Operand}{k k':IntKind}{m n:Int}:(eqGuard b t x y (.int k m) (.int k' n)).run P w= .ok () w:=by
 unfold eqGuard;cases b<;>simp
theorem guard_bool{b:BinOp}{t:TypeId}{x y:Operand}{m n:Bool}:(eqGuard b t x y (.bool m) (.bool n)).run P w= .ok () w:=by
 unfold eqGuard;cases b<;>simp
theorem guard_str{b:BinOp}{t:TypeId}{x y:Operand}{m n:ByteArray}:(eqGuard b t x y (.string m) (.string n)).run P w= .ok () w:=by
 unfold eqGuard;cases b<;>simp
theorem run_div{t:TypeId}{k:IntKind}{m n:Int}(h1:inR k m)(h2:inR k n)(h:n≠0):(binOp .quo t (.int k m) (.int k n)).run P w= .ok (.int k (k.wrap (m.tdiv n))) w:=by
 simp[binOp,Op.intDiv,h]
theorem wrap_inside{k:IntKind}{n:Int}(h:inR k n):k.wrap n=n:=by
 unfold inR at h
 obtain⟨h1,h2⟩:=h
 cases k<;>simp[IntKind.wrap,IntKind.min,IntKind.max,IntKind.signed,IntKind.bits]at* <;>omega
theorem tmod_inR{k:IntKind}{m n:Int}(h1:inR k m)(h:n≠0):inR k (m.tmod n):=by
 have hm:(m.tmod n).natAbs<=m.natAbs:=by rw[Int.natAbs_tmod];exact Nat.mod_le _ _
 obtain⟨h1,h2⟩:=h1
 have h0:k.min<=0∧0<=k.max:=by cases k<;>exact⟨by decide,by decide⟩
 rcases Int.le_total 0 m with hp|hp
 ·have:=Int.tmod_nonneg n hp
  exact⟨by omega,by omega⟩
 ·have:m.tmod n<=0:=by
   have h5:=Int.tmod_nonneg n (a:= -m) (by omega)
   rw[Int.neg_tmod]at h5
   omega
  exact⟨by omega,by omega⟩
theorem run_mod{t:TypeId}{k:IntKind}{m n:Int}(h1:inR k m)(h2:inR k n)(h:n≠0):(binOp .rem t (.int k m) (.int k n)).run P w= .ok (.int k (k.wrap (m.tmod n))) w:=by
 rw[wrap_inside (tmod_inR h1 h)]
 simp[binOp,Op.intDiv,h]
theorem shr_inR{k:IntKind}{m n:Int}(h1:inR k m):inR k (ishr k m n):=by
 obtain⟨h1,h2⟩:=h1
 have h0:k.min<=0∧0<=k.max:=by cases k<;>exact⟨by decide,by decide⟩
 unfold ishr
 have hp:(0:Int)<2^min n.toNat k.bits:=Int.pow_pos (by decide)
 generalize (2:Int)^min n.toNat k.bits=q at hp
 have hd:=Int.mul_fdiv_add_fmod m q
 have hm1:=Int.fmod_nonneg_of_pos m hp
 have hm2:=Int.fmod_lt_of_pos m hp
 generalize m.fdiv q=d at hd⊢
 rcases Int.lt_or_le d 0 with hn|hn
 ·have:q*d<=1*d:=by
   have:=Int.mul_le_mul_of_nonpos_right (show(1:Int)<=q by omega) (show d<=0 by omega)
   exact this
  have e:m<q*(d+1):=by rw[Int.mul_add,Int.mul_one];omega
  have e2:q*(d+1)<=1*(d+1):=Int.mul_le_mul_of_nonpos_right (by omega) (by omega)
  exact⟨by omega,by omega⟩
 ·have:1*d<=q*d:=Int.mul_le_mul_of_nonneg_right (by omega) hn
  exact⟨by omega,by omega⟩
theorem run_shr{t:TypeId}{k k':IntKind}{m n:Int}(h:0<=n):(binOp .shr t (.int k m) (.int k' n)).run P w= .ok (.int k (ishr k m n)) w:=by
 have h':¬n<0:=by omega
 simp[binOp,Op.shift,ishr,h']
theorem run_cat{t:TypeId}{m n:Str}(h:m.length+n.length<=9223372036854775807):(binOp .add t (.string ⟨m.toArray⟩) (.string ⟨n.toArray⟩)).run P w= .ok (.string ⟨(m++n).toArray⟩) w:=by
 have e:(⟨m.toArray⟩:ByteArray)++⟨n.toArray⟩=⟨(m++n).toArray⟩:=by
  apply ByteArray.ext
  simp
 have h1:¬(((⟨m.toArray⟩:ByteArray).size+(⟨n.toArray⟩:ByteArray).size:Nat):Int)>IntKind.i64.max:=by
  simp[ByteArray.size,IntKind.max,IntKind.signed,IntKind.bits];omega
 simp only[binOp_string_add,Op.stringOp,if_neg h1,e]
 rfl
theorem snd_bi(hr:Rep N G σ ow w a Γ){d b x y}(hm:I.m P N (.bi d b x y) o=true)(hv:vi S (.bi d b x y) Γ K):o.wp P a w (Post N G ow w K) Q:=by
 obtain⟨u,he,hk⟩:=need_iff hv
 obtain⟨v,he',hk⟩:=need_iff hk
 simp only[I.m]at hm
 split at hm
 ·rename_i b' t x' y' ty hop
  simp only[Bool.and_eq_true,beq_iff_eq]at hm
  obtain⟨⟨⟨hd,rfl⟩,hx⟩,hy⟩:=hm
  have rx:=ev_rep hr hx he
  have ry:=ev_rep hr hy he'
  unfold vb at hk
  split at hk
  all_goals first
   |exact hk.elim
   |(obtain⟨rfl,hn0,hk⟩:=hk
     have e1:=(RepV_int.1 rx).1
     have e2:=(RepV_int.1 ry).1
     exact step_put hr hd (exec_bi hop (by rw[e1,e2];exact guard_int) (by rw[e1,e2];exact run_div (RepV_int.1 rx).2 (RepV_int.1 ry).2 hn0)) (RepV_int.2 ⟨rfl,wrap_inR _ _⟩) hk)
   |(obtain⟨rfl,hn0,hk⟩:=hk
     have e1:=(RepV_int.1 rx).1
     have e2:=(RepV_int.1 ry).1
     exact step_put hr hd (exec_bi hop (by rw[e1,e2];exact guard_int) (by rw[e1,e2];exact run_mod (RepV_int.1 rx).2 (RepV_int.1 ry).2 hn0)) (RepV_int.2 ⟨rfl,wrap_inR _ _⟩) hk)
   |(obtain⟨rfl,hk⟩:=hk
     have e1:=(RepV_int.1 rx).1
     have e2:=(RepV_int.1 ry).1
     first
     |exact step_put hr hd (exec_bi hop (by rw[e1,e2];exact guard_int) (by rw[e1,e2];first|(simp[binOp,Op.intArith];done)|(simp[binOp,Op.intArith];rfl))) (RepV_int.2 ⟨rfl,wrap_inR _ _⟩) hk
     |exact step_put hr hd (exec_bi hop (by rw[e1,e2];exact guard_int) (by rw[e1,e2];first|(simp[binOp,Op.intBits,iand];done)|(simp[binOp,Op.intBits,ixor];done)|(simp[binOp,Op.intBits,iand];rfl)|(simp[binOp,Op.intBits,ixor];rfl))) (RepV_int.2 ⟨rfl,wrap_inR _ _⟩) hk
     |exact step_put hr hd (exec_bi hop (by rw[e1,e2];exact guard_int) (by rw[e1,e2];first|(simp[binOp,Op.intCmp];done)|(simp[binOp,Op.intCmp];rfl))) (RepV_bool.2 rfl) hk)
   |(obtain⟨hle,hk⟩:=hk
     have e1:=(RepV_int.1 rx).1
     have e2:=(RepV_int.1 ry).1
     exact step_put hr hd (exec_bi hop (by rw[e1,e2];exact guard_int) (by rw[e1,e2];exact run_shr hle)) (RepV_int.2 ⟨rfl,shr_inR (RepV_int.1 rx).2⟩) hk)
   |(obtain⟨hle,hk⟩:=hk
     have e1:=(RepV_str.1 rx).1
     have e2:=(RepV_str.1 ry).1
     exact step_put hr hd (exec_bi hop (by rw[e1,e2];exact guard_str) (by rw[e1,e2];exact run_cat hle)) (RepV_str.2 ⟨by simp,by simpa[maxLen]using hle⟩) hk)
   |(have e1:=(RepV_str.1 rx).1
     have e2:=(RepV_str.1 ry).1
     exact step_put hr hd (exec_bi hop (by rw[e1,e2];exact guard_str) (by rw[e1,e2];first|(simp[binOp,Op.stringOp];done)|(simp[binOp,Op.stringOp];rfl))) (RepV_bool.2 rfl) hk)
 ·cases hm
theorem snd_be(hr:Rep N G σ ow w a Γ){d ne x y}(hm:I.m P N (.be d ne x y) o=true)(hv:vi S (.be d ne x y) Γ K):o.wp P a w (Post N G ow w K) Q:=by
 obtain⟨u,he,hk⟩:=need_iff hv
 simp only[I.m]at hm
 split at hm
 ·rename_i b' t x' y' ty hop
  simp only[Bool.and_eq_true]at hm
  obtain⟨⟨⟨⟨hd,hb⟩,hx⟩,hy⟩,ht⟩:=hm
  split at hk
  ·rename_i m
   obtain⟨v,he',hk⟩:=need_iff hk
   split at hk
   ·rename_i n
    have e1:=RepV_bool.1 (ev_rep hr hx he)
    have e2:=RepV_bool.1 (ev_rep hr hy he')
    have hu:P.underlying t=some .bool:=by simp only[tk1]at ht;split at ht<;>simp_all
    cases ne with
    |true=>
     simp only[if_true,beq_iff_eq]at hb hk
     subst hb
     exact step_put hr hd (exec_bi hop (by rw[e1,e2];exact guard_bool) (by rw[e1,e2];first|(simp[binOp,run_equal_bool w t m n hu];done)|(simp[binOp,run_equal_bool w t m n hu];rfl))) (RepV_bool.2 rfl) hk
    |false=>
     simp only[Bool.false_eq_true,if_false,beq_iff_eq]at hb hk
     subst hb
     exact step_put hr hd (exec_bi hop (by rw[e1,e2];exact guard_bool) (by rw[e1,e2];first|(simp[binOp,run_equal_bool w t m n hu];done)|(simp[binOp,run_equal_bool w t m n hu];rfl))) (RepV_bool.2 rfl) hk
   ·exact hk.elim
  ·exact hk.elim
 ·cases hm
theorem snd_pk(hr:Rep N G σ ow w a Γ){d c x y}(hm:I.m P N (.pk d c x y) o=true)(hv:vi S (.pk d c x y) Γ K):o.wp P a w (Post N G ow w K) Q:=by
 obtain⟨u,he,hk⟩:=need_iff hv
 simp only[I.m]at hm
 split at hm
 ·rename_i c' x' y' hop
  simp only[Bool.and_eq_true]at hm
  obtain⟨⟨⟨hd,hc⟩,hx⟩,hy⟩:=hm
  split at hk
  ·rename_i b
   have e:=RepV_bool.1 (ev_rep hr hc he)
   cases b with
   |true=>
    obtain⟨v,he',hk⟩:=need_iff (hk.1 rfl)
    exact step_put hr hd (by simp[execOp,hop,e,asBool]) (ev_rep hr hx he') hk
   |false=>
    obtain⟨v,he',hk⟩:=need_iff (hk.2 rfl)
    exact step_put hr hd (by simp[execOp,hop,e,asBool]) (ev_rep hr hy he') hk
  ·exact hk.elim
 ·cases hm
end
end Go.Q
namespace Go.Q
theorem add_spot(b o n:Nat):(⟨b,o,none⟩:Addr).add n=⟨b,o+n,none⟩:=by unfold Addr.add;split<;>simp_all
theorem add_add(ad:Addr)(m n:Nat):(ad.add m).add n=ad.add (m+n):=by
 unfold Addr.add
 by_cases h1:m=0<;>by_cases h2:n=0<;>simp[h1,h2,Nat.add_assoc]
theorem add_block(ad:Addr)(n:Nat):(ad.add n).block=ad.block:=by unfold Addr.add;split<;>rfl
theorem Cells.part{w:World}{ad:Addr}{es a b c:List Value}(h:Cells w ad es)(e:es=a++b++c):Cells w (ad.add a.length) b:=by
 intro j u hj
 rw[add_add]
 refine h _ _ ?_
 have hlt:j<b.length:=(List.getElem?_eq_some_iff.1 hj).1
 subst e
 rw[List.append_assoc,List.getElem?_append_right (by omega),Nat.add_sub_cancel_left,List.getElem?_append_left hlt]
 exact hj
theorem HAll.field{Pr:(c:Ki)->c.T->List Value->Prop}:∀ {cs:List Ki} {h:HL cs} {v:List Value} {j:Nat} {c:Ki} {x:c.T},HAll Pr cs h v->hget cs h j=some (.v c x)->
  ∃a b r,v=a++b++r∧a.length=foff cs j∧b.length=c.sz∧Pr c x b
 | [],_,_,j,_,_,_,hg=>by simp[hget]at hg
 |c::cs,h,v,0,c',x,⟨a,b,e,hl,hp,hr⟩,hg=>by
  simp only[hget,Option.some.injEq,AV.v.injEq]at hg
  obtain⟨rfl,hx⟩:=hg
  obtain rfl:=eq_of_heq hx
  exact⟨[],a,b,by simpa using e,rfl,hl,hp⟩
 |c::cs,h,v,j+1,c',x,⟨a,b,e,hl,hp,hr⟩,hg=>by
  simp only[hget]at hg
  obtain⟨a',b',r,e',h1,h2,h3⟩:=HAll.field hr hg
  exact⟨a++a',b',r,by rw[e,e'];simp,by simp[foff,hl,h1],h2,h3⟩
section
variable {P:Program} {S:FuncId->List SA->RA->Prop} {N:Nat} {G:Gd} {σ:Lab->Value} {ow:Own} {w:World} {a:Act} {Γ:Env} {K:Env->Prop} {Q:Exit->Act->World->Prop} {o:Oper}
theorem run_fieldAt{s:TypeId}{n j off:Nat}(h:fOk P s n j off=true)(ad:Addr):(Instr.fieldAt s (.pointer (some ad)) j).run P w= .ok (.pointer (some (ad.add off))) w∧off=foff (flds n) j:=by
 unfold fOk at h
 split at h
 ·rename_i fs hu
  split at h
  ·rename_i f hf
   simp only[Bool.and_eq_true,beq_iff_eq,bne_iff_ne]at h
   obtain⟨⟨h1,h2⟩,h3⟩:=h
   split at h3
   ·rename_i i hi
    have h3':i.size≠0:=by simpa using h3
    exact⟨by simp[Instr.fieldAt,run_underlying hu,hf,Instr.sureAddr,fieldPlace,sizeOf,typeInfo,hi,h3',h1],h2⟩
   ·cases h3
  ·cases h
 ·cases h
theorem snd_fa(hr:Rep N G σ ow w a Γ){d x n j off}(hm:I.m P N (.fa d x n j off) o=true)(hv:vi S (.fa d x n j off) Γ K):o.wp P a w (Post N G ow w K) Q:=by
 obtain⟨u,he,hk⟩:=need_iff hv
 simp only[I.m]at hm
 split at hm
 ·rename_i s x' f hop
  simp only[Bool.and_eq_true,beq_iff_eq]at hm
  obtain⟨⟨⟨hd,hx⟩,rfl⟩,hf⟩:=hm
  have rx:=ev_rep hr hx he
  split at hk
  ·rename_i m z
   obtain⟨y,rfl,hk1⟩:=hk
   obtain⟨av,hg,hk2⟩:=need_iff hk1
   clear hk1
   split at hk2
   ·rename_i c q
    obtain⟨rfl,hk⟩:=hk2
    obtain⟨ad,es,e,hF,hl,hc,hK⟩:=RepV_ptr_some.1 rx
    obtain⟨a',b',r,e1,h1,h2,h3⟩:=HAll.field (Kx_struct.1 hK) hg
    obtain⟨hrun,ho⟩:=run_fieldAt (w:=w) hf ad
    refine step_put hr hd (by simp[execOp,hop,e,hrun];rfl) (RepV_ptr_some.2 ⟨_,b',rfl,?_,h2,?_,h3⟩) hk
    ·rw[add_block];exact hF
    ·rw[ho,<-h1];exact hc.part e1
   ·exact hk2.elim
  ·rename_i l o'
   obtain⟨b,hb,e⟩:=RepV_pt.1 rx
   obtain⟨hrun,ho⟩:=run_fieldAt (w:=w) hf ⟨b,o',none⟩
   exact step_put hr hd (by simp[execOp,hop,e,hrun];rfl) (RepV_pt.2 ⟨b,hb,by rw[add_spot]⟩) hk
  ·rename_i l c i o'
   obtain⟨g,n',cap,hb,h0,e⟩:=RepV_ep.1 rx
   obtain⟨hrun,ho⟩:=run_fieldAt (w:=w) hf ⟨g,i.toNat*c.sz+o',none⟩
   exact step_put hr hd (by simp[execOp,hop,e,hrun];rfl) (RepV_ep.2 ⟨g,n',cap,hb,h0,by rw[add_spot,Nat.add_assoc]⟩) hk
  ·exact hk.elim
 ·cases hm
theorem eOk_elem{t:TypeId}{c:Ki}(h:eOk P t c=true):∃e,P.underlying t=some (.slice e)∧tsz P e c.sz=true:=by
 unfold eOk at h
 split at h
 ·exact⟨_,by assumption,h⟩
 ·cases h
theorem run_indexAt{t:TypeId}{c:Ki}(h:eOk P t c=true)(ad:Addr)(len cap:Nat)(k:IntKind)(i:Int)(h0:0<=i)(h1:i<len):(Instr.indexAt t (.slice (some ad) len cap) (.int k i)).run P w= .ok (.pointer (some (ad.add (i.toNat*c.sz)))) w:=by
 obtain⟨e,hu,hs⟩:=eOk_elem h
 simp[Instr.indexAt,run_underlying hu,asIntOf,h0,h1,tsz_run hs]
theorem gt_eq{α:Type}(xs:List α)(i:Int)(z:α)(h0:0<=i)(h1:i<xs.length):∃h:i.toNat<xs.length,gt xs i z=xs[i.toNat]:=by
 have h:i.toNat<xs.length:=by omega
 exact⟨h,by simp[gt,List.getD_eq_getElem?_getD,List.getElem?_eq_getElem h]⟩
theorem snd_ia(hr:Rep N G σ ow w a Γ){d x y c}(hm:I.m P N (.ia d x y c) o=true)(hv:vi S (.ia d x y c) Γ K):o.wp P a w (Post N G ow w K) Q:=by
 obtain⟨u,he,hk1⟩:=need_iff hv
 obtain⟨u',he',hk⟩:=need_iff hk1
 clear hk1 hv
 simp only[I.m]at hm
 split at hm
 ·rename_i t x' y' hop
  simp only[Bool.and_eq_true]at hm
  obtain⟨⟨⟨hd,hx⟩,hy⟩,ht⟩:=hm
  have rx:=ev_rep hr hx he
  have ry:=ev_rep hr hy he'
  split at hk
  ·rename_i k n
   have e2:=(RepV_int.1 ry).1
   split at hk
   ·rename_i c' xs
    obtain⟨rfl,h0,h1,hk2⟩:=hk
    obtain⟨A,cap,e1,h2,h3,h4⟩:=RepV_slice.1 rx
    obtain⟨hi,hg⟩:=gt_eq (α:=c'.T) xs n c'.z h0 h1
    obtain⟨ad,es,rfl,hF,hl,hc,hK⟩:=h4 n.toNat hi
    refine step_put hr hd (by simp[execOp,hop,e1,e2,run_indexAt ht ad _ _ k n h0 h1];first|done|rfl) (RepV_ptr_some.2 ⟨_,es,rfl,?_,hl,hc,?_⟩) hk2
    ·rw[add_block];exact hF
    ·rw[hg];exact hK
   ·rename_i l
    obtain⟨ob,hl,hk2⟩:=need_iff hk
    clear hk
    split at hk2
    ·rename_i dp pin c' xs
     obtain⟨rfl,h0,h1,hk⟩:=hk2
     obtain⟨A,n',cap,hs,e1⟩:=RepV_sl.1 rx
     obtain⟨bs,hrow,_,_⟩:=hr.ob _ _ hl
     have hrow':(∃g cap,σ l= .slice (some ⟨g,0,none⟩) xs.length cap):=by
      unfold RowO at hrow
      split at hrow<;>(rcases hrow with⟨h,hx,_⟩|⟨g,cap,cur,e,rest,h,_⟩)
      ·rw[hx]at h1;simp at h1;omega
      ·exact⟨g,cap,h⟩
      ·rw[hx]at h1;simp at h1;omega
      ·exact⟨g,cap,h⟩
     obtain⟨g,cap',hs'⟩:=hrow'
     rw[hs]at hs'
     cases hs'
     refine step_put hr hd (by simp[execOp,hop,e1,e2,run_indexAt ht ⟨g,0,none⟩ _ _ k n h0 h1];rfl) (RepV_ep.2 ⟨g,_,_,hs,h0,?_⟩) hk
     rw[add_spot];simp
    ·exact hk2.elim
   ·exact hk.elim
  ·exact hk.elim
 ·cases hm
end
end Go.Q
namespace Go.Q
section
variable {P:Program} {S:FuncId->List SA->RA->Prop} {N:Nat} {G:Gd} {σ:Lab->Value} {ow:Own} {w:World} {a:Act} {Γ:Env} {K:Env->Prop} {Q:Exit->Act->World->Prop} {o:Oper} {F:Nat->Prop}
theorem RepCs.get:∀ {ls:List AV} {cs:List Value},RepCs σ F w ls cs->∀ {i:Nat} {x:AV},ls[i]? =some x->∃u,cs[i]? =some u∧RepC σ F w x [u]
 | [],_,_,i,_,h=>by simp at h
 |a::as,cs,h,0,x,hx=>by
  simp only[RepCs]at h
  obtain⟨u,us,rfl,h1,h2⟩:=h
  cases hx
  exact⟨u,rfl,h1⟩
 |a::as,cs,h,i+1,x,hx=>by
  simp only[RepCs]at h
  obtain⟨u,us,rfl,h1,h2⟩:=h
  exact RepCs.get h2 (i:=i) (by simpa using hx)
theorem RepCs.length:∀ {ls:List AV} {cs:List Value},RepCs σ F w ls cs->cs.length=ls.length
 | [],_,h=>by simp only[RepCs]at h;simp[h]
 |a::as,cs,h=>by
  simp only[RepCs]at h
  obtain⟨u,us,rfl,h1,h2⟩:=h
  simp[RepCs.length h2]
theorem RepCs.drop:∀ {ls:List AV} {cs:List Value} (n:Nat),RepCs σ F w ls cs->RepCs σ F w (ls.drop n) (cs.drop n)
 | [],cs,n,h=>by simp only[RepCs]at h;subst h;simp[RepCs]
 |a::as,cs,0,h=>by simpa using h
 |a::as,cs,n+1,h=>by
  simp only[RepCs]at h
  obtain⟨u,us,rfl,h1,h2⟩:=h
  simpa using RepCs.drop n h2
theorem RepCs.take:∀ {ls:List AV} {cs:List Value} (n:Nat),RepCs σ F w ls cs->RepCs σ F w (ls.take n) (cs.take n)
 | [],cs,n,h=>by simp only[RepCs]at h;subst h;simp[RepCs]
 |a::as,cs,0,h=>by simp[RepCs]
 |a::as,cs,n+1,h=>by
  simp only[RepCs]at h
  obtain⟨u,us,rfl,h1,h2⟩:=h
  simp only[List.take_succ_cons,RepCs]
  exact⟨u,us.take n,rfl,h1,RepCs.take n h2⟩
theorem RepCs.append:∀ {ls ls':List AV} {cs cs':List Value},RepCs σ F w ls cs->RepCs σ F w ls' cs'->RepCs σ F w (ls++ls') (cs++cs')
 | [],_,_,_,h,h'=>by simp only[RepCs]at h;subst h;simpa using h'
 |a::as,_,_,_,h,h'=>by
  simp only[RepCs]at h
  obtain⟨u,us,rfl,h1,h2⟩:=h
  simp only[List.cons_append,RepCs]
  exact⟨u,_,rfl,h1,RepCs.append h2 h'⟩
theorem RepCs.setAt:∀ {ls xs:List AV} {cs us:List Value} (k:Nat),RepCs σ F w ls cs->RepCs σ F w xs us->k+us.length<=cs.length->RepCs σ F w (setAt ls k xs) (cs.take k++us++cs.drop (k+us.length))
 |ls,[],cs,us,k,h,h',hl=>by
  simp only[RepCs]at h'
  subst h'
  have e:Q.setAt ls k []=ls:=by cases ls<;>cases k<;>rfl
  rw[e];simpa using h
 | [],x::xs,cs,us,k,h,h',hl=>by
  simp only[RepCs]at h h'
  obtain⟨u,us',rfl,h1,h2⟩:=h'
  subst h
  simp at hl
 |l::ls,x::xs,cs,us,0,h,h',hl=>by
  simp only[RepCs]at h h'
  obtain⟨u,us',rfl,h1,h2⟩:=h'
  obtain⟨c,cs',rfl,h3,h4⟩:=h
  have:=RepCs.setAt 0 h4 h2 (by simp at hl⊢;omega)
  simp only[Q.setAt,RepCs]
  refine⟨u,us'++cs'.drop us'.length,by simp,h1,by simpa using this⟩
 |l::ls,x::xs,cs,us,k+1,h,h',hl=>by
  have h0:=h
  simp only[RepCs]at h
  obtain⟨c,cs',rfl,h3,h4⟩:=h
  have:=RepCs.setAt (xs:=x::xs) k h4 h' (by simp at hl⊢;omega)
  simp only[Q.setAt,RepCs]
  refine⟨c,_,?_,h3,this⟩
  simp[Nat.add_right_comm]
theorem Cells_box{b:Nat}{cs:Array Value}{e:TypeId}{fr:Nat×Nat}(hg:w.heap[b]? =some (.cells cs e fr))(off:Nat)(es:List Value)(h:∀j u,es[j]? =some u->cs[off+j]? =some u):Cells w ⟨b,off,none⟩ es:=by
 intro j u hj
 rw[add_spot]
 simp[World.cell?,hg,h j u hj]
theorem isS_sz{c:Ki}(h:c.isS=false):c.sz=1:=by cases c<;>simp_all[Ki.sz,Ki.isS]
theorem RepV_of_K{c:Ki}{x:c.T}{es:List Value}(h:Kx F w c x es):RepV σ F w (.v c x) (valOf c es):=by
 have hl:=h.len
 cases hs:c.isS with
 |true=>
  cases c<;>simp[Ki.isS]at hs
  simp only[RepV,RepU,AV.isS,if_true,valOf,Ki.isS]
  exact⟨es,rfl,by simpa[RepC]using h⟩
 |false=>
  have h1:=isS_sz hs
  obtain⟨e,rfl⟩:∃e,es=[e]:=List.length_eq_one_iff.1 (hl.trans h1)
  have hv:valOf c [e]=e:=by simp[valOf,hs]
  rw[hv]
  have hns:AV.isS (.v c x)=false:=by cases c<;>simp_all[AV.isS,Ki.isS]
  simp only[RepV,RepU,hns,Bool.false_eq_true,if_false,RepC]
  exact h
theorem RepV_leaf{x:AV}{u:Value}(h:RepC σ F w x [u])(hns:x.isS=false):RepV σ F w x u:=by
 cases x with
 |tu vs=>simp[RepC]at h
 |_=>simp only[RepV,RepU,hns,Bool.false_eq_true,if_false];exact h
theorem row_form{deep:Bool}{c:Ki}{xs:List c.T}{v:Value}{bs:List Nat}(h:RowO w F deep c xs v bs):∃A cap,v= .slice A xs.length cap∧xs.length<=cap∧cap<=maxLen:=by
 unfold RowO at h
 split at h<;>(rcases h with⟨h,hx,_⟩|⟨g,cap,cur,e,rest,h,_,h1,h2,_⟩)
 ·obtain⟨A,h⟩:=h;exact⟨A,0,by rw[h,hx];rfl,by simp[hx],by simp[maxLen]⟩
 ·exact⟨_,cap,h,h1,h2⟩
 ·obtain⟨A,h⟩:=h;exact⟨A,0,by rw[h,hx];rfl,by simp[hx],by simp[maxLen]⟩
 ·exact⟨_,cap,h,h1,h2⟩
theorem row_cell1{deep:Bool}{c:Ki}{xs:List c.T}{g n cap:Nat}{bs:List Nat}(h:RowO w F deep c xs (.slice (some ⟨g,0,none⟩) n cap) bs)(i:Nat)(hi:i<xs.length):
  ∃es,es.length=c.sz∧Cells w ⟨g,i*c.sz,none⟩ es∧Kx (fun b=>F b∨b∈bs) w c xs[i] es:=by
 have key:RowK (fun b=>F b∨b∈bs) w c.sz (Kx (fun b=>F b∨b∈bs) w c) xs [.slice (some ⟨g,0,none⟩) n cap]:=by
  unfold RowO at h
  split at h
  ·exact h.read (fun b hb=>.inr hb) fun x a p hs hp=>hp.read fun b hb=>.inr (hs b hb)
  ·exact h.read (fun b hb=>.inr hb) fun x a p hs hp=>hp.1.keep fun b hb=>⟨.inl hb,rfl⟩
 obtain⟨A,cap',e,_,_,h3⟩:=key
 obtain⟨ad,es,hA,_,hl,hc,hk⟩:=h3 i hi
 simp only[List.cons.injEq,Value.slice.injEq,and_true]at e
 obtain⟨rfl,_,_⟩:=e
 cases hA
 rw[add_spot]at hc
 exact⟨es,hl,by simpa using hc,hk⟩
theorem snd_ld(hr:Rep N G σ ow w a Γ){d x c}(hm:I.m P N (.ld d x c) o=true)(hv:vi S (.ld d x c) Γ K):o.wp P a w (Post N G ow w K) Q:=by
 obtain⟨u,he,hk⟩:=need_iff hv
 clear hv
 simp only[I.m]at hm
 split at hm
 ·rename_i t x' hop
  simp only[Bool.and_eq_true]at hm
  obtain⟨⟨hd,hx⟩,ht⟩:=hm
  have rx:=ev_rep hr hx he
  split at hk
  ·rename_i c' z
   obtain⟨y,rfl,rfl,hk2⟩:=hk
   obtain⟨ad,es,e,hF,hl,hc,hK⟩:=RepV_ptr_some.1 rx
   have hrun:=run_load_cells ht w ad es hl hc
   exact step_put hr hd (by simp[execOp,hop,e,hrun]) (RepV_of_K hK) hk2
  ·rename_i l off
   obtain⟨ob,hl,hk2⟩:=need_iff hk
   clear hk
   split at hk2
   ·rename_i ls
    obtain⟨b,e,cs,hs,hg,hown,hreps⟩:=hr.ob _ _ hl
    obtain⟨b',hs',eu⟩:=RepV_pt.1 rx
    rw[hs]at hs'
    cases hs'
    split at hk2
    ·rename_i n
     obtain⟨hlen,hk3⟩:=hk2
     have hcs:cs.toList.length=ls.length:=hreps.length
     have hsz:((cs.toList.drop off).take (ssz n)).length=(Ki.struct n).sz:=by simp[Ki.sz]at hcs⊢;omega
     have hrun:=run_load_cells ht w ⟨b,off,none⟩ ((cs.toList.drop off).take (ssz n)) hsz (Cells_box hg off _ fun j u hj=>by
      rw[List.getElem?_take]at hj
      split at hj
      ·simpa[List.getElem?_drop]using hj
      ·cases hj)
     refine step_put hr hd (by simp[execOp,hop,eu,hrun];rfl) ?_ hk3
     simp only[RepV,RepU,AV.isS,if_true,valOf,Ki.isS,RepC]
     exact⟨_,rfl,by simp;omega,(hreps.drop off).take _⟩
    ·rename_i hns
     obtain⟨lf,hlf,hleaf,hk3⟩:=hk2
     obtain⟨u,hu,hru⟩:=hreps.get hlf
     have hcS:c.isS=false:=by cases c<;>simp_all[Ki.isS]
     have hrun:=run_load_cells ht w ⟨b,off,none⟩ [u] (by simp[isS_sz hcS]) (Cells_box hg off _ fun j v hj=>by
      cases j with
      |zero=>simp at hj;subst hj;simpa using hu
      |succ j=>simp at hj)
     have hvo:valOf c [u]=u:=by simp[valOf,hcS]
     rw[hvo]at hrun
     refine step_put hr hd (by simp[execOp,hop,eu,hrun]) (RepV_leaf hru ?_) hk3
     cases lf<;>simp_all[AV.leaf,AV.isS]
     rename_i c' x'
     cases c'<;>simp_all
   ·exact hk2.elim
  ·rename_i l c' i
   obtain⟨ob,hl,hk2⟩:=need_iff hk
   clear hk
   split at hk2
   ·rename_i dp pin c2 xs
    obtain⟨rfl,rfl,hflat,h0,h1,hk3⟩:=hk2
    obtain⟨bs,hrow,_,_⟩:=hr.ob _ _ hl
    obtain⟨g,n,cap,hs,_,eu⟩:=RepV_ep.1 rx
    rw[hs]at hrow
    obtain⟨hi,hg⟩:=gt_eq (α:=c2.T) xs i c2.z h0 h1
    obtain⟨es,hes,hc,hK⟩:=row_cell1 hrow i.toNat hi
    have hrun:=run_load_cells ht w ⟨g,i.toNat*c2.sz,none⟩ es hes hc
    have hK':Kx (fz G ow w) w c2 xs[i.toNat] es:=by
     cases c2<;>simp[Ki.flat]at hflat
     ·exact Kx_int.2 (Kx_int.1 hK)
     ·exact Kx_bool.2 (Kx_bool.1 hK)
     ·exact Kx_str.2 (Kx_str.1 hK)
    exact step_put hr hd (by simp[execOp,hop,eu,hrun];rfl) (by rw[hg];exact RepV_of_K hK') hk3
   ·exact hk2.elim
  ·exact hk.elim
 ·cases hm
end
end Go.Q
