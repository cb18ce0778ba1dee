/- Draws of types, and types: the reference's side. -/
import Derived.Test.YteidofmblfglkaaQe
import Derived.Test.YteidofmblfglkaaProg
import Derived.KernelRfl
set_option linter.unusedVariables false
set_option linter.unusedSimpArgs false
namespace Go.Q
open Go.Proofs
set_option maxRecDepth 20000
set_option maxHeartbeats 4000000
def ir_ZX:C:=.sq (.rg [.al 0 (kR 0)]) (.sq (.rg [.bd 1 0 [(0,1,(.i 1))],.st T0 T1 (kR 0)]) .rt)
noncomputable abbrev T_ZX(nf:Nat):XT:=[]
noncomputable def m_ZX(nf:Nat):Option (Ty):=runF (T_ZX nf) nf [] [.c 0 (.o (kR 0))] ir_ZX (())
theorem m_ZX_eq(nf:Nat):m_ZX nf=(some (Ty.mk (1:Int) ([]:List Str) ([]:List Ty))):=by kernel_rfl
noncomputable def e_ZX(nf:Nat):XE:=eF 74 [] [.o (kR 0)] (fun t=>m_ZX nf)
theorem o_ZX(nf:Nat):conOK Try.prog 74 (e_ZX nf).con:=by
 have ih:XT.ok Try.prog (T_ZX nf):=by exact trivial
 refine eF_ok fun t x h=> ?_
 exact runF_ok (N:=2) ih Try.func74 (by kernel_rfl) rfl h
end Go.Q
