/-
  NARROWER THAN 'FOR EVERY INPUT', by the rows' own cells (each row's printed sentence says how): FnExactIsPlan: loops · FnExactIsFlat: loops · FnExactIsNormal: loops.
  DERIVED. THE GIVEN ROWS OF THIS SEAT. 3 by the template 'for every input the law returns true; each argument reads behind the call as it read before'; 0 by the template 'total and deterministic' (their statements: YtmkelbchboiliaaGreatTotals.lean).
  GIVEN WITH THE SEED: the statements are not yours to turn. If you find one false, say at which input.
  Laid BY PROGRAM, IN A SANDBOX (cutbox-rows.mjs): the forced cells as the released guide's own fill.sh prints them over the translation 93bf54865a290ac2… (all of the seat's roots in one cut). By AI agents, Wed Nov 11 2026. No macro, syntax, notation, axiom, sorry.
-/
import Derived.Test.YtmkelbchboiliaaGreatChecked
import GoSem.Claim
import GoSem.ClaimJoined
import GoSem.ClaimMapViews
import Derived.JoinedTies
import Derived.KernelRfl
namespace Go.Proofs.YtmkelbchboiliaaGreat
/- THE CELL 'sum', in the pinned program and in every row, IS THE sha256 OF THE DUMP (.gsa) THAT YtmkelbchboiliaaGreatProg.lean LOADS. Nothing in Lean hashes anything: it is a label: what it is worth is what the hold of that sum in a sandbox is worth. -/
noncomputable def Tryz.pinned : Pinned := { name := "ytmkelbchboiliaagreat", sum := "93bf54865a290ac21dd745dc02ddf9d8d49e84ebf4ceb833d6a17b7122932161", checked := Tryz.checked }
namespace Rows
def none {H : Type} : Left H := { results := [], args := [] }

/-- 'laws.FnExactIsPlan': WHATEVER THE INPUT: true; the input reads as it did. -/
def fnExactIsPlanSpec : ChangeSpec := { name := "fnExactIsPlan", fn := fun _ => fun
  | [d1, d2] => { results := [.lit (.bool true)], args := [d1, d2] }
  | _ => none }
def fnExactIsPlanRow : OpenClaim := { program := "ytmkelbchboiliaagreat", sum := "93bf54865a290ac21dd745dc02ddf9d8d49e84ebf4ceb833d6a17b7122932161", func := "loop.example/g00587/laws.FnExactIsPlan", spec := "fnExactIsPlan", unfollowed := true, recurses := true, loops := true, apart := false }
def FnExactIsPlanSaid : Prop := fnExactIsPlanRow.holds Tryz.pinned (OpenSpec.ofChange fnExactIsPlanSpec)

/-- ITS FALSE NEIGHBOUR: 'it returns false'. Refute it at one input. -/
def fnExactIsPlanWrong : ChangeSpec := { name := "fnExactIsPlan", fn := fun _ => fun
  | [d1, d2] => { results := [.lit (.bool false)], args := [d1, d2] }
  | _ => none }
def FnExactIsPlanWrongFalsely : Prop := fnExactIsPlanRow.holds Tryz.pinned (OpenSpec.ofChange fnExactIsPlanWrong)

/-- 'laws.FnExactIsFlat': WHATEVER THE INPUT: true; the input reads as it did. -/
def fnExactIsFlatSpec : ChangeSpec := { name := "fnExactIsFlat", fn := fun _ => fun
  | [d1, d2, d3] => { results := [.lit (.bool true)], args := [d1, d2, d3] }
  | _ => none }
def fnExactIsFlatRow : OpenClaim := { program := "ytmkelbchboiliaagreat", sum := "93bf54865a290ac21dd745dc02ddf9d8d49e84ebf4ceb833d6a17b7122932161", func := "loop.example/g00587/laws.FnExactIsFlat", spec := "fnExactIsFlat", unfollowed := true, recurses := true, loops := true, apart := false }
def FnExactIsFlatSaid : Prop := fnExactIsFlatRow.holds Tryz.pinned (OpenSpec.ofChange fnExactIsFlatSpec)

/-- ITS FALSE NEIGHBOUR: 'it returns false'. Refute it at one input. -/
def fnExactIsFlatWrong : ChangeSpec := { name := "fnExactIsFlat", fn := fun _ => fun
  | [d1, d2, d3] => { results := [.lit (.bool false)], args := [d1, d2, d3] }
  | _ => none }
def FnExactIsFlatWrongFalsely : Prop := fnExactIsFlatRow.holds Tryz.pinned (OpenSpec.ofChange fnExactIsFlatWrong)

/-- 'laws.FnExactIsNormal': WHATEVER THE INPUT: true; the input reads as it did. -/
def fnExactIsNormalSpec : ChangeSpec := { name := "fnExactIsNormal", fn := fun _ => fun
  | [d1, d2, d3] => { results := [.lit (.bool true)], args := [d1, d2, d3] }
  | _ => none }
def fnExactIsNormalRow : OpenClaim := { program := "ytmkelbchboiliaagreat", sum := "93bf54865a290ac21dd745dc02ddf9d8d49e84ebf4ceb833d6a17b7122932161", func := "loop.example/g00587/laws.FnExactIsNormal", spec := "fnExactIsNormal", unfollowed := true, recurses := true, loops := true, apart := false }
def FnExactIsNormalSaid : Prop := fnExactIsNormalRow.holds Tryz.pinned (OpenSpec.ofChange fnExactIsNormalSpec)

/-- ITS FALSE NEIGHBOUR: 'it returns false'. Refute it at one input. -/
def fnExactIsNormalWrong : ChangeSpec := { name := "fnExactIsNormal", fn := fun _ => fun
  | [d1, d2, d3] => { results := [.lit (.bool false)], args := [d1, d2, d3] }
  | _ => none }
def FnExactIsNormalWrongFalsely : Prop := fnExactIsNormalRow.holds Tryz.pinned (OpenSpec.ofChange fnExactIsNormalWrong)

/- THE SECOND FORM. 'bulk': how many values and letters a reading holds, each counted each time it is reached (what is shared counts as often as it is met; a slice's spare places count too). A statement '..UptoSaid' is the law's where the arguments, and the package variables that the reading takes, are together of bulk at most 1048576: NARROWER than '..Said'. Prove '..Said' where nothing that the law and all that it calls make is longer than what came in: it says more and counts as full. Else prove '..UptoSaid'. A law counts once. -/
mutual
def uptoBulk {H : Type} : DataW H → Nat
  | .lit (.string bytes) => bytes.length + 1
  | .lit _ => 1
  | .nil => 1
  | .ptr d => uptoBulk d + 1
  | .slice elems spare => uptoBulkAll elems + uptoBulkAll spare + 1
  | .agg parts => uptoBulkAll parts + 1
  | .iface _ d => uptoBulk d + 1
  | .map entries => uptoBulkEntries entries + 1
  | .held _ => 1
def uptoBulkAll {H : Type} : List (DataW H) → Nat
  | [] => 0
  | d :: r => uptoBulk d + uptoBulkAll r
def uptoBulkEntries {H : Type} : List (Lit × DataW H) → Nat
  | [] => 0
  | x :: r => uptoBulkEntry x + uptoBulkEntries r
def uptoBulkEntry {H : Type} : Lit × DataW H → Nat
  | (.string bytes, d) => bytes.length + uptoBulk d + 1
  | (_, d) => uptoBulk d + 1
 end
def uptoSmall : (H : Type) → List (DataW H) → Bool := fun _ ds => decide (uptoBulkAll ds ≤ 1048576)
def OpenSpec.upto (s : _root_.Go.ChangeSpec) : _root_.Go.OpenSpec := { _root_.Go.OpenSpec.ofChange s with cond := some uptoSmall }

/-- 'laws.FnExactIsPlan', WHERE WHAT IT READS IS OF BULK AT MOST 1048576: true; the input reads as it did. -/
def fnExactIsPlanUptoRow : OpenClaim := { program := "ytmkelbchboiliaagreat", sum := "93bf54865a290ac21dd745dc02ddf9d8d49e84ebf4ceb833d6a17b7122932161", func := "loop.example/g00587/laws.FnExactIsPlan", spec := "fnExactIsPlan", unfollowed := true, recurses := true, loops := true, apart := false, narrowed := true }
def FnExactIsPlanUptoSaid : Prop := fnExactIsPlanUptoRow.holds Tryz.pinned (OpenSpec.upto fnExactIsPlanSpec)

/-- 'laws.FnExactIsFlat', WHERE WHAT IT READS IS OF BULK AT MOST 1048576: true; the input reads as it did. -/
def fnExactIsFlatUptoRow : OpenClaim := { program := "ytmkelbchboiliaagreat", sum := "93bf54865a290ac21dd745dc02ddf9d8d49e84ebf4ceb833d6a17b7122932161", func := "loop.example/g00587/laws.FnExactIsFlat", spec := "fnExactIsFlat", unfollowed := true, recurses := true, loops := true, apart := false, narrowed := true }
def FnExactIsFlatUptoSaid : Prop := fnExactIsFlatUptoRow.holds Tryz.pinned (OpenSpec.upto fnExactIsFlatSpec)

/-- 'laws.FnExactIsNormal', WHERE WHAT IT READS IS OF BULK AT MOST 1048576: true; the input reads as it did. -/
def fnExactIsNormalUptoRow : OpenClaim := { program := "ytmkelbchboiliaagreat", sum := "93bf54865a290ac21dd745dc02ddf9d8d49e84ebf4ceb833d6a17b7122932161", func := "loop.example/g00587/laws.FnExactIsNormal", spec := "fnExactIsNormal", unfollowed := true, recurses := true, loops := true, apart := false, narrowed := true }
def FnExactIsNormalUptoSaid : Prop := fnExactIsNormalUptoRow.holds Tryz.pinned (OpenSpec.upto fnExactIsNormalSpec)

end Rows
end Go.Proofs.YtmkelbchboiliaaGreat
