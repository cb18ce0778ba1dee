/-
  NARROWER THAN 'FOR EVERY INPUT', by the rows' own cells (each row's printed sentence says how): FnExactLeavesOf: loops · FnExactBagPaths: loops · FnExactConjunctsOf: loops · FnExactJoinConjuncts: loops · FnExactTypeAt: loops · FnExactPlanOf: loops · FnExactPushDown: loops.
  DERIVED. THE GIVEN ROWS OF THIS SEAT. 10 by the template 'for every input the law returns true; each argument reads behind the call as it read before'; 0 by the template 'total and deterministic' (their statements: YtkbanchknllcnaaTotals.lean).
  GIVEN WITH THE SEED: the statements are not yours to turn. If you find one false, say at which input.
  Laid BY PROGRAM, IN A SANDBOX (cutbox-rows.mjs): the forced cells as the released guide's own fill.sh prints them over the translation b179c048c6e33d44… (all of the seat's roots in one cut). By AI agents, Wed Nov 11 2026. No macro, syntax, notation, axiom, sorry.
-/
import Derived.Test.YtkbanchknllcnaaChecked
import GoSem.Claim
import GoSem.ClaimJoined
import GoSem.ClaimMapViews
import Derived.JoinedTies
import Derived.KernelRfl
namespace Go.Proofs.Ytkbanchknllcnaa
/- THE CELL 'sum', in the pinned program and in every row, IS THE sha256 OF THE DUMP (.gsa) THAT YtkbanchknllcnaaProg.lean LOADS. Nothing in Lean hashes anything: it is a label: what it is worth is what the hold of that sum in a sandbox is worth. -/
noncomputable def Try.pinned : Pinned := { name := "ytkbanchknllcnaa", sum := "b179c048c6e33d4445159cd2fd2e5ca3bc977f13e8e32766011d148a62e78ed7", checked := Try.checked }
namespace Rows
def none {H : Type} : Left H := { results := [], args := [] }

/-- 'laws.FnExactLeavesOf': WHATEVER THE INPUT: true; the input reads as it did. -/
def fnExactLeavesOfSpec : ChangeSpec := { name := "fnExactLeavesOf", fn := fun _ => fun
  | [d] => { results := [.lit (.bool true)], args := [d] }
  | _ => none }
def fnExactLeavesOfRow : OpenClaim := { program := "ytkbanchknllcnaa", sum := "b179c048c6e33d4445159cd2fd2e5ca3bc977f13e8e32766011d148a62e78ed7", func := "loop.example/g00587/laws.FnExactLeavesOf", spec := "fnExactLeavesOf", unfollowed := true, recurses := true, loops := true, apart := false }
def FnExactLeavesOfSaid : Prop := fnExactLeavesOfRow.holds Try.pinned (OpenSpec.ofChange fnExactLeavesOfSpec)

/-- ITS FALSE NEIGHBOUR: 'it returns false'. Refute it at one input. -/
def fnExactLeavesOfWrong : ChangeSpec := { name := "fnExactLeavesOf", fn := fun _ => fun
  | [d] => { results := [.lit (.bool false)], args := [d] }
  | _ => none }
def FnExactLeavesOfWrongFalsely : Prop := fnExactLeavesOfRow.holds Try.pinned (OpenSpec.ofChange fnExactLeavesOfWrong)

/-- 'laws.FnExactBagPaths': WHATEVER THE INPUT: true; the input reads as it did. -/
def fnExactBagPathsSpec : ChangeSpec := { name := "fnExactBagPaths", fn := fun _ => fun
  | [d] => { results := [.lit (.bool true)], args := [d] }
  | _ => none }
def fnExactBagPathsRow : OpenClaim := { program := "ytkbanchknllcnaa", sum := "b179c048c6e33d4445159cd2fd2e5ca3bc977f13e8e32766011d148a62e78ed7", func := "loop.example/g00587/laws.FnExactBagPaths", spec := "fnExactBagPaths", unfollowed := true, recurses := true, loops := true, apart := false }
def FnExactBagPathsSaid : Prop := fnExactBagPathsRow.holds Try.pinned (OpenSpec.ofChange fnExactBagPathsSpec)

/-- ITS FALSE NEIGHBOUR: 'it returns false'. Refute it at one input. -/
def fnExactBagPathsWrong : ChangeSpec := { name := "fnExactBagPaths", fn := fun _ => fun
  | [d] => { results := [.lit (.bool false)], args := [d] }
  | _ => none }
def FnExactBagPathsWrongFalsely : Prop := fnExactBagPathsRow.holds Try.pinned (OpenSpec.ofChange fnExactBagPathsWrong)

/-- 'laws.FnExactConjunctsOf': WHATEVER THE INPUT: true; the input reads as it did. -/
def fnExactConjunctsOfSpec : ChangeSpec := { name := "fnExactConjunctsOf", fn := fun _ => fun
  | [d] => { results := [.lit (.bool true)], args := [d] }
  | _ => none }
def fnExactConjunctsOfRow : OpenClaim := { program := "ytkbanchknllcnaa", sum := "b179c048c6e33d4445159cd2fd2e5ca3bc977f13e8e32766011d148a62e78ed7", func := "loop.example/g00587/laws.FnExactConjunctsOf", spec := "fnExactConjunctsOf", recurses := true, loops := true, apart := false }
def FnExactConjunctsOfSaid : Prop := fnExactConjunctsOfRow.holds Try.pinned (OpenSpec.ofChange fnExactConjunctsOfSpec)

/-- ITS FALSE NEIGHBOUR: 'it returns false'. Refute it at one input. -/
def fnExactConjunctsOfWrong : ChangeSpec := { name := "fnExactConjunctsOf", fn := fun _ => fun
  | [d] => { results := [.lit (.bool false)], args := [d] }
  | _ => none }
def FnExactConjunctsOfWrongFalsely : Prop := fnExactConjunctsOfRow.holds Try.pinned (OpenSpec.ofChange fnExactConjunctsOfWrong)

/-- 'laws.FnExactJoinConjuncts': WHATEVER THE INPUT: true; the input reads as it did. -/
def fnExactJoinConjunctsSpec : ChangeSpec := { name := "fnExactJoinConjuncts", fn := fun _ => fun
  | [d] => { results := [.lit (.bool true)], args := [d] }
  | _ => none }
def fnExactJoinConjunctsRow : OpenClaim := { program := "ytkbanchknllcnaa", sum := "b179c048c6e33d4445159cd2fd2e5ca3bc977f13e8e32766011d148a62e78ed7", func := "loop.example/g00587/laws.FnExactJoinConjuncts", spec := "fnExactJoinConjuncts", recurses := true, loops := true, apart := false }
def FnExactJoinConjunctsSaid : Prop := fnExactJoinConjunctsRow.holds Try.pinned (OpenSpec.ofChange fnExactJoinConjunctsSpec)

/-- ITS FALSE NEIGHBOUR: 'it returns false'. Refute it at one input. -/
def fnExactJoinConjunctsWrong : ChangeSpec := { name := "fnExactJoinConjuncts", fn := fun _ => fun
  | [d] => { results := [.lit (.bool false)], args := [d] }
  | _ => none }
def FnExactJoinConjunctsWrongFalsely : Prop := fnExactJoinConjunctsRow.holds Try.pinned (OpenSpec.ofChange fnExactJoinConjunctsWrong)

/-- 'laws.FnExactTypeAt': WHATEVER THE INPUT: true; the input reads as it did. -/
def fnExactTypeAtSpec : ChangeSpec := { name := "fnExactTypeAt", fn := fun _ => fun
  | [d1, d2] => { results := [.lit (.bool true)], args := [d1, d2] }
  | _ => none }
def fnExactTypeAtRow : OpenClaim := { program := "ytkbanchknllcnaa", sum := "b179c048c6e33d4445159cd2fd2e5ca3bc977f13e8e32766011d148a62e78ed7", func := "loop.example/g00587/laws.FnExactTypeAt", spec := "fnExactTypeAt", unfollowed := true, recurses := true, loops := true, apart := false }
def FnExactTypeAtSaid : Prop := fnExactTypeAtRow.holds Try.pinned (OpenSpec.ofChange fnExactTypeAtSpec)

/-- ITS FALSE NEIGHBOUR: 'it returns false'. Refute it at one input. -/
def fnExactTypeAtWrong : ChangeSpec := { name := "fnExactTypeAt", fn := fun _ => fun
  | [d1, d2] => { results := [.lit (.bool false)], args := [d1, d2] }
  | _ => none }
def FnExactTypeAtWrongFalsely : Prop := fnExactTypeAtRow.holds Try.pinned (OpenSpec.ofChange fnExactTypeAtWrong)

/-- 'laws.FnExactParseType': WHATEVER THE INPUT: true; the input reads as it did. -/
def fnExactParseTypeSpec : ChangeSpec := { name := "fnExactParseType", fn := fun _ => fun
  | [d] => { results := [.lit (.bool true)], args := [d] }
  | _ => none }
def fnExactParseTypeRow : OpenClaim := { program := "ytkbanchknllcnaa", sum := "b179c048c6e33d4445159cd2fd2e5ca3bc977f13e8e32766011d148a62e78ed7", func := "loop.example/g00587/laws.FnExactParseType", spec := "fnExactParseType", inPlace := ["internal/abi.NoEscape", "internal/bytealg.MakeNoZero"], unfollowed := true, recurses := true, apart := false }
def FnExactParseTypeSaid : Prop := fnExactParseTypeRow.holds Try.pinned (OpenSpec.ofChange fnExactParseTypeSpec)

/-- ITS FALSE NEIGHBOUR: 'it returns false'. Refute it at one input. -/
def fnExactParseTypeWrong : ChangeSpec := { name := "fnExactParseType", fn := fun _ => fun
  | [d] => { results := [.lit (.bool false)], args := [d] }
  | _ => none }
def FnExactParseTypeWrongFalsely : Prop := fnExactParseTypeRow.holds Try.pinned (OpenSpec.ofChange fnExactParseTypeWrong)

/-- 'laws.FnTypeText': WHATEVER THE INPUT: true; the input reads as it did. -/
def fnTypeTextSpec : ChangeSpec := { name := "fnTypeText", fn := fun _ => fun
  | [d] => { results := [.lit (.bool true)], args := [d] }
  | _ => none }
def fnTypeTextRow : OpenClaim := { program := "ytkbanchknllcnaa", sum := "b179c048c6e33d4445159cd2fd2e5ca3bc977f13e8e32766011d148a62e78ed7", func := "loop.example/g00587/laws.FnTypeText", spec := "fnTypeText", inPlace := ["internal/abi.NoEscape", "internal/bytealg.MakeNoZero"], unfollowed := true, recurses := true, apart := false }
def FnTypeTextSaid : Prop := fnTypeTextRow.holds Try.pinned (OpenSpec.ofChange fnTypeTextSpec)

/-- ITS FALSE NEIGHBOUR: 'it returns false'. Refute it at one input. -/
def fnTypeTextWrong : ChangeSpec := { name := "fnTypeText", fn := fun _ => fun
  | [d] => { results := [.lit (.bool false)], args := [d] }
  | _ => none }
def FnTypeTextWrongFalsely : Prop := fnTypeTextRow.holds Try.pinned (OpenSpec.ofChange fnTypeTextWrong)

/-- 'laws.FnPathsOf': WHATEVER THE INPUT: true; the input reads as it did. -/
def fnPathsOfSpec : ChangeSpec := { name := "fnPathsOf", fn := fun _ => fun
  | [d] => { results := [.lit (.bool true)], args := [d] }
  | _ => none }
def fnPathsOfRow : OpenClaim := { program := "ytkbanchknllcnaa", sum := "b179c048c6e33d4445159cd2fd2e5ca3bc977f13e8e32766011d148a62e78ed7", func := "loop.example/g00587/laws.FnPathsOf", spec := "fnPathsOf", inPlace := ["internal/abi.NoEscape", "internal/bytealg.MakeNoZero"], unfollowed := true, recurses := true, apart := false }
def FnPathsOfSaid : Prop := fnPathsOfRow.holds Try.pinned (OpenSpec.ofChange fnPathsOfSpec)

/-- ITS FALSE NEIGHBOUR: 'it returns false'. Refute it at one input. -/
def fnPathsOfWrong : ChangeSpec := { name := "fnPathsOf", fn := fun _ => fun
  | [d] => { results := [.lit (.bool false)], args := [d] }
  | _ => none }
def FnPathsOfWrongFalsely : Prop := fnPathsOfRow.holds Try.pinned (OpenSpec.ofChange fnPathsOfWrong)

/-- 'laws.FnExactPlanOf': WHATEVER THE INPUT: true; the input reads as it did. -/
def fnExactPlanOfSpec : ChangeSpec := { name := "fnExactPlanOf", fn := fun _ => fun
  | [d] => { results := [.lit (.bool true)], args := [d] }
  | _ => none }
def fnExactPlanOfRow : OpenClaim := { program := "ytkbanchknllcnaa", sum := "b179c048c6e33d4445159cd2fd2e5ca3bc977f13e8e32766011d148a62e78ed7", func := "loop.example/g00587/laws.FnExactPlanOf", spec := "fnExactPlanOf", recurses := true, loops := true, apart := false }
def FnExactPlanOfSaid : Prop := fnExactPlanOfRow.holds Try.pinned (OpenSpec.ofChange fnExactPlanOfSpec)

/-- ITS FALSE NEIGHBOUR: 'it returns false'. Refute it at one input. -/
def fnExactPlanOfWrong : ChangeSpec := { name := "fnExactPlanOf", fn := fun _ => fun
  | [d] => { results := [.lit (.bool false)], args := [d] }
  | _ => none }
def FnExactPlanOfWrongFalsely : Prop := fnExactPlanOfRow.holds Try.pinned (OpenSpec.ofChange fnExactPlanOfWrong)

/-- 'laws.FnExactPushDown': WHATEVER THE INPUT: true; the input reads as it did. -/
def fnExactPushDownSpec : ChangeSpec := { name := "fnExactPushDown", fn := fun _ => fun
  | [d] => { results := [.lit (.bool true)], args := [d] }
  | _ => none }
def fnExactPushDownRow : OpenClaim := { program := "ytkbanchknllcnaa", sum := "b179c048c6e33d4445159cd2fd2e5ca3bc977f13e8e32766011d148a62e78ed7", func := "loop.example/g00587/laws.FnExactPushDown", spec := "fnExactPushDown", unfollowed := true, recurses := true, loops := true, apart := false }
def FnExactPushDownSaid : Prop := fnExactPushDownRow.holds Try.pinned (OpenSpec.ofChange fnExactPushDownSpec)

/-- ITS FALSE NEIGHBOUR: 'it returns false'. Refute it at one input. -/
def fnExactPushDownWrong : ChangeSpec := { name := "fnExactPushDown", fn := fun _ => fun
  | [d] => { results := [.lit (.bool false)], args := [d] }
  | _ => none }
def FnExactPushDownWrongFalsely : Prop := fnExactPushDownRow.holds Try.pinned (OpenSpec.ofChange fnExactPushDownWrong)

/- THE SECOND FORM. 'bulk': how many values and letters a reading holds, each counted each time it is reached (what is shared counts as often as it is met; a slice's spare places count too). A statement '..UptoSaid' is the law's where the arguments, and the package variables that the reading takes, are together of bulk at most 1048576: NARROWER than '..Said'. Prove '..Said' where nothing that the law and all that it calls make is longer than what came in: it says more and counts as full. Else prove '..UptoSaid'. A law counts once. -/
mutual
def uptoBulk {H : Type} : DataW H → Nat
  | .lit (.string bytes) => bytes.length + 1
  | .lit _ => 1
  | .nil => 1
  | .ptr d => uptoBulk d + 1
  | .slice elems spare => uptoBulkAll elems + uptoBulkAll spare + 1
  | .agg parts => uptoBulkAll parts + 1
  | .iface _ d => uptoBulk d + 1
  | .map entries => uptoBulkEntries entries + 1
  | .held _ => 1
def uptoBulkAll {H : Type} : List (DataW H) → Nat
  | [] => 0
  | d :: r => uptoBulk d + uptoBulkAll r
def uptoBulkEntries {H : Type} : List (Lit × DataW H) → Nat
  | [] => 0
  | x :: r => uptoBulkEntry x + uptoBulkEntries r
def uptoBulkEntry {H : Type} : Lit × DataW H → Nat
  | (.string bytes, d) => bytes.length + uptoBulk d + 1
  | (_, d) => uptoBulk d + 1
 end
def uptoSmall : (H : Type) → List (DataW H) → Bool := fun _ ds => decide (uptoBulkAll ds ≤ 1048576)
def OpenSpec.upto (s : _root_.Go.ChangeSpec) : _root_.Go.OpenSpec := { _root_.Go.OpenSpec.ofChange s with cond := some uptoSmall }

/-- 'laws.FnExactLeavesOf', WHERE WHAT IT READS IS OF BULK AT MOST 1048576: true; the input reads as it did. -/
def fnExactLeavesOfUptoRow : OpenClaim := { program := "ytkbanchknllcnaa", sum := "b179c048c6e33d4445159cd2fd2e5ca3bc977f13e8e32766011d148a62e78ed7", func := "loop.example/g00587/laws.FnExactLeavesOf", spec := "fnExactLeavesOf", unfollowed := true, recurses := true, loops := true, apart := false, narrowed := true }
def FnExactLeavesOfUptoSaid : Prop := fnExactLeavesOfUptoRow.holds Try.pinned (OpenSpec.upto fnExactLeavesOfSpec)

/-- 'laws.FnExactBagPaths', WHERE WHAT IT READS IS OF BULK AT MOST 1048576: true; the input reads as it did. -/
def fnExactBagPathsUptoRow : OpenClaim := { program := "ytkbanchknllcnaa", sum := "b179c048c6e33d4445159cd2fd2e5ca3bc977f13e8e32766011d148a62e78ed7", func := "loop.example/g00587/laws.FnExactBagPaths", spec := "fnExactBagPaths", unfollowed := true, recurses := true, loops := true, apart := false, narrowed := true }
def FnExactBagPathsUptoSaid : Prop := fnExactBagPathsUptoRow.holds Try.pinned (OpenSpec.upto fnExactBagPathsSpec)

/-- 'laws.FnExactConjunctsOf', WHERE WHAT IT READS IS OF BULK AT MOST 1048576: true; the input reads as it did. -/
def fnExactConjunctsOfUptoRow : OpenClaim := { program := "ytkbanchknllcnaa", sum := "b179c048c6e33d4445159cd2fd2e5ca3bc977f13e8e32766011d148a62e78ed7", func := "loop.example/g00587/laws.FnExactConjunctsOf", spec := "fnExactConjunctsOf", recurses := true, loops := true, apart := false, narrowed := true }
def FnExactConjunctsOfUptoSaid : Prop := fnExactConjunctsOfUptoRow.holds Try.pinned (OpenSpec.upto fnExactConjunctsOfSpec)

/-- 'laws.FnExactJoinConjuncts', WHERE WHAT IT READS IS OF BULK AT MOST 1048576: true; the input reads as it did. -/
def fnExactJoinConjunctsUptoRow : OpenClaim := { program := "ytkbanchknllcnaa", sum := "b179c048c6e33d4445159cd2fd2e5ca3bc977f13e8e32766011d148a62e78ed7", func := "loop.example/g00587/laws.FnExactJoinConjuncts", spec := "fnExactJoinConjuncts", recurses := true, loops := true, apart := false, narrowed := true }
def FnExactJoinConjunctsUptoSaid : Prop := fnExactJoinConjunctsUptoRow.holds Try.pinned (OpenSpec.upto fnExactJoinConjunctsSpec)

/-- 'laws.FnExactTypeAt', WHERE WHAT IT READS IS OF BULK AT MOST 1048576: true; the input reads as it did. -/
def fnExactTypeAtUptoRow : OpenClaim := { program := "ytkbanchknllcnaa", sum := "b179c048c6e33d4445159cd2fd2e5ca3bc977f13e8e32766011d148a62e78ed7", func := "loop.example/g00587/laws.FnExactTypeAt", spec := "fnExactTypeAt", unfollowed := true, recurses := true, loops := true, apart := false, narrowed := true }
def FnExactTypeAtUptoSaid : Prop := fnExactTypeAtUptoRow.holds Try.pinned (OpenSpec.upto fnExactTypeAtSpec)

/-- 'laws.FnExactParseType', WHERE WHAT IT READS IS OF BULK AT MOST 1048576: true; the input reads as it did. -/
def fnExactParseTypeUptoRow : OpenClaim := { program := "ytkbanchknllcnaa", sum := "b179c048c6e33d4445159cd2fd2e5ca3bc977f13e8e32766011d148a62e78ed7", func := "loop.example/g00587/laws.FnExactParseType", spec := "fnExactParseType", inPlace := ["internal/abi.NoEscape", "internal/bytealg.MakeNoZero"], unfollowed := true, recurses := true, apart := false, narrowed := true }
def FnExactParseTypeUptoSaid : Prop := fnExactParseTypeUptoRow.holds Try.pinned (OpenSpec.upto fnExactParseTypeSpec)

/-- 'laws.FnTypeText', WHERE WHAT IT READS IS OF BULK AT MOST 1048576: true; the input reads as it did. -/
def fnTypeTextUptoRow : OpenClaim := { program := "ytkbanchknllcnaa", sum := "b179c048c6e33d4445159cd2fd2e5ca3bc977f13e8e32766011d148a62e78ed7", func := "loop.example/g00587/laws.FnTypeText", spec := "fnTypeText", inPlace := ["internal/abi.NoEscape", "internal/bytealg.MakeNoZero"], unfollowed := true, recurses := true, apart := false, narrowed := true }
def FnTypeTextUptoSaid : Prop := fnTypeTextUptoRow.holds Try.pinned (OpenSpec.upto fnTypeTextSpec)

/-- 'laws.FnPathsOf', WHERE WHAT IT READS IS OF BULK AT MOST 1048576: true; the input reads as it did. -/
def fnPathsOfUptoRow : OpenClaim := { program := "ytkbanchknllcnaa", sum := "b179c048c6e33d4445159cd2fd2e5ca3bc977f13e8e32766011d148a62e78ed7", func := "loop.example/g00587/laws.FnPathsOf", spec := "fnPathsOf", inPlace := ["internal/abi.NoEscape", "internal/bytealg.MakeNoZero"], unfollowed := true, recurses := true, apart := false, narrowed := true }
def FnPathsOfUptoSaid : Prop := fnPathsOfUptoRow.holds Try.pinned (OpenSpec.upto fnPathsOfSpec)

/-- 'laws.FnExactPlanOf', WHERE WHAT IT READS IS OF BULK AT MOST 1048576: true; the input reads as it did. -/
def fnExactPlanOfUptoRow : OpenClaim := { program := "ytkbanchknllcnaa", sum := "b179c048c6e33d4445159cd2fd2e5ca3bc977f13e8e32766011d148a62e78ed7", func := "loop.example/g00587/laws.FnExactPlanOf", spec := "fnExactPlanOf", recurses := true, loops := true, apart := false, narrowed := true }
def FnExactPlanOfUptoSaid : Prop := fnExactPlanOfUptoRow.holds Try.pinned (OpenSpec.upto fnExactPlanOfSpec)

/-- 'laws.FnExactPushDown', WHERE WHAT IT READS IS OF BULK AT MOST 1048576: true; the input reads as it did. -/
def fnExactPushDownUptoRow : OpenClaim := { program := "ytkbanchknllcnaa", sum := "b179c048c6e33d4445159cd2fd2e5ca3bc977f13e8e32766011d148a62e78ed7", func := "loop.example/g00587/laws.FnExactPushDown", spec := "fnExactPushDown", unfollowed := true, recurses := true, loops := true, apart := false, narrowed := true }
def FnExactPushDownUptoSaid : Prop := fnExactPushDownUptoRow.holds Try.pinned (OpenSpec.upto fnExactPushDownSpec)

end Rows
end Go.Proofs.Ytkbanchknllcnaa
