/-
  NARROWER THAN 'FOR EVERY INPUT', by the rows' own cells (each row's printed sentence says how): FnExactIsQuery: loops · FnExactCountQueries: loops · FnExactTypeOf: loops.
  DERIVED. THE GIVEN ROWS OF THIS SEAT. 3 by the template 'for every input the law returns true; each argument reads behind the call as it read before'; 0 by the template 'total and deterministic' (their statements: YtjogpopbgmjlbaaGreatTotals.lean).
  GIVEN WITH THE SEED: the statements are not yours to turn. If you find one false, say at which input.
  Laid BY PROGRAM, IN A SANDBOX (cutbox-rows.mjs): the forced cells as the released guide's own fill.sh prints them over the translation 2439d6c7cc105bef… (all of the seat's roots in one cut). By AI agents, Wed Nov 11 2026. No macro, syntax, notation, axiom, sorry.
-/
import Derived.Test.YtjogpopbgmjlbaaGreatChecked
import GoSem.Claim
import GoSem.ClaimJoined
import GoSem.ClaimMapViews
import Derived.JoinedTies
import Derived.KernelRfl
namespace Go.Proofs.YtjogpopbgmjlbaaGreat
/- THE CELL 'sum', in the pinned program and in every row, IS THE sha256 OF THE DUMP (.gsa) THAT YtjogpopbgmjlbaaGreatProg.lean LOADS. Nothing in Lean hashes anything: it is a label: what it is worth is what the hold of that sum in a sandbox is worth. -/
noncomputable def Tryz.pinned : Pinned := { name := "ytjogpopbgmjlbaagreat", sum := "2439d6c7cc105bef664413842cad4b311e5e88fa36d321ee85baf668ca02889c", checked := Tryz.checked }
namespace Rows
def none {H : Type} : Left H := { results := [], args := [] }

/-- 'laws.FnExactIsQuery': WHATEVER THE INPUT: true; the input reads as it did. -/
def fnExactIsQuerySpec : ChangeSpec := { name := "fnExactIsQuery", fn := fun _ => fun
  | [d1, d2] => { results := [.lit (.bool true)], args := [d1, d2] }
  | _ => none }
def fnExactIsQueryRow : OpenClaim := { program := "ytjogpopbgmjlbaagreat", sum := "2439d6c7cc105bef664413842cad4b311e5e88fa36d321ee85baf668ca02889c", func := "loop.example/g00587/laws.FnExactIsQuery", spec := "fnExactIsQuery", unfollowed := true, recurses := true, loops := true, apart := false }
def FnExactIsQuerySaid : Prop := fnExactIsQueryRow.holds Tryz.pinned (OpenSpec.ofChange fnExactIsQuerySpec)

/-- ITS FALSE NEIGHBOUR: 'it returns false'. Refute it at one input. -/
def fnExactIsQueryWrong : ChangeSpec := { name := "fnExactIsQuery", fn := fun _ => fun
  | [d1, d2] => { results := [.lit (.bool false)], args := [d1, d2] }
  | _ => none }
def FnExactIsQueryWrongFalsely : Prop := fnExactIsQueryRow.holds Tryz.pinned (OpenSpec.ofChange fnExactIsQueryWrong)

/-- 'laws.FnExactCountQueries': WHATEVER THE INPUT: true; the input reads as it did. -/
def fnExactCountQueriesSpec : ChangeSpec := { name := "fnExactCountQueries", fn := fun _ => fun
  | [d1, d2] => { results := [.lit (.bool true)], args := [d1, d2] }
  | _ => none }
def fnExactCountQueriesRow : OpenClaim := { program := "ytjogpopbgmjlbaagreat", sum := "2439d6c7cc105bef664413842cad4b311e5e88fa36d321ee85baf668ca02889c", func := "loop.example/g00587/laws.FnExactCountQueries", spec := "fnExactCountQueries", unfollowed := true, recurses := true, loops := true, apart := false }
def FnExactCountQueriesSaid : Prop := fnExactCountQueriesRow.holds Tryz.pinned (OpenSpec.ofChange fnExactCountQueriesSpec)

/-- ITS FALSE NEIGHBOUR: 'it returns false'. Refute it at one input. -/
def fnExactCountQueriesWrong : ChangeSpec := { name := "fnExactCountQueries", fn := fun _ => fun
  | [d1, d2] => { results := [.lit (.bool false)], args := [d1, d2] }
  | _ => none }
def FnExactCountQueriesWrongFalsely : Prop := fnExactCountQueriesRow.holds Tryz.pinned (OpenSpec.ofChange fnExactCountQueriesWrong)

/-- 'laws.FnExactTypeOf': WHATEVER THE INPUT: true; the input reads as it did. -/
def fnExactTypeOfSpec : ChangeSpec := { name := "fnExactTypeOf", fn := fun _ => fun
  | [d1, d2, d3] => { results := [.lit (.bool true)], args := [d1, d2, d3] }
  | _ => none }
def fnExactTypeOfRow : OpenClaim := { program := "ytjogpopbgmjlbaagreat", sum := "2439d6c7cc105bef664413842cad4b311e5e88fa36d321ee85baf668ca02889c", func := "loop.example/g00587/laws.FnExactTypeOf", spec := "fnExactTypeOf", unfollowed := true, recurses := true, loops := true, apart := false }
def FnExactTypeOfSaid : Prop := fnExactTypeOfRow.holds Tryz.pinned (OpenSpec.ofChange fnExactTypeOfSpec)

/-- ITS FALSE NEIGHBOUR: 'it returns false'. Refute it at one input. -/
def fnExactTypeOfWrong : ChangeSpec := { name := "fnExactTypeOf", fn := fun _ => fun
  | [d1, d2, d3] => { results := [.lit (.bool false)], args := [d1, d2, d3] }
  | _ => none }
def FnExactTypeOfWrongFalsely : Prop := fnExactTypeOfRow.holds Tryz.pinned (OpenSpec.ofChange fnExactTypeOfWrong)

/- THE SECOND FORM. 'bulk': how many values and letters a reading holds, each counted each time it is reached (what is shared counts as often as it is met; a slice's spare places count too). A statement '..UptoSaid' is the law's where the arguments, and the package variables that the reading takes, are together of bulk at most 1048576: NARROWER than '..Said'. Prove '..Said' where nothing that the law and all that it calls make is longer than what came in: it says more and counts as full. Else prove '..UptoSaid'. A law counts once. -/
mutual
def uptoBulk {H : Type} : DataW H → Nat
  | .lit (.string bytes) => bytes.length + 1
  | .lit _ => 1
  | .nil => 1
  | .ptr d => uptoBulk d + 1
  | .slice elems spare => uptoBulkAll elems + uptoBulkAll spare + 1
  | .agg parts => uptoBulkAll parts + 1
  | .iface _ d => uptoBulk d + 1
  | .map entries => uptoBulkEntries entries + 1
  | .held _ => 1
def uptoBulkAll {H : Type} : List (DataW H) → Nat
  | [] => 0
  | d :: r => uptoBulk d + uptoBulkAll r
def uptoBulkEntries {H : Type} : List (Lit × DataW H) → Nat
  | [] => 0
  | x :: r => uptoBulkEntry x + uptoBulkEntries r
def uptoBulkEntry {H : Type} : Lit × DataW H → Nat
  | (.string bytes, d) => bytes.length + uptoBulk d + 1
  | (_, d) => uptoBulk d + 1
 end
def uptoSmall : (H : Type) → List (DataW H) → Bool := fun _ ds => decide (uptoBulkAll ds ≤ 1048576)
def OpenSpec.upto (s : _root_.Go.ChangeSpec) : _root_.Go.OpenSpec := { _root_.Go.OpenSpec.ofChange s with cond := some uptoSmall }

/-- 'laws.FnExactIsQuery', WHERE WHAT IT READS IS OF BULK AT MOST 1048576: true; the input reads as it did. -/
def fnExactIsQueryUptoRow : OpenClaim := { program := "ytjogpopbgmjlbaagreat", sum := "2439d6c7cc105bef664413842cad4b311e5e88fa36d321ee85baf668ca02889c", func := "loop.example/g00587/laws.FnExactIsQuery", spec := "fnExactIsQuery", unfollowed := true, recurses := true, loops := true, apart := false, narrowed := true }
def FnExactIsQueryUptoSaid : Prop := fnExactIsQueryUptoRow.holds Tryz.pinned (OpenSpec.upto fnExactIsQuerySpec)

/-- 'laws.FnExactCountQueries', WHERE WHAT IT READS IS OF BULK AT MOST 1048576: true; the input reads as it did. -/
def fnExactCountQueriesUptoRow : OpenClaim := { program := "ytjogpopbgmjlbaagreat", sum := "2439d6c7cc105bef664413842cad4b311e5e88fa36d321ee85baf668ca02889c", func := "loop.example/g00587/laws.FnExactCountQueries", spec := "fnExactCountQueries", unfollowed := true, recurses := true, loops := true, apart := false, narrowed := true }
def FnExactCountQueriesUptoSaid : Prop := fnExactCountQueriesUptoRow.holds Tryz.pinned (OpenSpec.upto fnExactCountQueriesSpec)

/-- 'laws.FnExactTypeOf', WHERE WHAT IT READS IS OF BULK AT MOST 1048576: true; the input reads as it did. -/
def fnExactTypeOfUptoRow : OpenClaim := { program := "ytjogpopbgmjlbaagreat", sum := "2439d6c7cc105bef664413842cad4b311e5e88fa36d321ee85baf668ca02889c", func := "loop.example/g00587/laws.FnExactTypeOf", spec := "fnExactTypeOf", unfollowed := true, recurses := true, loops := true, apart := false, narrowed := true }
def FnExactTypeOfUptoSaid : Prop := fnExactTypeOfUptoRow.holds Tryz.pinned (OpenSpec.upto fnExactTypeOfSpec)

end Rows
end Go.Proofs.YtjogpopbgmjlbaaGreat
