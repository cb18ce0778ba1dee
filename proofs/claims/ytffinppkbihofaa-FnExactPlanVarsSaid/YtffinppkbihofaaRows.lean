/-
  NARROWER THAN 'FOR EVERY INPUT', by the rows' own cells (each row's printed sentence says how): FnExactEqualNums: loops · FnExactCountChoices: loops · FnExactCountJoins: loops · FnExactEqualPlan: loops · FnExactEqualRows: loops · FnExactPlanVars: loops · FnExactEqualFlat: loops · FnExactEqualFlats: loops.
  DERIVED. THE GIVEN ROWS OF THIS SEAT. 11 by the template 'for every input the law returns true; each argument reads behind the call as it read before'; 0 by the template 'total and deterministic' (their statements: YtffinppkbihofaaTotals.lean).
  GIVEN WITH THE SEED: the statements are not yours to turn. If you find one false, say at which input.
  Laid BY PROGRAM, IN A SANDBOX (cutbox-rows.mjs): the forced cells as the released guide's own fill.sh prints them over the translation bece03c7d111d350… (all of the seat's roots in one cut). By AI agents, Wed Nov 11 2026. No macro, syntax, notation, axiom, sorry.
-/
import Derived.Test.YtffinppkbihofaaChecked
import GoSem.Claim
import GoSem.ClaimJoined
import GoSem.ClaimMapViews
import Derived.JoinedTies
import Derived.KernelRfl
namespace Go.Proofs.Ytffinppkbihofaa
/- THE CELL 'sum', in the pinned program and in every row, IS THE sha256 OF THE DUMP (.gsa) THAT YtffinppkbihofaaProg.lean LOADS. Nothing in Lean hashes anything: it is a label: what it is worth is what the hold of that sum in a sandbox is worth. -/
noncomputable def Try.pinned : Pinned := { name := "ytffinppkbihofaa", sum := "bece03c7d111d3501b10fb7e77b12fa26d0598ddc626e0a33ea3e2363fd7c8b2", checked := Try.checked }
namespace Rows
def none {H : Type} : Left H := { results := [], args := [] }

/-- 'laws.FnExactEqualPath': WHATEVER THE INPUT: true; the input reads as it did. -/
def fnExactEqualPathSpec : ChangeSpec := { name := "fnExactEqualPath", fn := fun _ => fun
  | [d1, d2] => { results := [.lit (.bool true)], args := [d1, d2] }
  | _ => none }
def fnExactEqualPathRow : OpenClaim := { program := "ytffinppkbihofaa", sum := "bece03c7d111d3501b10fb7e77b12fa26d0598ddc626e0a33ea3e2363fd7c8b2", func := "loop.example/g00587/laws.FnExactEqualPath", spec := "fnExactEqualPath", apart := false }
def FnExactEqualPathSaid : Prop := fnExactEqualPathRow.holds Try.pinned (OpenSpec.ofChange fnExactEqualPathSpec)

/-- ITS FALSE NEIGHBOUR: 'it returns false'. Refute it at one input. -/
def fnExactEqualPathWrong : ChangeSpec := { name := "fnExactEqualPath", fn := fun _ => fun
  | [d1, d2] => { results := [.lit (.bool false)], args := [d1, d2] }
  | _ => none }
def FnExactEqualPathWrongFalsely : Prop := fnExactEqualPathRow.holds Try.pinned (OpenSpec.ofChange fnExactEqualPathWrong)

/-- 'laws.FnExactEqualKey': WHATEVER THE INPUT: true; the input reads as it did. -/
def fnExactEqualKeySpec : ChangeSpec := { name := "fnExactEqualKey", fn := fun _ => fun
  | [d1, d2] => { results := [.lit (.bool true)], args := [d1, d2] }
  | _ => none }
def fnExactEqualKeyRow : OpenClaim := { program := "ytffinppkbihofaa", sum := "bece03c7d111d3501b10fb7e77b12fa26d0598ddc626e0a33ea3e2363fd7c8b2", func := "loop.example/g00587/laws.FnExactEqualKey", spec := "fnExactEqualKey", apart := false }
def FnExactEqualKeySaid : Prop := fnExactEqualKeyRow.holds Try.pinned (OpenSpec.ofChange fnExactEqualKeySpec)

/-- ITS FALSE NEIGHBOUR: 'it returns false'. Refute it at one input. -/
def fnExactEqualKeyWrong : ChangeSpec := { name := "fnExactEqualKey", fn := fun _ => fun
  | [d1, d2] => { results := [.lit (.bool false)], args := [d1, d2] }
  | _ => none }
def FnExactEqualKeyWrongFalsely : Prop := fnExactEqualKeyRow.holds Try.pinned (OpenSpec.ofChange fnExactEqualKeyWrong)

/-- 'laws.FnExactPathText': WHATEVER THE INPUT: true; the input reads as it did. -/
def fnExactPathTextSpec : ChangeSpec := { name := "fnExactPathText", fn := fun _ => fun
  | [d] => { results := [.lit (.bool true)], args := [d] }
  | _ => none }
def fnExactPathTextRow : OpenClaim := { program := "ytffinppkbihofaa", sum := "bece03c7d111d3501b10fb7e77b12fa26d0598ddc626e0a33ea3e2363fd7c8b2", func := "loop.example/g00587/laws.FnExactPathText", spec := "fnExactPathText", inPlace := ["internal/abi.NoEscape", "internal/bytealg.MakeNoZero"], apart := false }
def FnExactPathTextSaid : Prop := fnExactPathTextRow.holds Try.pinned (OpenSpec.ofChange fnExactPathTextSpec)

/-- ITS FALSE NEIGHBOUR: 'it returns false'. Refute it at one input. -/
def fnExactPathTextWrong : ChangeSpec := { name := "fnExactPathText", fn := fun _ => fun
  | [d] => { results := [.lit (.bool false)], args := [d] }
  | _ => none }
def FnExactPathTextWrongFalsely : Prop := fnExactPathTextRow.holds Try.pinned (OpenSpec.ofChange fnExactPathTextWrong)

/-- 'laws.FnExactEqualNums': WHATEVER THE INPUT: true; the input reads as it did. -/
def fnExactEqualNumsSpec : ChangeSpec := { name := "fnExactEqualNums", fn := fun _ => fun
  | [d1, d2] => { results := [.lit (.bool true)], args := [d1, d2] }
  | _ => none }
def fnExactEqualNumsRow : OpenClaim := { program := "ytffinppkbihofaa", sum := "bece03c7d111d3501b10fb7e77b12fa26d0598ddc626e0a33ea3e2363fd7c8b2", func := "loop.example/g00587/laws.FnExactEqualNums", spec := "fnExactEqualNums", unfollowed := true, recurses := true, loops := true, apart := false }
def FnExactEqualNumsSaid : Prop := fnExactEqualNumsRow.holds Try.pinned (OpenSpec.ofChange fnExactEqualNumsSpec)

/-- ITS FALSE NEIGHBOUR: 'it returns false'. Refute it at one input. -/
def fnExactEqualNumsWrong : ChangeSpec := { name := "fnExactEqualNums", fn := fun _ => fun
  | [d1, d2] => { results := [.lit (.bool false)], args := [d1, d2] }
  | _ => none }
def FnExactEqualNumsWrongFalsely : Prop := fnExactEqualNumsRow.holds Try.pinned (OpenSpec.ofChange fnExactEqualNumsWrong)

/-- 'laws.FnExactCountChoices': WHATEVER THE INPUT: true; the input reads as it did. -/
def fnExactCountChoicesSpec : ChangeSpec := { name := "fnExactCountChoices", fn := fun _ => fun
  | [d1, d2] => { results := [.lit (.bool true)], args := [d1, d2] }
  | _ => none }
def fnExactCountChoicesRow : OpenClaim := { program := "ytffinppkbihofaa", sum := "bece03c7d111d3501b10fb7e77b12fa26d0598ddc626e0a33ea3e2363fd7c8b2", func := "loop.example/g00587/laws.FnExactCountChoices", spec := "fnExactCountChoices", recurses := true, loops := true, apart := false }
def FnExactCountChoicesSaid : Prop := fnExactCountChoicesRow.holds Try.pinned (OpenSpec.ofChange fnExactCountChoicesSpec)

/-- ITS FALSE NEIGHBOUR: 'it returns false'. Refute it at one input. -/
def fnExactCountChoicesWrong : ChangeSpec := { name := "fnExactCountChoices", fn := fun _ => fun
  | [d1, d2] => { results := [.lit (.bool false)], args := [d1, d2] }
  | _ => none }
def FnExactCountChoicesWrongFalsely : Prop := fnExactCountChoicesRow.holds Try.pinned (OpenSpec.ofChange fnExactCountChoicesWrong)

/-- 'laws.FnExactCountJoins': WHATEVER THE INPUT: true; the input reads as it did. -/
def fnExactCountJoinsSpec : ChangeSpec := { name := "fnExactCountJoins", fn := fun _ => fun
  | [d] => { results := [.lit (.bool true)], args := [d] }
  | _ => none }
def fnExactCountJoinsRow : OpenClaim := { program := "ytffinppkbihofaa", sum := "bece03c7d111d3501b10fb7e77b12fa26d0598ddc626e0a33ea3e2363fd7c8b2", func := "loop.example/g00587/laws.FnExactCountJoins", spec := "fnExactCountJoins", recurses := true, loops := true, apart := false }
def FnExactCountJoinsSaid : Prop := fnExactCountJoinsRow.holds Try.pinned (OpenSpec.ofChange fnExactCountJoinsSpec)

/-- ITS FALSE NEIGHBOUR: 'it returns false'. Refute it at one input. -/
def fnExactCountJoinsWrong : ChangeSpec := { name := "fnExactCountJoins", fn := fun _ => fun
  | [d] => { results := [.lit (.bool false)], args := [d] }
  | _ => none }
def FnExactCountJoinsWrongFalsely : Prop := fnExactCountJoinsRow.holds Try.pinned (OpenSpec.ofChange fnExactCountJoinsWrong)

/-- 'laws.FnExactEqualPlan': WHATEVER THE INPUT: true; the input reads as it did. -/
def fnExactEqualPlanSpec : ChangeSpec := { name := "fnExactEqualPlan", fn := fun _ => fun
  | [d1, d2] => { results := [.lit (.bool true)], args := [d1, d2] }
  | _ => none }
def fnExactEqualPlanRow : OpenClaim := { program := "ytffinppkbihofaa", sum := "bece03c7d111d3501b10fb7e77b12fa26d0598ddc626e0a33ea3e2363fd7c8b2", func := "loop.example/g00587/laws.FnExactEqualPlan", spec := "fnExactEqualPlan", unfollowed := true, recurses := true, loops := true, apart := false }
def FnExactEqualPlanSaid : Prop := fnExactEqualPlanRow.holds Try.pinned (OpenSpec.ofChange fnExactEqualPlanSpec)

/-- ITS FALSE NEIGHBOUR: 'it returns false'. Refute it at one input. -/
def fnExactEqualPlanWrong : ChangeSpec := { name := "fnExactEqualPlan", fn := fun _ => fun
  | [d1, d2] => { results := [.lit (.bool false)], args := [d1, d2] }
  | _ => none }
def FnExactEqualPlanWrongFalsely : Prop := fnExactEqualPlanRow.holds Try.pinned (OpenSpec.ofChange fnExactEqualPlanWrong)

/-- 'laws.FnExactEqualRows': WHATEVER THE INPUT: true; the input reads as it did. -/
def fnExactEqualRowsSpec : ChangeSpec := { name := "fnExactEqualRows", fn := fun _ => fun
  | [d1, d2] => { results := [.lit (.bool true)], args := [d1, d2] }
  | _ => none }
def fnExactEqualRowsRow : OpenClaim := { program := "ytffinppkbihofaa", sum := "bece03c7d111d3501b10fb7e77b12fa26d0598ddc626e0a33ea3e2363fd7c8b2", func := "loop.example/g00587/laws.FnExactEqualRows", spec := "fnExactEqualRows", unfollowed := true, recurses := true, loops := true, apart := false }
def FnExactEqualRowsSaid : Prop := fnExactEqualRowsRow.holds Try.pinned (OpenSpec.ofChange fnExactEqualRowsSpec)

/-- ITS FALSE NEIGHBOUR: 'it returns false'. Refute it at one input. -/
def fnExactEqualRowsWrong : ChangeSpec := { name := "fnExactEqualRows", fn := fun _ => fun
  | [d1, d2] => { results := [.lit (.bool false)], args := [d1, d2] }
  | _ => none }
def FnExactEqualRowsWrongFalsely : Prop := fnExactEqualRowsRow.holds Try.pinned (OpenSpec.ofChange fnExactEqualRowsWrong)

/-- 'laws.FnExactPlanVars': WHATEVER THE INPUT: true; the input reads as it did. -/
def fnExactPlanVarsSpec : ChangeSpec := { name := "fnExactPlanVars", fn := fun _ => fun
  | [d] => { results := [.lit (.bool true)], args := [d] }
  | _ => none }
def fnExactPlanVarsRow : OpenClaim := { program := "ytffinppkbihofaa", sum := "bece03c7d111d3501b10fb7e77b12fa26d0598ddc626e0a33ea3e2363fd7c8b2", func := "loop.example/g00587/laws.FnExactPlanVars", spec := "fnExactPlanVars", recurses := true, loops := true, apart := false }
def FnExactPlanVarsSaid : Prop := fnExactPlanVarsRow.holds Try.pinned (OpenSpec.ofChange fnExactPlanVarsSpec)

/-- ITS FALSE NEIGHBOUR: 'it returns false'. Refute it at one input. -/
def fnExactPlanVarsWrong : ChangeSpec := { name := "fnExactPlanVars", fn := fun _ => fun
  | [d] => { results := [.lit (.bool false)], args := [d] }
  | _ => none }
def FnExactPlanVarsWrongFalsely : Prop := fnExactPlanVarsRow.holds Try.pinned (OpenSpec.ofChange fnExactPlanVarsWrong)

/-- 'laws.FnExactEqualFlat': WHATEVER THE INPUT: true; the input reads as it did. -/
def fnExactEqualFlatSpec : ChangeSpec := { name := "fnExactEqualFlat", fn := fun _ => fun
  | [d1, d2] => { results := [.lit (.bool true)], args := [d1, d2] }
  | _ => none }
def fnExactEqualFlatRow : OpenClaim := { program := "ytffinppkbihofaa", sum := "bece03c7d111d3501b10fb7e77b12fa26d0598ddc626e0a33ea3e2363fd7c8b2", func := "loop.example/g00587/laws.FnExactEqualFlat", spec := "fnExactEqualFlat", unfollowed := true, recurses := true, loops := true, apart := false }
def FnExactEqualFlatSaid : Prop := fnExactEqualFlatRow.holds Try.pinned (OpenSpec.ofChange fnExactEqualFlatSpec)

/-- ITS FALSE NEIGHBOUR: 'it returns false'. Refute it at one input. -/
def fnExactEqualFlatWrong : ChangeSpec := { name := "fnExactEqualFlat", fn := fun _ => fun
  | [d1, d2] => { results := [.lit (.bool false)], args := [d1, d2] }
  | _ => none }
def FnExactEqualFlatWrongFalsely : Prop := fnExactEqualFlatRow.holds Try.pinned (OpenSpec.ofChange fnExactEqualFlatWrong)

/-- 'laws.FnExactEqualFlats': WHATEVER THE INPUT: true; the input reads as it did. -/
def fnExactEqualFlatsSpec : ChangeSpec := { name := "fnExactEqualFlats", fn := fun _ => fun
  | [d1, d2] => { results := [.lit (.bool true)], args := [d1, d2] }
  | _ => none }
def fnExactEqualFlatsRow : OpenClaim := { program := "ytffinppkbihofaa", sum := "bece03c7d111d3501b10fb7e77b12fa26d0598ddc626e0a33ea3e2363fd7c8b2", func := "loop.example/g00587/laws.FnExactEqualFlats", spec := "fnExactEqualFlats", unfollowed := true, recurses := true, loops := true, apart := false }
def FnExactEqualFlatsSaid : Prop := fnExactEqualFlatsRow.holds Try.pinned (OpenSpec.ofChange fnExactEqualFlatsSpec)

/-- ITS FALSE NEIGHBOUR: 'it returns false'. Refute it at one input. -/
def fnExactEqualFlatsWrong : ChangeSpec := { name := "fnExactEqualFlats", fn := fun _ => fun
  | [d1, d2] => { results := [.lit (.bool false)], args := [d1, d2] }
  | _ => none }
def FnExactEqualFlatsWrongFalsely : Prop := fnExactEqualFlatsRow.holds Try.pinned (OpenSpec.ofChange fnExactEqualFlatsWrong)

/- THE SECOND FORM. 'bulk': how many values and letters a reading holds, each counted each time it is reached (what is shared counts as often as it is met; a slice's spare places count too). A statement '..UptoSaid' is the law's where the arguments, and the package variables that the reading takes, are together of bulk at most 1048576: NARROWER than '..Said'. Prove '..Said' where nothing that the law and all that it calls make is longer than what came in: it says more and counts as full. Else prove '..UptoSaid'. A law counts once. -/
mutual
def uptoBulk {H : Type} : DataW H → Nat
  | .lit (.string bytes) => bytes.length + 1
  | .lit _ => 1
  | .nil => 1
  | .ptr d => uptoBulk d + 1
  | .slice elems spare => uptoBulkAll elems + uptoBulkAll spare + 1
  | .agg parts => uptoBulkAll parts + 1
  | .iface _ d => uptoBulk d + 1
  | .map entries => uptoBulkEntries entries + 1
  | .held _ => 1
def uptoBulkAll {H : Type} : List (DataW H) → Nat
  | [] => 0
  | d :: r => uptoBulk d + uptoBulkAll r
def uptoBulkEntries {H : Type} : List (Lit × DataW H) → Nat
  | [] => 0
  | x :: r => uptoBulkEntry x + uptoBulkEntries r
def uptoBulkEntry {H : Type} : Lit × DataW H → Nat
  | (.string bytes, d) => bytes.length + uptoBulk d + 1
  | (_, d) => uptoBulk d + 1
 end
def uptoSmall : (H : Type) → List (DataW H) → Bool := fun _ ds => decide (uptoBulkAll ds ≤ 1048576)
def OpenSpec.upto (s : _root_.Go.ChangeSpec) : _root_.Go.OpenSpec := { _root_.Go.OpenSpec.ofChange s with cond := some uptoSmall }

/-- 'laws.FnExactEqualPath', WHERE WHAT IT READS IS OF BULK AT MOST 1048576: true; the input reads as it did. -/
def fnExactEqualPathUptoRow : OpenClaim := { program := "ytffinppkbihofaa", sum := "bece03c7d111d3501b10fb7e77b12fa26d0598ddc626e0a33ea3e2363fd7c8b2", func := "loop.example/g00587/laws.FnExactEqualPath", spec := "fnExactEqualPath", apart := false, narrowed := true }
def FnExactEqualPathUptoSaid : Prop := fnExactEqualPathUptoRow.holds Try.pinned (OpenSpec.upto fnExactEqualPathSpec)

/-- 'laws.FnExactEqualKey', WHERE WHAT IT READS IS OF BULK AT MOST 1048576: true; the input reads as it did. -/
def fnExactEqualKeyUptoRow : OpenClaim := { program := "ytffinppkbihofaa", sum := "bece03c7d111d3501b10fb7e77b12fa26d0598ddc626e0a33ea3e2363fd7c8b2", func := "loop.example/g00587/laws.FnExactEqualKey", spec := "fnExactEqualKey", apart := false, narrowed := true }
def FnExactEqualKeyUptoSaid : Prop := fnExactEqualKeyUptoRow.holds Try.pinned (OpenSpec.upto fnExactEqualKeySpec)

/-- 'laws.FnExactPathText', WHERE WHAT IT READS IS OF BULK AT MOST 1048576: true; the input reads as it did. -/
def fnExactPathTextUptoRow : OpenClaim := { program := "ytffinppkbihofaa", sum := "bece03c7d111d3501b10fb7e77b12fa26d0598ddc626e0a33ea3e2363fd7c8b2", func := "loop.example/g00587/laws.FnExactPathText", spec := "fnExactPathText", inPlace := ["internal/abi.NoEscape", "internal/bytealg.MakeNoZero"], apart := false, narrowed := true }
def FnExactPathTextUptoSaid : Prop := fnExactPathTextUptoRow.holds Try.pinned (OpenSpec.upto fnExactPathTextSpec)

/-- 'laws.FnExactEqualNums', WHERE WHAT IT READS IS OF BULK AT MOST 1048576: true; the input reads as it did. -/
def fnExactEqualNumsUptoRow : OpenClaim := { program := "ytffinppkbihofaa", sum := "bece03c7d111d3501b10fb7e77b12fa26d0598ddc626e0a33ea3e2363fd7c8b2", func := "loop.example/g00587/laws.FnExactEqualNums", spec := "fnExactEqualNums", unfollowed := true, recurses := true, loops := true, apart := false, narrowed := true }
def FnExactEqualNumsUptoSaid : Prop := fnExactEqualNumsUptoRow.holds Try.pinned (OpenSpec.upto fnExactEqualNumsSpec)

/-- 'laws.FnExactCountChoices', WHERE WHAT IT READS IS OF BULK AT MOST 1048576: true; the input reads as it did. -/
def fnExactCountChoicesUptoRow : OpenClaim := { program := "ytffinppkbihofaa", sum := "bece03c7d111d3501b10fb7e77b12fa26d0598ddc626e0a33ea3e2363fd7c8b2", func := "loop.example/g00587/laws.FnExactCountChoices", spec := "fnExactCountChoices", recurses := true, loops := true, apart := false, narrowed := true }
def FnExactCountChoicesUptoSaid : Prop := fnExactCountChoicesUptoRow.holds Try.pinned (OpenSpec.upto fnExactCountChoicesSpec)

/-- 'laws.FnExactCountJoins', WHERE WHAT IT READS IS OF BULK AT MOST 1048576: true; the input reads as it did. -/
def fnExactCountJoinsUptoRow : OpenClaim := { program := "ytffinppkbihofaa", sum := "bece03c7d111d3501b10fb7e77b12fa26d0598ddc626e0a33ea3e2363fd7c8b2", func := "loop.example/g00587/laws.FnExactCountJoins", spec := "fnExactCountJoins", recurses := true, loops := true, apart := false, narrowed := true }
def FnExactCountJoinsUptoSaid : Prop := fnExactCountJoinsUptoRow.holds Try.pinned (OpenSpec.upto fnExactCountJoinsSpec)

/-- 'laws.FnExactEqualPlan', WHERE WHAT IT READS IS OF BULK AT MOST 1048576: true; the input reads as it did. -/
def fnExactEqualPlanUptoRow : OpenClaim := { program := "ytffinppkbihofaa", sum := "bece03c7d111d3501b10fb7e77b12fa26d0598ddc626e0a33ea3e2363fd7c8b2", func := "loop.example/g00587/laws.FnExactEqualPlan", spec := "fnExactEqualPlan", unfollowed := true, recurses := true, loops := true, apart := false, narrowed := true }
def FnExactEqualPlanUptoSaid : Prop := fnExactEqualPlanUptoRow.holds Try.pinned (OpenSpec.upto fnExactEqualPlanSpec)

/-- 'laws.FnExactEqualRows', WHERE WHAT IT READS IS OF BULK AT MOST 1048576: true; the input reads as it did. -/
def fnExactEqualRowsUptoRow : OpenClaim := { program := "ytffinppkbihofaa", sum := "bece03c7d111d3501b10fb7e77b12fa26d0598ddc626e0a33ea3e2363fd7c8b2", func := "loop.example/g00587/laws.FnExactEqualRows", spec := "fnExactEqualRows", unfollowed := true, recurses := true, loops := true, apart := false, narrowed := true }
def FnExactEqualRowsUptoSaid : Prop := fnExactEqualRowsUptoRow.holds Try.pinned (OpenSpec.upto fnExactEqualRowsSpec)

/-- 'laws.FnExactPlanVars', WHERE WHAT IT READS IS OF BULK AT MOST 1048576: true; the input reads as it did. -/
def fnExactPlanVarsUptoRow : OpenClaim := { program := "ytffinppkbihofaa", sum := "bece03c7d111d3501b10fb7e77b12fa26d0598ddc626e0a33ea3e2363fd7c8b2", func := "loop.example/g00587/laws.FnExactPlanVars", spec := "fnExactPlanVars", recurses := true, loops := true, apart := false, narrowed := true }
def FnExactPlanVarsUptoSaid : Prop := fnExactPlanVarsUptoRow.holds Try.pinned (OpenSpec.upto fnExactPlanVarsSpec)

/-- 'laws.FnExactEqualFlat', WHERE WHAT IT READS IS OF BULK AT MOST 1048576: true; the input reads as it did. -/
def fnExactEqualFlatUptoRow : OpenClaim := { program := "ytffinppkbihofaa", sum := "bece03c7d111d3501b10fb7e77b12fa26d0598ddc626e0a33ea3e2363fd7c8b2", func := "loop.example/g00587/laws.FnExactEqualFlat", spec := "fnExactEqualFlat", unfollowed := true, recurses := true, loops := true, apart := false, narrowed := true }
def FnExactEqualFlatUptoSaid : Prop := fnExactEqualFlatUptoRow.holds Try.pinned (OpenSpec.upto fnExactEqualFlatSpec)

/-- 'laws.FnExactEqualFlats', WHERE WHAT IT READS IS OF BULK AT MOST 1048576: true; the input reads as it did. -/
def fnExactEqualFlatsUptoRow : OpenClaim := { program := "ytffinppkbihofaa", sum := "bece03c7d111d3501b10fb7e77b12fa26d0598ddc626e0a33ea3e2363fd7c8b2", func := "loop.example/g00587/laws.FnExactEqualFlats", spec := "fnExactEqualFlats", unfollowed := true, recurses := true, loops := true, apart := false, narrowed := true }
def FnExactEqualFlatsUptoSaid : Prop := fnExactEqualFlatsUptoRow.holds Try.pinned (OpenSpec.upto fnExactEqualFlatsSpec)

end Rows
end Go.Proofs.Ytffinppkbihofaa
