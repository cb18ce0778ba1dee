/-
  DERIVED. GIVEN WITH THE SEED: THE CARDS: each row of YtabfgfbmfmpdnaaDoorRows.lean that lists a variable, with what it lists TIED to the program's text (the seventh form; the later family's looks); each row that meets fmt, with fmt's text TOLD by the authors' own Lean function (tested against real Go, not proved from fmt's source: count such statements apart). THE CARD IS WHAT COUNTS. Prove the row's statement (the work); the ties are given (YtabfgfbmfmpdnaaDoorTie.lean); close each card by the builder's one call (the guide's Derived/Test/ToyasCard.lean, 'card_holds'). Laid BY PROGRAM, IN A SANDBOX (cutbox-door.mjs). By AI agents, Wed Nov 11 2026. No macro, syntax, notation, axiom, sorry.
-/
import Derived.Test.YtabfgfbmfmpdnaaDoorRows
import GoSem.ClaimSeven
namespace Go.Proofs.YtabfgfbmfmpdnaaDoor
namespace Rows

/-- THE TIED CARD OF 'laws.FnExactKeyText'. -/
def fnExactKeyTextCard : Claim7 := { stood := { row := fnExactKeyTextRow, standIns := [], harness := (true, "d10449c4c3e197d4be5ec743c9c40c4b88a6f534969a5908a1c5673c06688bfc"), looks := false }, kinds := [], alts := [], laidByText := true, laidKinds := [.data, .data, .data], laidTests := true, laidLooks := .later }
def FnExactKeyTextCardSaid : Prop := Claim7.holds Tryd.pinned (.plain (OpenSpec.ofChange fnExactKeyTextSpec)) fnExactKeyTextCard

/-- THE TIED CARD OF 'laws.FnExactNumberOf'. -/
def fnExactNumberOfCard : Claim7 := { stood := { row := fnExactNumberOfRow, standIns := [], harness := (true, "d10449c4c3e197d4be5ec743c9c40c4b88a6f534969a5908a1c5673c06688bfc"), looks := false }, kinds := [], alts := [], laidByText := true, laidKinds := [.data, .data, .data], laidTests := true, laidLooks := .later }
def FnExactNumberOfCardSaid : Prop := Claim7.holds Tryd.pinned (.plain (OpenSpec.ofChange fnExactNumberOfSpec)) fnExactNumberOfCard

/-- THE TIED CARD OF 'laws.FnExactNumberRows'. -/
def fnExactNumberRowsCard : Claim7 := { stood := { row := fnExactNumberRowsRow, standIns := [], harness := (true, "d10449c4c3e197d4be5ec743c9c40c4b88a6f534969a5908a1c5673c06688bfc"), looks := false }, kinds := [], alts := [], laidByText := true, laidKinds := [.data, .data, .data], laidTests := true, laidLooks := .later }
def FnExactNumberRowsCardSaid : Prop := Claim7.holds Tryd.pinned (.plain (OpenSpec.ofChange fnExactNumberRowsSpec)) fnExactNumberRowsCard

/-- THE SECOND FORM's CARD OF 'laws.FnExactKeyText'. -/
def fnExactKeyTextUptoCard : Claim7 := { stood := { row := fnExactKeyTextUptoRow, standIns := [], harness := (true, "d10449c4c3e197d4be5ec743c9c40c4b88a6f534969a5908a1c5673c06688bfc"), looks := false }, kinds := [], alts := [], laidByText := true, laidKinds := [.data, .data, .data], laidTests := true, laidLooks := .later }
def FnExactKeyTextUptoCardSaid : Prop := Claim7.holds Tryd.pinned (.plain (OpenSpec.upto fnExactKeyTextSpec)) fnExactKeyTextUptoCard

/-- THE SECOND FORM's CARD OF 'laws.FnExactNumberOf'. -/
def fnExactNumberOfUptoCard : Claim7 := { stood := { row := fnExactNumberOfUptoRow, standIns := [], harness := (true, "d10449c4c3e197d4be5ec743c9c40c4b88a6f534969a5908a1c5673c06688bfc"), looks := false }, kinds := [], alts := [], laidByText := true, laidKinds := [.data, .data, .data], laidTests := true, laidLooks := .later }
def FnExactNumberOfUptoCardSaid : Prop := Claim7.holds Tryd.pinned (.plain (OpenSpec.upto fnExactNumberOfSpec)) fnExactNumberOfUptoCard

/-- THE SECOND FORM's CARD OF 'laws.FnExactNumberRows'. -/
def fnExactNumberRowsUptoCard : Claim7 := { stood := { row := fnExactNumberRowsUptoRow, standIns := [], harness := (true, "d10449c4c3e197d4be5ec743c9c40c4b88a6f534969a5908a1c5673c06688bfc"), looks := false }, kinds := [], alts := [], laidByText := true, laidKinds := [.data, .data, .data], laidTests := true, laidLooks := .later }
def FnExactNumberRowsUptoCardSaid : Prop := Claim7.holds Tryd.pinned (.plain (OpenSpec.upto fnExactNumberRowsSpec)) fnExactNumberRowsUptoCard
end Rows
end Go.Proofs.YtabfgfbmfmpdnaaDoor
