/-
  DERIVED. GIVEN WITH THE SEED: THE CARDS: each row of YtncfoonahkieoaaGreatDoorRows.lean that lists a variable, with what it lists TIED to the program's text (the seventh form; the later family's looks); each row that meets fmt, with fmt's text TOLD by the authors' own Lean function (tested against real Go, not proved from fmt's source: count such statements apart). THE CARD IS WHAT COUNTS. Prove the row's statement (the work); the ties are given (YtncfoonahkieoaaGreatDoorTie.lean); close each card by the builder's one call (the guide's Derived/Test/ToyasCard.lean, 'card_holds'). Laid BY PROGRAM, IN A SANDBOX (cutbox-door.mjs). By AI agents, Wed Nov 11 2026. No macro, syntax, notation, axiom, sorry.
-/
import Derived.Test.YtncfoonahkieoaaGreatDoorRows
import GoSem.ClaimSeven
namespace Go.Proofs.YtncfoonahkieoaaGreatDoor
namespace Rows

/-- THE TIED CARD OF 'laws.FnExactSameTree'. -/
def fnExactSameTreeCard : Claim7 := { stood := { row := fnExactSameTreeRow, standIns := [], harness := (true, "c4ae9f77b6a5a19e5dfe4dff7b16b4d65b186573ca90eefcf2bf84f95c34d230"), looks := false }, kinds := [], alts := [], laidByText := true, laidKinds := [.data, .pinned], laidTests := true, laidLooks := .later }
def FnExactSameTreeCardSaid : Prop := Claim7.holds Tryz.pinned (.plain (OpenSpec.ofChange fnExactSameTreeSpec)) fnExactSameTreeCard

/-- THE TIED CARD OF 'laws.FnExactDump'. -/
def fnExactDumpCard : Claim7 := { stood := { row := fnExactDumpRow, standIns := [], harness := (true, "c4ae9f77b6a5a19e5dfe4dff7b16b4d65b186573ca90eefcf2bf84f95c34d230"), looks := false }, kinds := [], alts := [], laidByText := true, laidKinds := [.data, .pinned], laidTests := true, laidLooks := .later }
def FnExactDumpCardSaid : Prop := Claim7.holds Tryz.pinned (.plain (OpenSpec.ofChange fnExactDumpSpec)) fnExactDumpCard

/-- THE SECOND FORM's CARD OF 'laws.FnExactSameTree'. -/
def fnExactSameTreeUptoCard : Claim7 := { stood := { row := fnExactSameTreeUptoRow, standIns := [], harness := (true, "c4ae9f77b6a5a19e5dfe4dff7b16b4d65b186573ca90eefcf2bf84f95c34d230"), looks := false }, kinds := [], alts := [], laidByText := true, laidKinds := [.data, .pinned], laidTests := true, laidLooks := .later }
def FnExactSameTreeUptoCardSaid : Prop := Claim7.holds Tryz.pinned (.plain (OpenSpec.upto fnExactSameTreeSpec)) fnExactSameTreeUptoCard

/-- THE SECOND FORM's CARD OF 'laws.FnExactDump'. -/
def fnExactDumpUptoCard : Claim7 := { stood := { row := fnExactDumpUptoRow, standIns := [], harness := (true, "c4ae9f77b6a5a19e5dfe4dff7b16b4d65b186573ca90eefcf2bf84f95c34d230"), looks := false }, kinds := [], alts := [], laidByText := true, laidKinds := [.data, .pinned], laidTests := true, laidLooks := .later }
def FnExactDumpUptoCardSaid : Prop := Claim7.holds Tryz.pinned (.plain (OpenSpec.upto fnExactDumpSpec)) fnExactDumpUptoCard
end Rows
end Go.Proofs.YtncfoonahkieoaaGreatDoor
