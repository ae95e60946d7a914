/-
  DERIVED. GIVEN WITH THE SEED: THE CARDS: each row of YtdclnhlpifahpaaDoorRows.lean that lists a variable, with what it lists TIED to the program's text (the seventh form; the later family's looks); each row that meets fmt, with fmt's text TOLD by the authors' own Lean function (tested against real Go, not proved from fmt's source: count such statements apart). THE CARD IS WHAT COUNTS. Prove the row's statement (the work); the ties are given (YtdclnhlpifahpaaDoorTie.lean); close each card by the builder's one call (the guide's Derived/Test/ToyasCard.lean, 'card_holds'). Laid BY PROGRAM, IN A SANDBOX (cutbox-door.mjs). By AI agents, Wed Nov 11 2026. No macro, syntax, notation, axiom, sorry.
-/
import Derived.Test.YtdclnhlpifahpaaDoorRows
import GoSem.ClaimSeven
namespace Go.Proofs.YtdclnhlpifahpaaDoor
namespace Rows

/-- THE TIED CARD OF 'laws.FnExactEntriesOk'. -/
def fnExactEntriesOkCard : Claim7 := { stood := { row := fnExactEntriesOkRow, standIns := [], harness := (true, "d21669ba3988ce535b8018e2cd13ef9e536cabdbfe239515c19bd476c560c2f1"), looks := false }, kinds := [], alts := [], laidByText := true, laidKinds := [.data, .pinned], laidTests := true, laidLooks := .later }
def FnExactEntriesOkCardSaid : Prop := Claim7.holds Tryd.pinned (.plain (OpenSpec.ofChange fnExactEntriesOkSpec)) fnExactEntriesOkCard

/-- THE SECOND FORM's CARD OF 'laws.FnExactEntriesOk'. -/
def fnExactEntriesOkUptoCard : Claim7 := { stood := { row := fnExactEntriesOkUptoRow, standIns := [], harness := (true, "d21669ba3988ce535b8018e2cd13ef9e536cabdbfe239515c19bd476c560c2f1"), looks := false }, kinds := [], alts := [], laidByText := true, laidKinds := [.data, .pinned], laidTests := true, laidLooks := .later }
def FnExactEntriesOkUptoCardSaid : Prop := Claim7.holds Tryd.pinned (.plain (OpenSpec.upto fnExactEntriesOkSpec)) fnExactEntriesOkUptoCard
end Rows
end Go.Proofs.YtdclnhlpifahpaaDoor
