/-
  DERIVED. GIVEN WITH THE SEED: THE CARDS: each row of YtcfpgocffglbhaaGreatDoorRows.lean that lists a variable, with what it lists TIED to the program's text (the seventh form; the later family's looks); each row that meets fmt, with fmt's text TOLD by the authors' own Lean function (tested against real Go, not proved from fmt's source: count such statements apart). THE CARD IS WHAT COUNTS. Prove the row's statement (the work); the ties are given (YtcfpgocffglbhaaGreatDoorTie.lean); close each card by the builder's one call (the guide's Derived/Test/ToyasCard.lean, 'card_holds'). Laid BY PROGRAM, IN A SANDBOX (cutbox-door.mjs). By AI agents, Wed Nov 11 2026. No macro, syntax, notation, axiom, sorry.
-/
import Derived.Test.YtcfpgocffglbhaaGreatDoorRows
import GoSem.ClaimSeven
namespace Go.Proofs.YtcfpgocffglbhaaGreatDoor
namespace Rows

/-- THE TIED CARD OF 'laws.FnExactBuild'. -/
def fnExactBuildCard : Claim7 := { stood := { row := fnExactBuildRow, standIns := [], harness := (true, "7033deea21ef6f974c74a1655ebbb1ea02430d50349661b1485a2556e0810684"), looks := false }, kinds := [], alts := [], laidByText := true, laidKinds := [.data, .pinned], laidTests := true, laidLooks := .later }
def FnExactBuildCardSaid : Prop := Claim7.holds Tryz.pinned (.plain (OpenSpec.ofChange fnExactBuildSpec)) fnExactBuildCard

/-- THE SECOND FORM's CARD OF 'laws.FnExactBuild'. -/
def fnExactBuildUptoCard : Claim7 := { stood := { row := fnExactBuildUptoRow, standIns := [], harness := (true, "7033deea21ef6f974c74a1655ebbb1ea02430d50349661b1485a2556e0810684"), looks := false }, kinds := [], alts := [], laidByText := true, laidKinds := [.data, .pinned], laidTests := true, laidLooks := .later }
def FnExactBuildUptoCardSaid : Prop := Claim7.holds Tryz.pinned (.plain (OpenSpec.upto fnExactBuildSpec)) fnExactBuildUptoCard
end Rows
end Go.Proofs.YtcfpgocffglbhaaGreatDoor
