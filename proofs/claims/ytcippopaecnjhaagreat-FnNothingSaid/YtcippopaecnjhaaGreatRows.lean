/-
  No cell of these rows narrows 'for every input' (looked for: loops, veiled, ifaces, maps, wideKeys, modest, calm, conditions, laid).
  DERIVED. THE GIVEN ROWS OF THIS SEAT. 2 by the template 'for every input the law returns true; each argument reads behind the call as it read before'; 0 by the template 'total and deterministic' (their statements: YtcippopaecnjhaaGreatTotals.lean).
  GIVEN WITH THE SEED: the statements are not yours to turn. If you find one false, say at which input.
  Laid BY PROGRAM, IN A SANDBOX (cutbox-rows.mjs): the forced cells as the released guide's own fill.sh prints them over the translation e347ca8c9f5283e2… (all of the seat's roots in one cut). By AI agents, Wed Nov 11 2026. No macro, syntax, notation, axiom, sorry.
-/
import Derived.Test.YtcippopaecnjhaaGreatChecked
import GoSem.Claim
import GoSem.ClaimJoined
import GoSem.ClaimMapViews
import Derived.JoinedTies
import Derived.KernelRfl
namespace Go.Proofs.YtcippopaecnjhaaGreat
/- THE CELL 'sum', in the pinned program and in every row, IS THE sha256 OF THE DUMP (.gsa) THAT YtcippopaecnjhaaGreatProg.lean LOADS. Nothing in Lean hashes anything: it is a label: what it is worth is what the hold of that sum in a sandbox is worth. -/
noncomputable def Tryz.pinned : Pinned := { name := "ytcippopaecnjhaagreat", sum := "e347ca8c9f5283e2170ebe042faa195b78967f3a45aa2564a4b4128fb9b996a4", checked := Tryz.checked }
namespace Rows
def none {H : Type} : Left H := { results := [], args := [] }

/-- 'laws.FnExactEngNew': WHATEVER THE INPUT: true; the input reads as it did. -/
def fnExactEngNewSpec : ChangeSpec := { name := "fnExactEngNew", fn := fun _ => fun
  | [d1, d2] => { results := [.lit (.bool true)], args := [d1, d2] }
  | _ => none }
def fnExactEngNewRow : OpenClaim := { program := "ytcippopaecnjhaagreat", sum := "e347ca8c9f5283e2170ebe042faa195b78967f3a45aa2564a4b4128fb9b996a4", func := "loop.example/g00285/laws.FnExactEngNew", spec := "fnExactEngNew", unfollowed := true, recurses := true, apart := false }
def FnExactEngNewSaid : Prop := fnExactEngNewRow.holds Tryz.pinned (OpenSpec.ofChange fnExactEngNewSpec)

/-- ITS FALSE NEIGHBOUR: 'it returns false'. Refute it at one input. -/
def fnExactEngNewWrong : ChangeSpec := { name := "fnExactEngNew", fn := fun _ => fun
  | [d1, d2] => { results := [.lit (.bool false)], args := [d1, d2] }
  | _ => none }
def FnExactEngNewWrongFalsely : Prop := fnExactEngNewRow.holds Tryz.pinned (OpenSpec.ofChange fnExactEngNewWrong)

/-- 'laws.FnNothing': WHATEVER THE INPUT: true; the input reads as it did. -/
def fnNothingSpec : ChangeSpec := { name := "fnNothing", fn := fun _ => fun
  | [d] => { results := [.lit (.bool true)], args := [d] }
  | _ => none }
def fnNothingRow : OpenClaim := { program := "ytcippopaecnjhaagreat", sum := "e347ca8c9f5283e2170ebe042faa195b78967f3a45aa2564a4b4128fb9b996a4", func := "loop.example/g00285/laws.FnNothing", spec := "fnNothing", unfollowed := true, recurses := true, apart := false }
def FnNothingSaid : Prop := fnNothingRow.holds Tryz.pinned (OpenSpec.ofChange fnNothingSpec)

/-- ITS FALSE NEIGHBOUR: 'it returns false'. Refute it at one input. -/
def fnNothingWrong : ChangeSpec := { name := "fnNothing", fn := fun _ => fun
  | [d] => { results := [.lit (.bool false)], args := [d] }
  | _ => none }
def FnNothingWrongFalsely : Prop := fnNothingRow.holds Tryz.pinned (OpenSpec.ofChange fnNothingWrong)

/- THE SECOND FORM. 'bulk': how many values and letters a reading holds, each counted each time it is reached (what is shared counts as often as it is met; a slice's spare places count too). A statement '..UptoSaid' is the law's where the arguments, and the package variables that the reading takes, are together of bulk at most 1048576: NARROWER than '..Said'. Prove '..Said' where nothing that the law and all that it calls make is longer than what came in: it says more and counts as full. Else prove '..UptoSaid'. A law counts once. -/
mutual
def uptoBulk {H : Type} : DataW H → Nat
  | .lit (.string bytes) => bytes.length + 1
  | .lit _ => 1
  | .nil => 1
  | .ptr d => uptoBulk d + 1
  | .slice elems spare => uptoBulkAll elems + uptoBulkAll spare + 1
  | .agg parts => uptoBulkAll parts + 1
  | .iface _ d => uptoBulk d + 1
  | .map entries => uptoBulkEntries entries + 1
  | .held _ => 1
def uptoBulkAll {H : Type} : List (DataW H) → Nat
  | [] => 0
  | d :: r => uptoBulk d + uptoBulkAll r
def uptoBulkEntries {H : Type} : List (Lit × DataW H) → Nat
  | [] => 0
  | x :: r => uptoBulkEntry x + uptoBulkEntries r
def uptoBulkEntry {H : Type} : Lit × DataW H → Nat
  | (.string bytes, d) => bytes.length + uptoBulk d + 1
  | (_, d) => uptoBulk d + 1
 end
def uptoSmall : (H : Type) → List (DataW H) → Bool := fun _ ds => decide (uptoBulkAll ds ≤ 1048576)
def OpenSpec.upto (s : _root_.Go.ChangeSpec) : _root_.Go.OpenSpec := { _root_.Go.OpenSpec.ofChange s with cond := some uptoSmall }

/-- 'laws.FnExactEngNew', WHERE WHAT IT READS IS OF BULK AT MOST 1048576: true; the input reads as it did. -/
def fnExactEngNewUptoRow : OpenClaim := { program := "ytcippopaecnjhaagreat", sum := "e347ca8c9f5283e2170ebe042faa195b78967f3a45aa2564a4b4128fb9b996a4", func := "loop.example/g00285/laws.FnExactEngNew", spec := "fnExactEngNew", unfollowed := true, recurses := true, apart := false, narrowed := true }
def FnExactEngNewUptoSaid : Prop := fnExactEngNewUptoRow.holds Tryz.pinned (OpenSpec.upto fnExactEngNewSpec)

/-- 'laws.FnNothing', WHERE WHAT IT READS IS OF BULK AT MOST 1048576: true; the input reads as it did. -/
def fnNothingUptoRow : OpenClaim := { program := "ytcippopaecnjhaagreat", sum := "e347ca8c9f5283e2170ebe042faa195b78967f3a45aa2564a4b4128fb9b996a4", func := "loop.example/g00285/laws.FnNothing", spec := "fnNothing", unfollowed := true, recurses := true, apart := false, narrowed := true }
def FnNothingUptoSaid : Prop := fnNothingUptoRow.holds Tryz.pinned (OpenSpec.upto fnNothingSpec)

end Rows
end Go.Proofs.YtcippopaecnjhaaGreat
