/-
  No cell of these rows narrows 'for every input' (looked for: loops, veiled, ifaces, maps, wideKeys, modest, calm, conditions, laid).
  DERIVED. THE GIVEN ROWS OF THIS SEAT. 7 by the template 'for every input the law returns true; each argument reads behind the call as it read before'; 0 by the template 'total and deterministic' (their statements: YtejeinhdlcgkgaaTotals.lean).
  GIVEN WITH THE SEED: the statements are not yours to turn. If you find one false, say at which input.
  Laid BY PROGRAM, IN A SANDBOX (cutbox-rows.mjs): the forced cells as the released guide's own fill.sh prints them over the translation 4fe42717c5d71303… (all of the seat's roots in one cut). By AI agents, Wed Nov 11 2026. No macro, syntax, notation, axiom, sorry.
-/
import Derived.Test.YtejeinhdlcgkgaaChecked
import GoSem.Claim
import GoSem.ClaimJoined
import GoSem.ClaimMapViews
import Derived.JoinedTies
import Derived.KernelRfl
namespace Go.Proofs.Ytejeinhdlcgkgaa
/- THE CELL 'sum', in the pinned program and in every row, IS THE sha256 OF THE DUMP (.gsa) THAT YtejeinhdlcgkgaaProg.lean LOADS. Nothing in Lean hashes anything: it is a label: what it is worth is what the hold of that sum in a sandbox is worth. -/
noncomputable def Try.pinned : Pinned := { name := "ytejeinhdlcgkgaa", sum := "4fe42717c5d71303e352c5e889ef0656e152e819d5c8abd661ccb19c3bf3de30", checked := Try.checked }
namespace Rows
def none {H : Type} : Left H := { results := [], args := [] }

/-- 'laws.FnExactAddrOf': WHATEVER THE INPUT: true; the input reads as it did. -/
def fnExactAddrOfSpec : ChangeSpec := { name := "fnExactAddrOf", fn := fun _ => fun
  | [d1, d2] => { results := [.lit (.bool true)], args := [d1, d2] }
  | _ => none }
def fnExactAddrOfRow : OpenClaim := { program := "ytejeinhdlcgkgaa", sum := "4fe42717c5d71303e352c5e889ef0656e152e819d5c8abd661ccb19c3bf3de30", func := "loop.example/g00285/laws.FnExactAddrOf", spec := "fnExactAddrOf", apart := false }
def FnExactAddrOfSaid : Prop := fnExactAddrOfRow.holds Try.pinned (OpenSpec.ofChange fnExactAddrOfSpec)

/-- ITS FALSE NEIGHBOUR: 'it returns false'. Refute it at one input. -/
def fnExactAddrOfWrong : ChangeSpec := { name := "fnExactAddrOf", fn := fun _ => fun
  | [d1, d2] => { results := [.lit (.bool false)], args := [d1, d2] }
  | _ => none }
def FnExactAddrOfWrongFalsely : Prop := fnExactAddrOfRow.holds Try.pinned (OpenSpec.ofChange fnExactAddrOfWrong)

/-- 'laws.FnExactMapOk': WHATEVER THE INPUT: true; the input reads as it did. -/
def fnExactMapOkSpec : ChangeSpec := { name := "fnExactMapOk", fn := fun _ => fun
  | [d] => { results := [.lit (.bool true)], args := [d] }
  | _ => none }
def fnExactMapOkRow : OpenClaim := { program := "ytejeinhdlcgkgaa", sum := "4fe42717c5d71303e352c5e889ef0656e152e819d5c8abd661ccb19c3bf3de30", func := "loop.example/g00285/laws.FnExactMapOk", spec := "fnExactMapOk", apart := false }
def FnExactMapOkSaid : Prop := fnExactMapOkRow.holds Try.pinned (OpenSpec.ofChange fnExactMapOkSpec)

/-- ITS FALSE NEIGHBOUR: 'it returns false'. Refute it at one input. -/
def fnExactMapOkWrong : ChangeSpec := { name := "fnExactMapOk", fn := fun _ => fun
  | [d] => { results := [.lit (.bool false)], args := [d] }
  | _ => none }
def FnExactMapOkWrongFalsely : Prop := fnExactMapOkRow.holds Try.pinned (OpenSpec.ofChange fnExactMapOkWrong)

/-- 'laws.FnExactTableOk': WHATEVER THE INPUT: true; the input reads as it did. -/
def fnExactTableOkSpec : ChangeSpec := { name := "fnExactTableOk", fn := fun _ => fun
  | [d] => { results := [.lit (.bool true)], args := [d] }
  | _ => none }
def fnExactTableOkRow : OpenClaim := { program := "ytejeinhdlcgkgaa", sum := "4fe42717c5d71303e352c5e889ef0656e152e819d5c8abd661ccb19c3bf3de30", func := "loop.example/g00285/laws.FnExactTableOk", spec := "fnExactTableOk", unfollowed := true, recurses := true, apart := false }
def FnExactTableOkSaid : Prop := fnExactTableOkRow.holds Try.pinned (OpenSpec.ofChange fnExactTableOkSpec)

/-- ITS FALSE NEIGHBOUR: 'it returns false'. Refute it at one input. -/
def fnExactTableOkWrong : ChangeSpec := { name := "fnExactTableOk", fn := fun _ => fun
  | [d] => { results := [.lit (.bool false)], args := [d] }
  | _ => none }
def FnExactTableOkWrongFalsely : Prop := fnExactTableOkRow.holds Try.pinned (OpenSpec.ofChange fnExactTableOkWrong)

/-- 'laws.FnExactWearMost': WHATEVER THE INPUT: true; the input reads as it did. -/
def fnExactWearMostSpec : ChangeSpec := { name := "fnExactWearMost", fn := fun _ => fun
  | [d] => { results := [.lit (.bool true)], args := [d] }
  | _ => none }
def fnExactWearMostRow : OpenClaim := { program := "ytejeinhdlcgkgaa", sum := "4fe42717c5d71303e352c5e889ef0656e152e819d5c8abd661ccb19c3bf3de30", func := "loop.example/g00285/laws.FnExactWearMost", spec := "fnExactWearMost", apart := false }
def FnExactWearMostSaid : Prop := fnExactWearMostRow.holds Try.pinned (OpenSpec.ofChange fnExactWearMostSpec)

/-- ITS FALSE NEIGHBOUR: 'it returns false'. Refute it at one input. -/
def fnExactWearMostWrong : ChangeSpec := { name := "fnExactWearMost", fn := fun _ => fun
  | [d] => { results := [.lit (.bool false)], args := [d] }
  | _ => none }
def FnExactWearMostWrongFalsely : Prop := fnExactWearMostRow.holds Try.pinned (OpenSpec.ofChange fnExactWearMostWrong)

/-- 'laws.FnExactPutMap': WHATEVER THE INPUT: true; the input reads as it did. -/
def fnExactPutMapSpec : ChangeSpec := { name := "fnExactPutMap", fn := fun _ => fun
  | [d] => { results := [.lit (.bool true)], args := [d] }
  | _ => none }
def fnExactPutMapRow : OpenClaim := { program := "ytejeinhdlcgkgaa", sum := "4fe42717c5d71303e352c5e889ef0656e152e819d5c8abd661ccb19c3bf3de30", func := "loop.example/g00285/laws.FnExactPutMap", spec := "fnExactPutMap", apart := false }
def FnExactPutMapSaid : Prop := fnExactPutMapRow.holds Try.pinned (OpenSpec.ofChange fnExactPutMapSpec)

/-- ITS FALSE NEIGHBOUR: 'it returns false'. Refute it at one input. -/
def fnExactPutMapWrong : ChangeSpec := { name := "fnExactPutMap", fn := fun _ => fun
  | [d] => { results := [.lit (.bool false)], args := [d] }
  | _ => none }
def FnExactPutMapWrongFalsely : Prop := fnExactPutMapRow.holds Try.pinned (OpenSpec.ofChange fnExactPutMapWrong)

/-- 'laws.FnExactWearLeast': WHATEVER THE INPUT: true; the input reads as it did. -/
def fnExactWearLeastSpec : ChangeSpec := { name := "fnExactWearLeast", fn := fun _ => fun
  | [d] => { results := [.lit (.bool true)], args := [d] }
  | _ => none }
def fnExactWearLeastRow : OpenClaim := { program := "ytejeinhdlcgkgaa", sum := "4fe42717c5d71303e352c5e889ef0656e152e819d5c8abd661ccb19c3bf3de30", func := "loop.example/g00285/laws.FnExactWearLeast", spec := "fnExactWearLeast", apart := false }
def FnExactWearLeastSaid : Prop := fnExactWearLeastRow.holds Try.pinned (OpenSpec.ofChange fnExactWearLeastSpec)

/-- ITS FALSE NEIGHBOUR: 'it returns false'. Refute it at one input. -/
def fnExactWearLeastWrong : ChangeSpec := { name := "fnExactWearLeast", fn := fun _ => fun
  | [d] => { results := [.lit (.bool false)], args := [d] }
  | _ => none }
def FnExactWearLeastWrongFalsely : Prop := fnExactWearLeastRow.holds Try.pinned (OpenSpec.ofChange fnExactWearLeastWrong)

/-- 'laws.FnExactGetMap': WHATEVER THE INPUT: true; the input reads as it did. -/
def fnExactGetMapSpec : ChangeSpec := { name := "fnExactGetMap", fn := fun _ => fun
  | [d] => { results := [.lit (.bool true)], args := [d] }
  | _ => none }
def fnExactGetMapRow : OpenClaim := { program := "ytejeinhdlcgkgaa", sum := "4fe42717c5d71303e352c5e889ef0656e152e819d5c8abd661ccb19c3bf3de30", func := "loop.example/g00285/laws.FnExactGetMap", spec := "fnExactGetMap", apart := false }
def FnExactGetMapSaid : Prop := fnExactGetMapRow.holds Try.pinned (OpenSpec.ofChange fnExactGetMapSpec)

/-- ITS FALSE NEIGHBOUR: 'it returns false'. Refute it at one input. -/
def fnExactGetMapWrong : ChangeSpec := { name := "fnExactGetMap", fn := fun _ => fun
  | [d] => { results := [.lit (.bool false)], args := [d] }
  | _ => none }
def FnExactGetMapWrongFalsely : Prop := fnExactGetMapRow.holds Try.pinned (OpenSpec.ofChange fnExactGetMapWrong)

/- THE SECOND FORM. 'bulk': how many values and letters a reading holds, each counted each time it is reached (what is shared counts as often as it is met; a slice's spare places count too). A statement '..UptoSaid' is the law's where the arguments, and the package variables that the reading takes, are together of bulk at most 1048576: NARROWER than '..Said'. Prove '..Said' where nothing that the law and all that it calls make is longer than what came in: it says more and counts as full. Else prove '..UptoSaid'. A law counts once. -/
mutual
def uptoBulk {H : Type} : DataW H → Nat
  | .lit (.string bytes) => bytes.length + 1
  | .lit _ => 1
  | .nil => 1
  | .ptr d => uptoBulk d + 1
  | .slice elems spare => uptoBulkAll elems + uptoBulkAll spare + 1
  | .agg parts => uptoBulkAll parts + 1
  | .iface _ d => uptoBulk d + 1
  | .map entries => uptoBulkEntries entries + 1
  | .held _ => 1
def uptoBulkAll {H : Type} : List (DataW H) → Nat
  | [] => 0
  | d :: r => uptoBulk d + uptoBulkAll r
def uptoBulkEntries {H : Type} : List (Lit × DataW H) → Nat
  | [] => 0
  | x :: r => uptoBulkEntry x + uptoBulkEntries r
def uptoBulkEntry {H : Type} : Lit × DataW H → Nat
  | (.string bytes, d) => bytes.length + uptoBulk d + 1
  | (_, d) => uptoBulk d + 1
 end
def uptoSmall : (H : Type) → List (DataW H) → Bool := fun _ ds => decide (uptoBulkAll ds ≤ 1048576)
def OpenSpec.upto (s : _root_.Go.ChangeSpec) : _root_.Go.OpenSpec := { _root_.Go.OpenSpec.ofChange s with cond := some uptoSmall }

/-- 'laws.FnExactAddrOf', WHERE WHAT IT READS IS OF BULK AT MOST 1048576: true; the input reads as it did. -/
def fnExactAddrOfUptoRow : OpenClaim := { program := "ytejeinhdlcgkgaa", sum := "4fe42717c5d71303e352c5e889ef0656e152e819d5c8abd661ccb19c3bf3de30", func := "loop.example/g00285/laws.FnExactAddrOf", spec := "fnExactAddrOf", apart := false, narrowed := true }
def FnExactAddrOfUptoSaid : Prop := fnExactAddrOfUptoRow.holds Try.pinned (OpenSpec.upto fnExactAddrOfSpec)

/-- 'laws.FnExactMapOk', WHERE WHAT IT READS IS OF BULK AT MOST 1048576: true; the input reads as it did. -/
def fnExactMapOkUptoRow : OpenClaim := { program := "ytejeinhdlcgkgaa", sum := "4fe42717c5d71303e352c5e889ef0656e152e819d5c8abd661ccb19c3bf3de30", func := "loop.example/g00285/laws.FnExactMapOk", spec := "fnExactMapOk", apart := false, narrowed := true }
def FnExactMapOkUptoSaid : Prop := fnExactMapOkUptoRow.holds Try.pinned (OpenSpec.upto fnExactMapOkSpec)

/-- 'laws.FnExactTableOk', WHERE WHAT IT READS IS OF BULK AT MOST 1048576: true; the input reads as it did. -/
def fnExactTableOkUptoRow : OpenClaim := { program := "ytejeinhdlcgkgaa", sum := "4fe42717c5d71303e352c5e889ef0656e152e819d5c8abd661ccb19c3bf3de30", func := "loop.example/g00285/laws.FnExactTableOk", spec := "fnExactTableOk", unfollowed := true, recurses := true, apart := false, narrowed := true }
def FnExactTableOkUptoSaid : Prop := fnExactTableOkUptoRow.holds Try.pinned (OpenSpec.upto fnExactTableOkSpec)

/-- 'laws.FnExactWearMost', WHERE WHAT IT READS IS OF BULK AT MOST 1048576: true; the input reads as it did. -/
def fnExactWearMostUptoRow : OpenClaim := { program := "ytejeinhdlcgkgaa", sum := "4fe42717c5d71303e352c5e889ef0656e152e819d5c8abd661ccb19c3bf3de30", func := "loop.example/g00285/laws.FnExactWearMost", spec := "fnExactWearMost", apart := false, narrowed := true }
def FnExactWearMostUptoSaid : Prop := fnExactWearMostUptoRow.holds Try.pinned (OpenSpec.upto fnExactWearMostSpec)

/-- 'laws.FnExactPutMap', WHERE WHAT IT READS IS OF BULK AT MOST 1048576: true; the input reads as it did. -/
def fnExactPutMapUptoRow : OpenClaim := { program := "ytejeinhdlcgkgaa", sum := "4fe42717c5d71303e352c5e889ef0656e152e819d5c8abd661ccb19c3bf3de30", func := "loop.example/g00285/laws.FnExactPutMap", spec := "fnExactPutMap", apart := false, narrowed := true }
def FnExactPutMapUptoSaid : Prop := fnExactPutMapUptoRow.holds Try.pinned (OpenSpec.upto fnExactPutMapSpec)

/-- 'laws.FnExactWearLeast', WHERE WHAT IT READS IS OF BULK AT MOST 1048576: true; the input reads as it did. -/
def fnExactWearLeastUptoRow : OpenClaim := { program := "ytejeinhdlcgkgaa", sum := "4fe42717c5d71303e352c5e889ef0656e152e819d5c8abd661ccb19c3bf3de30", func := "loop.example/g00285/laws.FnExactWearLeast", spec := "fnExactWearLeast", apart := false, narrowed := true }
def FnExactWearLeastUptoSaid : Prop := fnExactWearLeastUptoRow.holds Try.pinned (OpenSpec.upto fnExactWearLeastSpec)

/-- 'laws.FnExactGetMap', WHERE WHAT IT READS IS OF BULK AT MOST 1048576: true; the input reads as it did. -/
def fnExactGetMapUptoRow : OpenClaim := { program := "ytejeinhdlcgkgaa", sum := "4fe42717c5d71303e352c5e889ef0656e152e819d5c8abd661ccb19c3bf3de30", func := "loop.example/g00285/laws.FnExactGetMap", spec := "fnExactGetMap", apart := false, narrowed := true }
def FnExactGetMapUptoSaid : Prop := fnExactGetMapUptoRow.holds Try.pinned (OpenSpec.upto fnExactGetMapSpec)

end Rows
end Go.Proofs.Ytejeinhdlcgkgaa
