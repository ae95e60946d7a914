/-
  No cell of these rows narrows 'for every input' (looked for: loops, veiled, ifaces, maps, wideKeys, modest, calm, conditions, laid).
  DERIVED. THE GIVEN ROWS OF THIS SEAT. 10 by the template 'for every input the law returns true; each argument reads behind the call as it read before'; 0 by the template 'total and deterministic' (their statements: YtockabaoaneplaaTotals.lean).
  GIVEN WITH THE SEED: the statements are not yours to turn. If you find one false, say at which input.
  Laid BY PROGRAM, IN A SANDBOX (cutbox-rows.mjs): the forced cells as the released guide's own fill.sh prints them over the translation 41c5a7507f5c0093… (all of the seat's roots in one cut). By AI agents, Wed Nov 11 2026. No macro, syntax, notation, axiom, sorry.
-/
import Derived.Test.YtockabaoaneplaaChecked
import GoSem.Claim
import GoSem.ClaimJoined
import GoSem.ClaimMapViews
import Derived.JoinedTies
import Derived.KernelRfl
namespace Go.Proofs.Ytockabaoaneplaa
/- THE CELL 'sum', in the pinned program and in every row, IS THE sha256 OF THE DUMP (.gsa) THAT YtockabaoaneplaaProg.lean LOADS. Nothing in Lean hashes anything: it is a label: what it is worth is what the hold of that sum in a sandbox is worth. -/
noncomputable def Try.pinned : Pinned := { name := "ytockabaoaneplaa", sum := "41c5a7507f5c009330b5deb5b074f1a2fbace66f0d7754ae80073ea199f15ec3", checked := Try.checked }
namespace Rows
def none {H : Type} : Left H := { results := [], args := [] }

/-- 'laws.FnMaps': WHATEVER THE INPUT: true; the input reads as it did. -/
def fnMapsSpec : ChangeSpec := { name := "fnMaps", fn := fun _ => fun
  | [d] => { results := [.lit (.bool true)], args := [d] }
  | _ => none }
def fnMapsRow : OpenClaim := { program := "ytockabaoaneplaa", sum := "41c5a7507f5c009330b5deb5b074f1a2fbace66f0d7754ae80073ea199f15ec3", func := "loop.example/g00285/laws.FnMaps", spec := "fnMaps", apart := false }
def FnMapsSaid : Prop := fnMapsRow.holds Try.pinned (OpenSpec.ofChange fnMapsSpec)

/-- ITS FALSE NEIGHBOUR: 'it returns false'. Refute it at one input. -/
def fnMapsWrong : ChangeSpec := { name := "fnMaps", fn := fun _ => fun
  | [d] => { results := [.lit (.bool false)], args := [d] }
  | _ => none }
def FnMapsWrongFalsely : Prop := fnMapsRow.holds Try.pinned (OpenSpec.ofChange fnMapsWrong)

/-- 'laws.FnExactPutTable': WHATEVER THE INPUT: true; the input reads as it did. -/
def fnExactPutTableSpec : ChangeSpec := { name := "fnExactPutTable", fn := fun _ => fun
  | [d] => { results := [.lit (.bool true)], args := [d] }
  | _ => none }
def fnExactPutTableRow : OpenClaim := { program := "ytockabaoaneplaa", sum := "41c5a7507f5c009330b5deb5b074f1a2fbace66f0d7754ae80073ea199f15ec3", func := "loop.example/g00285/laws.FnExactPutTable", spec := "fnExactPutTable", unfollowed := true, recurses := true, apart := false }
def FnExactPutTableSaid : Prop := fnExactPutTableRow.holds Try.pinned (OpenSpec.ofChange fnExactPutTableSpec)

/-- ITS FALSE NEIGHBOUR: 'it returns false'. Refute it at one input. -/
def fnExactPutTableWrong : ChangeSpec := { name := "fnExactPutTable", fn := fun _ => fun
  | [d] => { results := [.lit (.bool false)], args := [d] }
  | _ => none }
def FnExactPutTableWrongFalsely : Prop := fnExactPutTableRow.holds Try.pinned (OpenSpec.ofChange fnExactPutTableWrong)

/-- 'laws.FnInodes': WHATEVER THE INPUT: true; the input reads as it did. -/
def fnInodesSpec : ChangeSpec := { name := "fnInodes", fn := fun _ => fun
  | [d] => { results := [.lit (.bool true)], args := [d] }
  | _ => none }
def fnInodesRow : OpenClaim := { program := "ytockabaoaneplaa", sum := "41c5a7507f5c009330b5deb5b074f1a2fbace66f0d7754ae80073ea199f15ec3", func := "loop.example/g00285/laws.FnInodes", spec := "fnInodes", apart := false }
def FnInodesSaid : Prop := fnInodesRow.holds Try.pinned (OpenSpec.ofChange fnInodesSpec)

/-- ITS FALSE NEIGHBOUR: 'it returns false'. Refute it at one input. -/
def fnInodesWrong : ChangeSpec := { name := "fnInodes", fn := fun _ => fun
  | [d] => { results := [.lit (.bool false)], args := [d] }
  | _ => none }
def FnInodesWrongFalsely : Prop := fnInodesRow.holds Try.pinned (OpenSpec.ofChange fnInodesWrong)

/-- 'laws.FnExactColdest': WHATEVER THE INPUT: true; the input reads as it did. -/
def fnExactColdestSpec : ChangeSpec := { name := "fnExactColdest", fn := fun _ => fun
  | [d] => { results := [.lit (.bool true)], args := [d] }
  | _ => none }
def fnExactColdestRow : OpenClaim := { program := "ytockabaoaneplaa", sum := "41c5a7507f5c009330b5deb5b074f1a2fbace66f0d7754ae80073ea199f15ec3", func := "loop.example/g00285/laws.FnExactColdest", spec := "fnExactColdest", apart := false }
def FnExactColdestSaid : Prop := fnExactColdestRow.holds Try.pinned (OpenSpec.ofChange fnExactColdestSpec)

/-- ITS FALSE NEIGHBOUR: 'it returns false'. Refute it at one input. -/
def fnExactColdestWrong : ChangeSpec := { name := "fnExactColdest", fn := fun _ => fun
  | [d] => { results := [.lit (.bool false)], args := [d] }
  | _ => none }
def FnExactColdestWrongFalsely : Prop := fnExactColdestRow.holds Try.pinned (OpenSpec.ofChange fnExactColdestWrong)

/-- 'laws.FnExactGetTable': WHATEVER THE INPUT: true; the input reads as it did. -/
def fnExactGetTableSpec : ChangeSpec := { name := "fnExactGetTable", fn := fun _ => fun
  | [d] => { results := [.lit (.bool true)], args := [d] }
  | _ => none }
def fnExactGetTableRow : OpenClaim := { program := "ytockabaoaneplaa", sum := "41c5a7507f5c009330b5deb5b074f1a2fbace66f0d7754ae80073ea199f15ec3", func := "loop.example/g00285/laws.FnExactGetTable", spec := "fnExactGetTable", unfollowed := true, recurses := true, apart := false }
def FnExactGetTableSaid : Prop := fnExactGetTableRow.holds Try.pinned (OpenSpec.ofChange fnExactGetTableSpec)

/-- ITS FALSE NEIGHBOUR: 'it returns false'. Refute it at one input. -/
def fnExactGetTableWrong : ChangeSpec := { name := "fnExactGetTable", fn := fun _ => fun
  | [d] => { results := [.lit (.bool false)], args := [d] }
  | _ => none }
def FnExactGetTableWrongFalsely : Prop := fnExactGetTableRow.holds Try.pinned (OpenSpec.ofChange fnExactGetTableWrong)

/-- 'laws.FnExactOpenBlock': WHATEVER THE INPUT: true; the input reads as it did. -/
def fnExactOpenBlockSpec : ChangeSpec := { name := "fnExactOpenBlock", fn := fun _ => fun
  | [d1, d2] => { results := [.lit (.bool true)], args := [d1, d2] }
  | _ => none }
def fnExactOpenBlockRow : OpenClaim := { program := "ytockabaoaneplaa", sum := "41c5a7507f5c009330b5deb5b074f1a2fbace66f0d7754ae80073ea199f15ec3", func := "loop.example/g00285/laws.FnExactOpenBlock", spec := "fnExactOpenBlock", apart := false }
def FnExactOpenBlockSaid : Prop := fnExactOpenBlockRow.holds Try.pinned (OpenSpec.ofChange fnExactOpenBlockSpec)

/-- ITS FALSE NEIGHBOUR: 'it returns false'. Refute it at one input. -/
def fnExactOpenBlockWrong : ChangeSpec := { name := "fnExactOpenBlock", fn := fun _ => fun
  | [d1, d2] => { results := [.lit (.bool false)], args := [d1, d2] }
  | _ => none }
def FnExactOpenBlockWrongFalsely : Prop := fnExactOpenBlockRow.holds Try.pinned (OpenSpec.ofChange fnExactOpenBlockWrong)

/-- 'laws.FnTables': WHATEVER THE INPUT: true; the input reads as it did. -/
def fnTablesSpec : ChangeSpec := { name := "fnTables", fn := fun _ => fun
  | [d] => { results := [.lit (.bool true)], args := [d] }
  | _ => none }
def fnTablesRow : OpenClaim := { program := "ytockabaoaneplaa", sum := "41c5a7507f5c009330b5deb5b074f1a2fbace66f0d7754ae80073ea199f15ec3", func := "loop.example/g00285/laws.FnTables", spec := "fnTables", unfollowed := true, recurses := true, apart := false }
def FnTablesSaid : Prop := fnTablesRow.holds Try.pinned (OpenSpec.ofChange fnTablesSpec)

/-- ITS FALSE NEIGHBOUR: 'it returns false'. Refute it at one input. -/
def fnTablesWrong : ChangeSpec := { name := "fnTables", fn := fun _ => fun
  | [d] => { results := [.lit (.bool false)], args := [d] }
  | _ => none }
def FnTablesWrongFalsely : Prop := fnTablesRow.holds Try.pinned (OpenSpec.ofChange fnTablesWrong)

/-- 'laws.FnExactGetInode': WHATEVER THE INPUT: true; the input reads as it did. -/
def fnExactGetInodeSpec : ChangeSpec := { name := "fnExactGetInode", fn := fun _ => fun
  | [d] => { results := [.lit (.bool true)], args := [d] }
  | _ => none }
def fnExactGetInodeRow : OpenClaim := { program := "ytockabaoaneplaa", sum := "41c5a7507f5c009330b5deb5b074f1a2fbace66f0d7754ae80073ea199f15ec3", func := "loop.example/g00285/laws.FnExactGetInode", spec := "fnExactGetInode", apart := false }
def FnExactGetInodeSaid : Prop := fnExactGetInodeRow.holds Try.pinned (OpenSpec.ofChange fnExactGetInodeSpec)

/-- ITS FALSE NEIGHBOUR: 'it returns false'. Refute it at one input. -/
def fnExactGetInodeWrong : ChangeSpec := { name := "fnExactGetInode", fn := fun _ => fun
  | [d] => { results := [.lit (.bool false)], args := [d] }
  | _ => none }
def FnExactGetInodeWrongFalsely : Prop := fnExactGetInodeRow.holds Try.pinned (OpenSpec.ofChange fnExactGetInodeWrong)

/-- 'laws.FnInodesRead': WHATEVER THE INPUT: true; the input reads as it did. -/
def fnInodesReadSpec : ChangeSpec := { name := "fnInodesRead", fn := fun _ => fun
  | [d] => { results := [.lit (.bool true)], args := [d] }
  | _ => none }
def fnInodesReadRow : OpenClaim := { program := "ytockabaoaneplaa", sum := "41c5a7507f5c009330b5deb5b074f1a2fbace66f0d7754ae80073ea199f15ec3", func := "loop.example/g00285/laws.FnInodesRead", spec := "fnInodesRead", apart := false }
def FnInodesReadSaid : Prop := fnInodesReadRow.holds Try.pinned (OpenSpec.ofChange fnInodesReadSpec)

/-- ITS FALSE NEIGHBOUR: 'it returns false'. Refute it at one input. -/
def fnInodesReadWrong : ChangeSpec := { name := "fnInodesRead", fn := fun _ => fun
  | [d] => { results := [.lit (.bool false)], args := [d] }
  | _ => none }
def FnInodesReadWrongFalsely : Prop := fnInodesReadRow.holds Try.pinned (OpenSpec.ofChange fnInodesReadWrong)

/-- 'laws.FnOpened': WHATEVER THE INPUT: true; the input reads as it did. -/
def fnOpenedSpec : ChangeSpec := { name := "fnOpened", fn := fun _ => fun
  | [d] => { results := [.lit (.bool true)], args := [d] }
  | _ => none }
def fnOpenedRow : OpenClaim := { program := "ytockabaoaneplaa", sum := "41c5a7507f5c009330b5deb5b074f1a2fbace66f0d7754ae80073ea199f15ec3", func := "loop.example/g00285/laws.FnOpened", spec := "fnOpened", apart := false }
def FnOpenedSaid : Prop := fnOpenedRow.holds Try.pinned (OpenSpec.ofChange fnOpenedSpec)

/-- ITS FALSE NEIGHBOUR: 'it returns false'. Refute it at one input. -/
def fnOpenedWrong : ChangeSpec := { name := "fnOpened", fn := fun _ => fun
  | [d] => { results := [.lit (.bool false)], args := [d] }
  | _ => none }
def FnOpenedWrongFalsely : Prop := fnOpenedRow.holds Try.pinned (OpenSpec.ofChange fnOpenedWrong)

/- THE SECOND FORM. 'bulk': how many values and letters a reading holds, each counted each time it is reached (what is shared counts as often as it is met; a slice's spare places count too). A statement '..UptoSaid' is the law's where the arguments, and the package variables that the reading takes, are together of bulk at most 1048576: NARROWER than '..Said'. Prove '..Said' where nothing that the law and all that it calls make is longer than what came in: it says more and counts as full. Else prove '..UptoSaid'. A law counts once. -/
mutual
def uptoBulk {H : Type} : DataW H → Nat
  | .lit (.string bytes) => bytes.length + 1
  | .lit _ => 1
  | .nil => 1
  | .ptr d => uptoBulk d + 1
  | .slice elems spare => uptoBulkAll elems + uptoBulkAll spare + 1
  | .agg parts => uptoBulkAll parts + 1
  | .iface _ d => uptoBulk d + 1
  | .map entries => uptoBulkEntries entries + 1
  | .held _ => 1
def uptoBulkAll {H : Type} : List (DataW H) → Nat
  | [] => 0
  | d :: r => uptoBulk d + uptoBulkAll r
def uptoBulkEntries {H : Type} : List (Lit × DataW H) → Nat
  | [] => 0
  | x :: r => uptoBulkEntry x + uptoBulkEntries r
def uptoBulkEntry {H : Type} : Lit × DataW H → Nat
  | (.string bytes, d) => bytes.length + uptoBulk d + 1
  | (_, d) => uptoBulk d + 1
 end
def uptoSmall : (H : Type) → List (DataW H) → Bool := fun _ ds => decide (uptoBulkAll ds ≤ 1048576)
def OpenSpec.upto (s : _root_.Go.ChangeSpec) : _root_.Go.OpenSpec := { _root_.Go.OpenSpec.ofChange s with cond := some uptoSmall }

/-- 'laws.FnMaps', WHERE WHAT IT READS IS OF BULK AT MOST 1048576: true; the input reads as it did. -/
def fnMapsUptoRow : OpenClaim := { program := "ytockabaoaneplaa", sum := "41c5a7507f5c009330b5deb5b074f1a2fbace66f0d7754ae80073ea199f15ec3", func := "loop.example/g00285/laws.FnMaps", spec := "fnMaps", apart := false, narrowed := true }
def FnMapsUptoSaid : Prop := fnMapsUptoRow.holds Try.pinned (OpenSpec.upto fnMapsSpec)

/-- 'laws.FnExactPutTable', WHERE WHAT IT READS IS OF BULK AT MOST 1048576: true; the input reads as it did. -/
def fnExactPutTableUptoRow : OpenClaim := { program := "ytockabaoaneplaa", sum := "41c5a7507f5c009330b5deb5b074f1a2fbace66f0d7754ae80073ea199f15ec3", func := "loop.example/g00285/laws.FnExactPutTable", spec := "fnExactPutTable", unfollowed := true, recurses := true, apart := false, narrowed := true }
def FnExactPutTableUptoSaid : Prop := fnExactPutTableUptoRow.holds Try.pinned (OpenSpec.upto fnExactPutTableSpec)

/-- 'laws.FnInodes', WHERE WHAT IT READS IS OF BULK AT MOST 1048576: true; the input reads as it did. -/
def fnInodesUptoRow : OpenClaim := { program := "ytockabaoaneplaa", sum := "41c5a7507f5c009330b5deb5b074f1a2fbace66f0d7754ae80073ea199f15ec3", func := "loop.example/g00285/laws.FnInodes", spec := "fnInodes", apart := false, narrowed := true }
def FnInodesUptoSaid : Prop := fnInodesUptoRow.holds Try.pinned (OpenSpec.upto fnInodesSpec)

/-- 'laws.FnExactColdest', WHERE WHAT IT READS IS OF BULK AT MOST 1048576: true; the input reads as it did. -/
def fnExactColdestUptoRow : OpenClaim := { program := "ytockabaoaneplaa", sum := "41c5a7507f5c009330b5deb5b074f1a2fbace66f0d7754ae80073ea199f15ec3", func := "loop.example/g00285/laws.FnExactColdest", spec := "fnExactColdest", apart := false, narrowed := true }
def FnExactColdestUptoSaid : Prop := fnExactColdestUptoRow.holds Try.pinned (OpenSpec.upto fnExactColdestSpec)

/-- 'laws.FnExactGetTable', WHERE WHAT IT READS IS OF BULK AT MOST 1048576: true; the input reads as it did. -/
def fnExactGetTableUptoRow : OpenClaim := { program := "ytockabaoaneplaa", sum := "41c5a7507f5c009330b5deb5b074f1a2fbace66f0d7754ae80073ea199f15ec3", func := "loop.example/g00285/laws.FnExactGetTable", spec := "fnExactGetTable", unfollowed := true, recurses := true, apart := false, narrowed := true }
def FnExactGetTableUptoSaid : Prop := fnExactGetTableUptoRow.holds Try.pinned (OpenSpec.upto fnExactGetTableSpec)

/-- 'laws.FnExactOpenBlock', WHERE WHAT IT READS IS OF BULK AT MOST 1048576: true; the input reads as it did. -/
def fnExactOpenBlockUptoRow : OpenClaim := { program := "ytockabaoaneplaa", sum := "41c5a7507f5c009330b5deb5b074f1a2fbace66f0d7754ae80073ea199f15ec3", func := "loop.example/g00285/laws.FnExactOpenBlock", spec := "fnExactOpenBlock", apart := false, narrowed := true }
def FnExactOpenBlockUptoSaid : Prop := fnExactOpenBlockUptoRow.holds Try.pinned (OpenSpec.upto fnExactOpenBlockSpec)

/-- 'laws.FnTables', WHERE WHAT IT READS IS OF BULK AT MOST 1048576: true; the input reads as it did. -/
def fnTablesUptoRow : OpenClaim := { program := "ytockabaoaneplaa", sum := "41c5a7507f5c009330b5deb5b074f1a2fbace66f0d7754ae80073ea199f15ec3", func := "loop.example/g00285/laws.FnTables", spec := "fnTables", unfollowed := true, recurses := true, apart := false, narrowed := true }
def FnTablesUptoSaid : Prop := fnTablesUptoRow.holds Try.pinned (OpenSpec.upto fnTablesSpec)

/-- 'laws.FnExactGetInode', WHERE WHAT IT READS IS OF BULK AT MOST 1048576: true; the input reads as it did. -/
def fnExactGetInodeUptoRow : OpenClaim := { program := "ytockabaoaneplaa", sum := "41c5a7507f5c009330b5deb5b074f1a2fbace66f0d7754ae80073ea199f15ec3", func := "loop.example/g00285/laws.FnExactGetInode", spec := "fnExactGetInode", apart := false, narrowed := true }
def FnExactGetInodeUptoSaid : Prop := fnExactGetInodeUptoRow.holds Try.pinned (OpenSpec.upto fnExactGetInodeSpec)

/-- 'laws.FnInodesRead', WHERE WHAT IT READS IS OF BULK AT MOST 1048576: true; the input reads as it did. -/
def fnInodesReadUptoRow : OpenClaim := { program := "ytockabaoaneplaa", sum := "41c5a7507f5c009330b5deb5b074f1a2fbace66f0d7754ae80073ea199f15ec3", func := "loop.example/g00285/laws.FnInodesRead", spec := "fnInodesRead", apart := false, narrowed := true }
def FnInodesReadUptoSaid : Prop := fnInodesReadUptoRow.holds Try.pinned (OpenSpec.upto fnInodesReadSpec)

/-- 'laws.FnOpened', WHERE WHAT IT READS IS OF BULK AT MOST 1048576: true; the input reads as it did. -/
def fnOpenedUptoRow : OpenClaim := { program := "ytockabaoaneplaa", sum := "41c5a7507f5c009330b5deb5b074f1a2fbace66f0d7754ae80073ea199f15ec3", func := "loop.example/g00285/laws.FnOpened", spec := "fnOpened", apart := false, narrowed := true }
def FnOpenedUptoSaid : Prop := fnOpenedUptoRow.holds Try.pinned (OpenSpec.upto fnOpenedSpec)

end Rows
end Go.Proofs.Ytockabaoaneplaa
