/-
  No cell of these rows narrows 'for every input' (looked for: loops, veiled, ifaces, maps, wideKeys, modest, calm, conditions, laid).
  DERIVED. THE GIVEN ROWS OF THIS SEAT. 10 by the template 'for every input the law returns true; each argument reads behind the call as it read before'; 0 by the template 'total and deterministic' (their statements: YtdclnhlpifahpaaTotals.lean).
  GIVEN WITH THE SEED: the statements are not yours to turn. If you find one false, say at which input.
  Laid BY PROGRAM, IN A SANDBOX (cutbox-rows.mjs): the forced cells as the released guide's own fill.sh prints them over the translation 56cf852e4485b79a… (all of the seat's roots in one cut). By AI agents, Wed Nov 11 2026. No macro, syntax, notation, axiom, sorry.
-/
import Derived.Test.YtdclnhlpifahpaaChecked
import GoSem.Claim
import GoSem.ClaimJoined
import GoSem.ClaimMapViews
import Derived.JoinedTies
import Derived.KernelRfl
namespace Go.Proofs.Ytdclnhlpifahpaa
/- THE CELL 'sum', in the pinned program and in every row, IS THE sha256 OF THE DUMP (.gsa) THAT YtdclnhlpifahpaaProg.lean LOADS. Nothing in Lean hashes anything: it is a label: what it is worth is what the hold of that sum in a sandbox is worth. -/
noncomputable def Try.pinned : Pinned := { name := "ytdclnhlpifahpaa", sum := "56cf852e4485b79a85e067d81760912f3f6fd49cc8848aa5241697ea1cd9b92d", checked := Try.checked }
namespace Rows
def none {H : Type} : Left H := { results := [], args := [] }

/-- 'laws.FnExactImageNew': WHATEVER THE INPUT: true; the input reads as it did. -/
def fnExactImageNewSpec : ChangeSpec := { name := "fnExactImageNew", fn := fun _ => fun
  | [] => { results := [.lit (.bool true)], args := [] }
  | _ => none }
def fnExactImageNewRow : OpenClaim := { program := "ytdclnhlpifahpaa", sum := "56cf852e4485b79a85e067d81760912f3f6fd49cc8848aa5241697ea1cd9b92d", func := "loop.example/g00285/laws.FnExactImageNew", spec := "fnExactImageNew", apart := false }
def FnExactImageNewSaid : Prop := fnExactImageNewRow.holds Try.pinned (OpenSpec.ofChange fnExactImageNewSpec)

/-- ITS FALSE NEIGHBOUR: 'it returns false'. Refute it at one input. -/
def fnExactImageNewWrong : ChangeSpec := { name := "fnExactImageNew", fn := fun _ => fun
  | [] => { results := [.lit (.bool false)], args := [] }
  | _ => none }
def FnExactImageNewWrongFalsely : Prop := fnExactImageNewRow.holds Try.pinned (OpenSpec.ofChange fnExactImageNewWrong)

/-- 'laws.FnExactLogOk': WHATEVER THE INPUT: true; the input reads as it did. -/
def fnExactLogOkSpec : ChangeSpec := { name := "fnExactLogOk", fn := fun _ => fun
  | [d] => { results := [.lit (.bool true)], args := [d] }
  | _ => none }
def fnExactLogOkRow : OpenClaim := { program := "ytdclnhlpifahpaa", sum := "56cf852e4485b79a85e067d81760912f3f6fd49cc8848aa5241697ea1cd9b92d", func := "loop.example/g00285/laws.FnExactLogOk", spec := "fnExactLogOk", unfollowed := true, recurses := true, apart := false }
def FnExactLogOkSaid : Prop := fnExactLogOkRow.holds Try.pinned (OpenSpec.ofChange fnExactLogOkSpec)

/-- ITS FALSE NEIGHBOUR: 'it returns false'. Refute it at one input. -/
def fnExactLogOkWrong : ChangeSpec := { name := "fnExactLogOk", fn := fun _ => fun
  | [d] => { results := [.lit (.bool false)], args := [d] }
  | _ => none }
def FnExactLogOkWrongFalsely : Prop := fnExactLogOkRow.holds Try.pinned (OpenSpec.ofChange fnExactLogOkWrong)

/-- 'laws.FnExactReadAt': WHATEVER THE INPUT: true; the input reads as it did. -/
def fnExactReadAtSpec : ChangeSpec := { name := "fnExactReadAt", fn := fun _ => fun
  | [d1, d2, d3] => { results := [.lit (.bool true)], args := [d1, d2, d3] }
  | _ => none }
def fnExactReadAtRow : OpenClaim := { program := "ytdclnhlpifahpaa", sum := "56cf852e4485b79a85e067d81760912f3f6fd49cc8848aa5241697ea1cd9b92d", func := "loop.example/g00285/laws.FnExactReadAt", spec := "fnExactReadAt", apart := false }
def FnExactReadAtSaid : Prop := fnExactReadAtRow.holds Try.pinned (OpenSpec.ofChange fnExactReadAtSpec)

/-- ITS FALSE NEIGHBOUR: 'it returns false'. Refute it at one input. -/
def fnExactReadAtWrong : ChangeSpec := { name := "fnExactReadAt", fn := fun _ => fun
  | [d1, d2, d3] => { results := [.lit (.bool false)], args := [d1, d2, d3] }
  | _ => none }
def FnExactReadAtWrongFalsely : Prop := fnExactReadAtRow.holds Try.pinned (OpenSpec.ofChange fnExactReadAtWrong)

/-- 'laws.FnFilled': WHATEVER THE INPUT: true; the input reads as it did. -/
def fnFilledSpec : ChangeSpec := { name := "fnFilled", fn := fun _ => fun
  | [d] => { results := [.lit (.bool true)], args := [d] }
  | _ => none }
def fnFilledRow : OpenClaim := { program := "ytdclnhlpifahpaa", sum := "56cf852e4485b79a85e067d81760912f3f6fd49cc8848aa5241697ea1cd9b92d", func := "loop.example/g00285/laws.FnFilled", spec := "fnFilled", unfollowed := true, recurses := true, apart := false }
def FnFilledSaid : Prop := fnFilledRow.holds Try.pinned (OpenSpec.ofChange fnFilledSpec)

/-- ITS FALSE NEIGHBOUR: 'it returns false'. Refute it at one input. -/
def fnFilledWrong : ChangeSpec := { name := "fnFilled", fn := fun _ => fun
  | [d] => { results := [.lit (.bool false)], args := [d] }
  | _ => none }
def FnFilledWrongFalsely : Prop := fnFilledRow.holds Try.pinned (OpenSpec.ofChange fnFilledWrong)

/-- 'laws.FnTornPage': WHATEVER THE INPUT: true; the input reads as it did. -/
def fnTornPageSpec : ChangeSpec := { name := "fnTornPage", fn := fun _ => fun
  | [d] => { results := [.lit (.bool true)], args := [d] }
  | _ => none }
def fnTornPageRow : OpenClaim := { program := "ytdclnhlpifahpaa", sum := "56cf852e4485b79a85e067d81760912f3f6fd49cc8848aa5241697ea1cd9b92d", func := "loop.example/g00285/laws.FnTornPage", spec := "fnTornPage", unfollowed := true, recurses := true, apart := false }
def FnTornPageSaid : Prop := fnTornPageRow.holds Try.pinned (OpenSpec.ofChange fnTornPageSpec)

/-- ITS FALSE NEIGHBOUR: 'it returns false'. Refute it at one input. -/
def fnTornPageWrong : ChangeSpec := { name := "fnTornPage", fn := fun _ => fun
  | [d] => { results := [.lit (.bool false)], args := [d] }
  | _ => none }
def FnTornPageWrongFalsely : Prop := fnTornPageRow.holds Try.pinned (OpenSpec.ofChange fnTornPageWrong)

/-- 'laws.FnLogsOk': WHATEVER THE INPUT: true; the input reads as it did. -/
def fnLogsOkSpec : ChangeSpec := { name := "fnLogsOk", fn := fun _ => fun
  | [d] => { results := [.lit (.bool true)], args := [d] }
  | _ => none }
def fnLogsOkRow : OpenClaim := { program := "ytdclnhlpifahpaa", sum := "56cf852e4485b79a85e067d81760912f3f6fd49cc8848aa5241697ea1cd9b92d", func := "loop.example/g00285/laws.FnLogsOk", spec := "fnLogsOk", unfollowed := true, recurses := true, apart := false }
def FnLogsOkSaid : Prop := fnLogsOkRow.holds Try.pinned (OpenSpec.ofChange fnLogsOkSpec)

/-- ITS FALSE NEIGHBOUR: 'it returns false'. Refute it at one input. -/
def fnLogsOkWrong : ChangeSpec := { name := "fnLogsOk", fn := fun _ => fun
  | [d] => { results := [.lit (.bool false)], args := [d] }
  | _ => none }
def FnLogsOkWrongFalsely : Prop := fnLogsOkRow.holds Try.pinned (OpenSpec.ofChange fnLogsOkWrong)

/-- 'laws.FnExactRootsOf': WHATEVER THE INPUT: true; the input reads as it did. -/
def fnExactRootsOfSpec : ChangeSpec := { name := "fnExactRootsOf", fn := fun _ => fun
  | [d] => { results := [.lit (.bool true)], args := [d] }
  | _ => none }
def fnExactRootsOfRow : OpenClaim := { program := "ytdclnhlpifahpaa", sum := "56cf852e4485b79a85e067d81760912f3f6fd49cc8848aa5241697ea1cd9b92d", func := "loop.example/g00285/laws.FnExactRootsOf", spec := "fnExactRootsOf", unfollowed := true, recurses := true, apart := false }
def FnExactRootsOfSaid : Prop := fnExactRootsOfRow.holds Try.pinned (OpenSpec.ofChange fnExactRootsOfSpec)

/-- ITS FALSE NEIGHBOUR: 'it returns false'. Refute it at one input. -/
def fnExactRootsOfWrong : ChangeSpec := { name := "fnExactRootsOf", fn := fun _ => fun
  | [d] => { results := [.lit (.bool false)], args := [d] }
  | _ => none }
def FnExactRootsOfWrongFalsely : Prop := fnExactRootsOfRow.holds Try.pinned (OpenSpec.ofChange fnExactRootsOfWrong)

/-- 'laws.FnExactWrite': WHATEVER THE INPUT: true; the input reads as it did. -/
def fnExactWriteSpec : ChangeSpec := { name := "fnExactWrite", fn := fun _ => fun
  | [d1, d2, d3, d4] => { results := [.lit (.bool true)], args := [d1, d2, d3, d4] }
  | _ => none }
def fnExactWriteRow : OpenClaim := { program := "ytdclnhlpifahpaa", sum := "56cf852e4485b79a85e067d81760912f3f6fd49cc8848aa5241697ea1cd9b92d", func := "loop.example/g00285/laws.FnExactWrite", spec := "fnExactWrite", unfollowed := true, recurses := true, apart := false }
def FnExactWriteSaid : Prop := fnExactWriteRow.holds Try.pinned (OpenSpec.ofChange fnExactWriteSpec)

/-- ITS FALSE NEIGHBOUR: 'it returns false'. Refute it at one input. -/
def fnExactWriteWrong : ChangeSpec := { name := "fnExactWrite", fn := fun _ => fun
  | [d1, d2, d3, d4] => { results := [.lit (.bool false)], args := [d1, d2, d3, d4] }
  | _ => none }
def FnExactWriteWrongFalsely : Prop := fnExactWriteRow.holds Try.pinned (OpenSpec.ofChange fnExactWriteWrong)

/-- 'laws.FnLogs': WHATEVER THE INPUT: true; the input reads as it did. -/
def fnLogsSpec : ChangeSpec := { name := "fnLogs", fn := fun _ => fun
  | [d] => { results := [.lit (.bool true)], args := [d] }
  | _ => none }
def fnLogsRow : OpenClaim := { program := "ytdclnhlpifahpaa", sum := "56cf852e4485b79a85e067d81760912f3f6fd49cc8848aa5241697ea1cd9b92d", func := "loop.example/g00285/laws.FnLogs", spec := "fnLogs", unfollowed := true, recurses := true, apart := false }
def FnLogsSaid : Prop := fnLogsRow.holds Try.pinned (OpenSpec.ofChange fnLogsSpec)

/-- ITS FALSE NEIGHBOUR: 'it returns false'. Refute it at one input. -/
def fnLogsWrong : ChangeSpec := { name := "fnLogs", fn := fun _ => fun
  | [d] => { results := [.lit (.bool false)], args := [d] }
  | _ => none }
def FnLogsWrongFalsely : Prop := fnLogsRow.holds Try.pinned (OpenSpec.ofChange fnLogsWrong)

/-- 'laws.FnExactClear': WHATEVER THE INPUT: true; the input reads as it did. -/
def fnExactClearSpec : ChangeSpec := { name := "fnExactClear", fn := fun _ => fun
  | [d] => { results := [.lit (.bool true)], args := [d] }
  | _ => none }
def fnExactClearRow : OpenClaim := { program := "ytdclnhlpifahpaa", sum := "56cf852e4485b79a85e067d81760912f3f6fd49cc8848aa5241697ea1cd9b92d", func := "loop.example/g00285/laws.FnExactClear", spec := "fnExactClear", unfollowed := true, recurses := true, apart := false }
def FnExactClearSaid : Prop := fnExactClearRow.holds Try.pinned (OpenSpec.ofChange fnExactClearSpec)

/-- ITS FALSE NEIGHBOUR: 'it returns false'. Refute it at one input. -/
def fnExactClearWrong : ChangeSpec := { name := "fnExactClear", fn := fun _ => fun
  | [d] => { results := [.lit (.bool false)], args := [d] }
  | _ => none }
def FnExactClearWrongFalsely : Prop := fnExactClearRow.holds Try.pinned (OpenSpec.ofChange fnExactClearWrong)

/- THE SECOND FORM. 'bulk': how many values and letters a reading holds, each counted each time it is reached (what is shared counts as often as it is met; a slice's spare places count too). A statement '..UptoSaid' is the law's where the arguments, and the package variables that the reading takes, are together of bulk at most 1048576: NARROWER than '..Said'. Prove '..Said' where nothing that the law and all that it calls make is longer than what came in: it says more and counts as full. Else prove '..UptoSaid'. A law counts once. -/
mutual
def uptoBulk {H : Type} : DataW H → Nat
  | .lit (.string bytes) => bytes.length + 1
  | .lit _ => 1
  | .nil => 1
  | .ptr d => uptoBulk d + 1
  | .slice elems spare => uptoBulkAll elems + uptoBulkAll spare + 1
  | .agg parts => uptoBulkAll parts + 1
  | .iface _ d => uptoBulk d + 1
  | .map entries => uptoBulkEntries entries + 1
  | .held _ => 1
def uptoBulkAll {H : Type} : List (DataW H) → Nat
  | [] => 0
  | d :: r => uptoBulk d + uptoBulkAll r
def uptoBulkEntries {H : Type} : List (Lit × DataW H) → Nat
  | [] => 0
  | x :: r => uptoBulkEntry x + uptoBulkEntries r
def uptoBulkEntry {H : Type} : Lit × DataW H → Nat
  | (.string bytes, d) => bytes.length + uptoBulk d + 1
  | (_, d) => uptoBulk d + 1
 end
def uptoSmall : (H : Type) → List (DataW H) → Bool := fun _ ds => decide (uptoBulkAll ds ≤ 1048576)
def OpenSpec.upto (s : _root_.Go.ChangeSpec) : _root_.Go.OpenSpec := { _root_.Go.OpenSpec.ofChange s with cond := some uptoSmall }

/-- 'laws.FnExactImageNew', WHERE WHAT IT READS IS OF BULK AT MOST 1048576: true; the input reads as it did. -/
def fnExactImageNewUptoRow : OpenClaim := { program := "ytdclnhlpifahpaa", sum := "56cf852e4485b79a85e067d81760912f3f6fd49cc8848aa5241697ea1cd9b92d", func := "loop.example/g00285/laws.FnExactImageNew", spec := "fnExactImageNew", apart := false, narrowed := true }
def FnExactImageNewUptoSaid : Prop := fnExactImageNewUptoRow.holds Try.pinned (OpenSpec.upto fnExactImageNewSpec)

/-- 'laws.FnExactLogOk', WHERE WHAT IT READS IS OF BULK AT MOST 1048576: true; the input reads as it did. -/
def fnExactLogOkUptoRow : OpenClaim := { program := "ytdclnhlpifahpaa", sum := "56cf852e4485b79a85e067d81760912f3f6fd49cc8848aa5241697ea1cd9b92d", func := "loop.example/g00285/laws.FnExactLogOk", spec := "fnExactLogOk", unfollowed := true, recurses := true, apart := false, narrowed := true }
def FnExactLogOkUptoSaid : Prop := fnExactLogOkUptoRow.holds Try.pinned (OpenSpec.upto fnExactLogOkSpec)

/-- 'laws.FnExactReadAt', WHERE WHAT IT READS IS OF BULK AT MOST 1048576: true; the input reads as it did. -/
def fnExactReadAtUptoRow : OpenClaim := { program := "ytdclnhlpifahpaa", sum := "56cf852e4485b79a85e067d81760912f3f6fd49cc8848aa5241697ea1cd9b92d", func := "loop.example/g00285/laws.FnExactReadAt", spec := "fnExactReadAt", apart := false, narrowed := true }
def FnExactReadAtUptoSaid : Prop := fnExactReadAtUptoRow.holds Try.pinned (OpenSpec.upto fnExactReadAtSpec)

/-- 'laws.FnFilled', WHERE WHAT IT READS IS OF BULK AT MOST 1048576: true; the input reads as it did. -/
def fnFilledUptoRow : OpenClaim := { program := "ytdclnhlpifahpaa", sum := "56cf852e4485b79a85e067d81760912f3f6fd49cc8848aa5241697ea1cd9b92d", func := "loop.example/g00285/laws.FnFilled", spec := "fnFilled", unfollowed := true, recurses := true, apart := false, narrowed := true }
def FnFilledUptoSaid : Prop := fnFilledUptoRow.holds Try.pinned (OpenSpec.upto fnFilledSpec)

/-- 'laws.FnTornPage', WHERE WHAT IT READS IS OF BULK AT MOST 1048576: true; the input reads as it did. -/
def fnTornPageUptoRow : OpenClaim := { program := "ytdclnhlpifahpaa", sum := "56cf852e4485b79a85e067d81760912f3f6fd49cc8848aa5241697ea1cd9b92d", func := "loop.example/g00285/laws.FnTornPage", spec := "fnTornPage", unfollowed := true, recurses := true, apart := false, narrowed := true }
def FnTornPageUptoSaid : Prop := fnTornPageUptoRow.holds Try.pinned (OpenSpec.upto fnTornPageSpec)

/-- 'laws.FnLogsOk', WHERE WHAT IT READS IS OF BULK AT MOST 1048576: true; the input reads as it did. -/
def fnLogsOkUptoRow : OpenClaim := { program := "ytdclnhlpifahpaa", sum := "56cf852e4485b79a85e067d81760912f3f6fd49cc8848aa5241697ea1cd9b92d", func := "loop.example/g00285/laws.FnLogsOk", spec := "fnLogsOk", unfollowed := true, recurses := true, apart := false, narrowed := true }
def FnLogsOkUptoSaid : Prop := fnLogsOkUptoRow.holds Try.pinned (OpenSpec.upto fnLogsOkSpec)

/-- 'laws.FnExactRootsOf', WHERE WHAT IT READS IS OF BULK AT MOST 1048576: true; the input reads as it did. -/
def fnExactRootsOfUptoRow : OpenClaim := { program := "ytdclnhlpifahpaa", sum := "56cf852e4485b79a85e067d81760912f3f6fd49cc8848aa5241697ea1cd9b92d", func := "loop.example/g00285/laws.FnExactRootsOf", spec := "fnExactRootsOf", unfollowed := true, recurses := true, apart := false, narrowed := true }
def FnExactRootsOfUptoSaid : Prop := fnExactRootsOfUptoRow.holds Try.pinned (OpenSpec.upto fnExactRootsOfSpec)

/-- 'laws.FnExactWrite', WHERE WHAT IT READS IS OF BULK AT MOST 1048576: true; the input reads as it did. -/
def fnExactWriteUptoRow : OpenClaim := { program := "ytdclnhlpifahpaa", sum := "56cf852e4485b79a85e067d81760912f3f6fd49cc8848aa5241697ea1cd9b92d", func := "loop.example/g00285/laws.FnExactWrite", spec := "fnExactWrite", unfollowed := true, recurses := true, apart := false, narrowed := true }
def FnExactWriteUptoSaid : Prop := fnExactWriteUptoRow.holds Try.pinned (OpenSpec.upto fnExactWriteSpec)

/-- 'laws.FnLogs', WHERE WHAT IT READS IS OF BULK AT MOST 1048576: true; the input reads as it did. -/
def fnLogsUptoRow : OpenClaim := { program := "ytdclnhlpifahpaa", sum := "56cf852e4485b79a85e067d81760912f3f6fd49cc8848aa5241697ea1cd9b92d", func := "loop.example/g00285/laws.FnLogs", spec := "fnLogs", unfollowed := true, recurses := true, apart := false, narrowed := true }
def FnLogsUptoSaid : Prop := fnLogsUptoRow.holds Try.pinned (OpenSpec.upto fnLogsSpec)

/-- 'laws.FnExactClear', WHERE WHAT IT READS IS OF BULK AT MOST 1048576: true; the input reads as it did. -/
def fnExactClearUptoRow : OpenClaim := { program := "ytdclnhlpifahpaa", sum := "56cf852e4485b79a85e067d81760912f3f6fd49cc8848aa5241697ea1cd9b92d", func := "loop.example/g00285/laws.FnExactClear", spec := "fnExactClear", unfollowed := true, recurses := true, apart := false, narrowed := true }
def FnExactClearUptoSaid : Prop := fnExactClearUptoRow.holds Try.pinned (OpenSpec.upto fnExactClearSpec)

end Rows
end Go.Proofs.Ytdclnhlpifahpaa
