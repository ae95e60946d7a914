/-
  No cell of these rows narrows 'for every input' (looked for: loops, veiled, ifaces, maps, wideKeys, modest, calm, conditions, laid).
  DERIVED. THE GIVEN ROWS OF THIS SEAT. 3 by the template 'for every input the law returns true; each argument reads behind the call as it read before'; 0 by the template 'total and deterministic' (their statements: YtnakbpjofkdabaaGreatTotals.lean).
  GIVEN WITH THE SEED: the statements are not yours to turn. If you find one false, say at which input.
  Laid BY PROGRAM, IN A SANDBOX (cutbox-rows.mjs): the forced cells as the released guide's own fill.sh prints them over the translation 0dd60b5d1ee4db54… (all of the seat's roots in one cut). By AI agents, Wed Nov 11 2026. No macro, syntax, notation, axiom, sorry.
-/
import Derived.Test.YtnakbpjofkdabaaGreatChecked
import GoSem.Claim
import GoSem.ClaimJoined
import GoSem.ClaimMapViews
import Derived.JoinedTies
import Derived.KernelRfl
namespace Go.Proofs.YtnakbpjofkdabaaGreat
/- THE CELL 'sum', in the pinned program and in every row, IS THE sha256 OF THE DUMP (.gsa) THAT YtnakbpjofkdabaaGreatProg.lean LOADS. Nothing in Lean hashes anything: it is a label: what it is worth is what the hold of that sum in a sandbox is worth. -/
noncomputable def Tryz.pinned : Pinned := { name := "ytnakbpjofkdabaagreat", sum := "0dd60b5d1ee4db5456d97b963f5eb92b7663dfbe5d1d3253b4214aec27061741", checked := Tryz.checked }
namespace Rows
def none {H : Type} : Left H := { results := [], args := [] }

/-- 'laws.FnExactLiveOf': WHATEVER THE INPUT: true; the input reads as it did. -/
def fnExactLiveOfSpec : ChangeSpec := { name := "fnExactLiveOf", fn := fun _ => fun
  | [d] => { results := [.lit (.bool true)], args := [d] }
  | _ => none }
def fnExactLiveOfRow : OpenClaim := { program := "ytnakbpjofkdabaagreat", sum := "0dd60b5d1ee4db5456d97b963f5eb92b7663dfbe5d1d3253b4214aec27061741", func := "loop.example/g00285/laws.FnExactLiveOf", spec := "fnExactLiveOf", unfollowed := true, recurses := true, apart := false }
def FnExactLiveOfSaid : Prop := fnExactLiveOfRow.holds Tryz.pinned (OpenSpec.ofChange fnExactLiveOfSpec)

/-- ITS FALSE NEIGHBOUR: 'it returns false'. Refute it at one input. -/
def fnExactLiveOfWrong : ChangeSpec := { name := "fnExactLiveOf", fn := fun _ => fun
  | [d] => { results := [.lit (.bool false)], args := [d] }
  | _ => none }
def FnExactLiveOfWrongFalsely : Prop := fnExactLiveOfRow.holds Tryz.pinned (OpenSpec.ofChange fnExactLiveOfWrong)

/-- 'laws.FnExactDeadIn': WHATEVER THE INPUT: true; the input reads as it did. -/
def fnExactDeadInSpec : ChangeSpec := { name := "fnExactDeadIn", fn := fun _ => fun
  | [d1, d2, d3] => { results := [.lit (.bool true)], args := [d1, d2, d3] }
  | _ => none }
def fnExactDeadInRow : OpenClaim := { program := "ytnakbpjofkdabaagreat", sum := "0dd60b5d1ee4db5456d97b963f5eb92b7663dfbe5d1d3253b4214aec27061741", func := "loop.example/g00285/laws.FnExactDeadIn", spec := "fnExactDeadIn", unfollowed := true, recurses := true, apart := false }
def FnExactDeadInSaid : Prop := fnExactDeadInRow.holds Tryz.pinned (OpenSpec.ofChange fnExactDeadInSpec)

/-- ITS FALSE NEIGHBOUR: 'it returns false'. Refute it at one input. -/
def fnExactDeadInWrong : ChangeSpec := { name := "fnExactDeadIn", fn := fun _ => fun
  | [d1, d2, d3] => { results := [.lit (.bool false)], args := [d1, d2, d3] }
  | _ => none }
def FnExactDeadInWrongFalsely : Prop := fnExactDeadInRow.holds Tryz.pinned (OpenSpec.ofChange fnExactDeadInWrong)

/-- 'laws.FnExactVictim': WHATEVER THE INPUT: true; the input reads as it did. -/
def fnExactVictimSpec : ChangeSpec := { name := "fnExactVictim", fn := fun _ => fun
  | [d1, d2] => { results := [.lit (.bool true)], args := [d1, d2] }
  | _ => none }
def fnExactVictimRow : OpenClaim := { program := "ytnakbpjofkdabaagreat", sum := "0dd60b5d1ee4db5456d97b963f5eb92b7663dfbe5d1d3253b4214aec27061741", func := "loop.example/g00285/laws.FnExactVictim", spec := "fnExactVictim", unfollowed := true, recurses := true, apart := false }
def FnExactVictimSaid : Prop := fnExactVictimRow.holds Tryz.pinned (OpenSpec.ofChange fnExactVictimSpec)

/-- ITS FALSE NEIGHBOUR: 'it returns false'. Refute it at one input. -/
def fnExactVictimWrong : ChangeSpec := { name := "fnExactVictim", fn := fun _ => fun
  | [d1, d2] => { results := [.lit (.bool false)], args := [d1, d2] }
  | _ => none }
def FnExactVictimWrongFalsely : Prop := fnExactVictimRow.holds Tryz.pinned (OpenSpec.ofChange fnExactVictimWrong)

/- THE SECOND FORM. 'bulk': how many values and letters a reading holds, each counted each time it is reached (what is shared counts as often as it is met; a slice's spare places count too). A statement '..UptoSaid' is the law's where the arguments, and the package variables that the reading takes, are together of bulk at most 1048576: NARROWER than '..Said'. Prove '..Said' where nothing that the law and all that it calls make is longer than what came in: it says more and counts as full. Else prove '..UptoSaid'. A law counts once. -/
mutual
def uptoBulk {H : Type} : DataW H → Nat
  | .lit (.string bytes) => bytes.length + 1
  | .lit _ => 1
  | .nil => 1
  | .ptr d => uptoBulk d + 1
  | .slice elems spare => uptoBulkAll elems + uptoBulkAll spare + 1
  | .agg parts => uptoBulkAll parts + 1
  | .iface _ d => uptoBulk d + 1
  | .map entries => uptoBulkEntries entries + 1
  | .held _ => 1
def uptoBulkAll {H : Type} : List (DataW H) → Nat
  | [] => 0
  | d :: r => uptoBulk d + uptoBulkAll r
def uptoBulkEntries {H : Type} : List (Lit × DataW H) → Nat
  | [] => 0
  | x :: r => uptoBulkEntry x + uptoBulkEntries r
def uptoBulkEntry {H : Type} : Lit × DataW H → Nat
  | (.string bytes, d) => bytes.length + uptoBulk d + 1
  | (_, d) => uptoBulk d + 1
 end
def uptoSmall : (H : Type) → List (DataW H) → Bool := fun _ ds => decide (uptoBulkAll ds ≤ 1048576)
def OpenSpec.upto (s : _root_.Go.ChangeSpec) : _root_.Go.OpenSpec := { _root_.Go.OpenSpec.ofChange s with cond := some uptoSmall }

/-- 'laws.FnExactLiveOf', WHERE WHAT IT READS IS OF BULK AT MOST 1048576: true; the input reads as it did. -/
def fnExactLiveOfUptoRow : OpenClaim := { program := "ytnakbpjofkdabaagreat", sum := "0dd60b5d1ee4db5456d97b963f5eb92b7663dfbe5d1d3253b4214aec27061741", func := "loop.example/g00285/laws.FnExactLiveOf", spec := "fnExactLiveOf", unfollowed := true, recurses := true, apart := false, narrowed := true }
def FnExactLiveOfUptoSaid : Prop := fnExactLiveOfUptoRow.holds Tryz.pinned (OpenSpec.upto fnExactLiveOfSpec)

/-- 'laws.FnExactDeadIn', WHERE WHAT IT READS IS OF BULK AT MOST 1048576: true; the input reads as it did. -/
def fnExactDeadInUptoRow : OpenClaim := { program := "ytnakbpjofkdabaagreat", sum := "0dd60b5d1ee4db5456d97b963f5eb92b7663dfbe5d1d3253b4214aec27061741", func := "loop.example/g00285/laws.FnExactDeadIn", spec := "fnExactDeadIn", unfollowed := true, recurses := true, apart := false, narrowed := true }
def FnExactDeadInUptoSaid : Prop := fnExactDeadInUptoRow.holds Tryz.pinned (OpenSpec.upto fnExactDeadInSpec)

/-- 'laws.FnExactVictim', WHERE WHAT IT READS IS OF BULK AT MOST 1048576: true; the input reads as it did. -/
def fnExactVictimUptoRow : OpenClaim := { program := "ytnakbpjofkdabaagreat", sum := "0dd60b5d1ee4db5456d97b963f5eb92b7663dfbe5d1d3253b4214aec27061741", func := "loop.example/g00285/laws.FnExactVictim", spec := "fnExactVictim", unfollowed := true, recurses := true, apart := false, narrowed := true }
def FnExactVictimUptoSaid : Prop := fnExactVictimUptoRow.holds Tryz.pinned (OpenSpec.upto fnExactVictimSpec)

end Rows
end Go.Proofs.YtnakbpjofkdabaaGreat
