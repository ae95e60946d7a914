/- What functions of the law FnExactEngNew come to, in trees; no condition. -/
import Derived.Test.YtcippopaecnjhaaGreatRows
import Derived.Test.YtcippopaecnjhaaGreatX0
import Derived.KernelRfl
set_option linter.unusedVariables false
set_option linter.constructorNameAsVariable false
set_option linter.unusedSimpArgs false
set_option linter.unnecessarySimpa false
namespace Go.Proofs.YtcippopaecnjhaaGreat.T
open Go Go.Proofs.YtcippopaecnjhaaGreatV
def f75_0_s (c : Orc) (lf : Nat) (L : Int → Int → List T → Option (List T)) (x491 x492 : Int) (x493 : List T) : Option (List T) :=
 bif iLt x492 (x493.length : Int) then
  bif inR x492 x493.length then
  (c 133 [T.i .i64 (IntKind.wrap .i64 (x491 + 1))]).bind fun r494 =>
  bif inR x492 ((x493.set x492.toNat (T.setc (x493.getD x492.toNat T.u) 0 (T.i .i64 x491))).length) then
  bif inR x492 (((x493.set x492.toNat (T.setc (x493.getD x492.toNat T.u) 0 (T.i .i64 x491))).set x492.toNat (T.setc ((x493.set x492.toNat (T.setc (x493.getD x492.toNat T.u) 0 (T.i .i64 x491))).getD x492.toNat T.u) 1 (T.s (asS (nth r494 0))))).length) then
  bif inR x492 ((((x493.set x492.toNat (T.setc (x493.getD x492.toNat T.u) 0 (T.i .i64 x491))).set x492.toNat (T.setc ((x493.set x492.toNat (T.setc (x493.getD x492.toNat T.u) 0 (T.i .i64 x491))).getD x492.toNat T.u) 1 (T.s (asS (nth r494 0))))).set x492.toNat (T.setc (((x493.set x492.toNat (T.setc (x493.getD x492.toNat T.u) 0 (T.i .i64 x491))).set x492.toNat (T.setc ((x493.set x492.toNat (T.setc (x493.getD x492.toNat T.u) 0 (T.i .i64 x491))).getD x492.toNat T.u) 1 (T.s (asS (nth r494 0))))).getD x492.toNat T.u) 2 (T.b (((IntKind.wrap .i64 ((IntKind.wrap .i64 (x491 + 1)) + 1)).tmod 3) == 0)))).length) then
  bif inR x492 (((((x493.set x492.toNat (T.setc (x493.getD x492.toNat T.u) 0 (T.i .i64 x491))).set x492.toNat (T.setc ((x493.set x492.toNat (T.setc (x493.getD x492.toNat T.u) 0 (T.i .i64 x491))).getD x492.toNat T.u) 1 (T.s (asS (nth r494 0))))).set x492.toNat (T.setc (((x493.set x492.toNat (T.setc (x493.getD x492.toNat T.u) 0 (T.i .i64 x491))).set x492.toNat (T.setc ((x493.set x492.toNat (T.setc (x493.getD x492.toNat T.u) 0 (T.i .i64 x491))).getD x492.toNat T.u) 1 (T.s (asS (nth r494 0))))).getD x492.toNat T.u) 2 (T.b (((IntKind.wrap .i64 ((IntKind.wrap .i64 (x491 + 1)) + 1)).tmod 3) == 0)))).set x492.toNat (T.setc ((((x493.set x492.toNat (T.setc (x493.getD x492.toNat T.u) 0 (T.i .i64 x491))).set x492.toNat (T.setc ((x493.set x492.toNat (T.setc (x493.getD x492.toNat T.u) 0 (T.i .i64 x491))).getD x492.toNat T.u) 1 (T.s (asS (nth r494 0))))).set x492.toNat (T.setc (((x493.set x492.toNat (T.setc (x493.getD x492.toNat T.u) 0 (T.i .i64 x491))).set x492.toNat (T.setc ((x493.set x492.toNat (T.setc (x493.getD x492.toNat T.u) 0 (T.i .i64 x491))).getD x492.toNat T.u) 1 (T.s (asS (nth r494 0))))).getD x492.toNat T.u) 2 (T.b (((IntKind.wrap .i64 ((IntKind.wrap .i64 (x491 + 1)) + 1)).tmod 3) == 0)))).getD x492.toNat T.u) 3 (T.i .i64 (IntKind.wrap .i64 ((IntKind.wrap .i64 ((IntKind.wrap .i64 (x491 + 1)) + 1)) + 1))))).length) then
  (c 134 [T.sl (asL (T.cell (((((x493.set x492.toNat (T.setc (x493.getD x492.toNat T.u) 0 (T.i .i64 x491))).set x492.toNat (T.setc ((x493.set x492.toNat (T.setc (x493.getD x492.toNat T.u) 0 (T.i .i64 x491))).getD x492.toNat T.u) 1 (T.s (asS (nth r494 0))))).set x492.toNat (T.setc (((x493.set x492.toNat (T.setc (x493.getD x492.toNat T.u) 0 (T.i .i64 x491))).set x492.toNat (T.setc ((x493.set x492.toNat (T.setc (x493.getD x492.toNat T.u) 0 (T.i .i64 x491))).getD x492.toNat T.u) 1 (T.s (asS (nth r494 0))))).getD x492.toNat T.u) 2 (T.b (((IntKind.wrap .i64 ((IntKind.wrap .i64 (x491 + 1)) + 1)).tmod 3) == 0)))).set x492.toNat (T.setc ((((x493.set x492.toNat (T.setc (x493.getD x492.toNat T.u) 0 (T.i .i64 x491))).set x492.toNat (T.setc ((x493.set x492.toNat (T.setc (x493.getD x492.toNat T.u) 0 (T.i .i64 x491))).getD x492.toNat T.u) 1 (T.s (asS (nth r494 0))))).set x492.toNat (T.setc (((x493.set x492.toNat (T.setc (x493.getD x492.toNat T.u) 0 (T.i .i64 x491))).set x492.toNat (T.setc ((x493.set x492.toNat (T.setc (x493.getD x492.toNat T.u) 0 (T.i .i64 x491))).getD x492.toNat T.u) 1 (T.s (asS (nth r494 0))))).getD x492.toNat T.u) 2 (T.b (((IntKind.wrap .i64 ((IntKind.wrap .i64 (x491 + 1)) + 1)).tmod 3) == 0)))).getD x492.toNat T.u) 3 (T.i .i64 (IntKind.wrap .i64 ((IntKind.wrap .i64 ((IntKind.wrap .i64 (x491 + 1)) + 1)) + 1))))).getD x492.toNat T.u) 4)), T.i .i64 (IntKind.wrap .i64 ((IntKind.wrap .i64 ((IntKind.wrap .i64 ((IntKind.wrap .i64 (x491 + 1)) + 1)) + 1)) + 1))]).bind fun r495 =>
  bif inR x492 ((((((x493.set x492.toNat (T.setc (x493.getD x492.toNat T.u) 0 (T.i .i64 x491))).set x492.toNat (T.setc ((x493.set x492.toNat (T.setc (x493.getD x492.toNat T.u) 0 (T.i .i64 x491))).getD x492.toNat T.u) 1 (T.s (asS (nth r494 0))))).set x492.toNat (T.setc (((x493.set x492.toNat (T.setc (x493.getD x492.toNat T.u) 0 (T.i .i64 x491))).set x492.toNat (T.setc ((x493.set x492.toNat (T.setc (x493.getD x492.toNat T.u) 0 (T.i .i64 x491))).getD x492.toNat T.u) 1 (T.s (asS (nth r494 0))))).getD x492.toNat T.u) 2 (T.b (((IntKind.wrap .i64 ((IntKind.wrap .i64 (x491 + 1)) + 1)).tmod 3) == 0)))).set x492.toNat (T.setc ((((x493.set x492.toNat (T.setc (x493.getD x492.toNat T.u) 0 (T.i .i64 x491))).set x492.toNat (T.setc ((x493.set x492.toNat (T.setc (x493.getD x492.toNat T.u) 0 (T.i .i64 x491))).getD x492.toNat T.u) 1 (T.s (asS (nth r494 0))))).set x492.toNat (T.setc (((x493.set x492.toNat (T.setc (x493.getD x492.toNat T.u) 0 (T.i .i64 x491))).set x492.toNat (T.setc ((x493.set x492.toNat (T.setc (x493.getD x492.toNat T.u) 0 (T.i .i64 x491))).getD x492.toNat T.u) 1 (T.s (asS (nth r494 0))))).getD x492.toNat T.u) 2 (T.b (((IntKind.wrap .i64 ((IntKind.wrap .i64 (x491 + 1)) + 1)).tmod 3) == 0)))).getD x492.toNat T.u) 3 (T.i .i64 (IntKind.wrap .i64 ((IntKind.wrap .i64 ((IntKind.wrap .i64 (x491 + 1)) + 1)) + 1))))).set x492.toNat (T.setc (((((x493.set x492.toNat (T.setc (x493.getD x492.toNat T.u) 0 (T.i .i64 x491))).set x492.toNat (T.setc ((x493.set x492.toNat (T.setc (x493.getD x492.toNat T.u) 0 (T.i .i64 x491))).getD x492.toNat T.u) 1 (T.s (asS (nth r494 0))))).set x492.toNat (T.setc (((x493.set x492.toNat (T.setc (x493.getD x492.toNat T.u) 0 (T.i .i64 x491))).set x492.toNat (T.setc ((x493.set x492.toNat (T.setc (x493.getD x492.toNat T.u) 0 (T.i .i64 x491))).getD x492.toNat T.u) 1 (T.s (asS (nth r494 0))))).getD x492.toNat T.u) 2 (T.b (((IntKind.wrap .i64 ((IntKind.wrap .i64 (x491 + 1)) + 1)).tmod 3) == 0)))).set x492.toNat (T.setc ((((x493.set x492.toNat (T.setc (x493.getD x492.toNat T.u) 0 (T.i .i64 x491))).set x492.toNat (T.setc ((x493.set x492.toNat (T.setc (x493.getD x492.toNat T.u) 0 (T.i .i64 x491))).getD x492.toNat T.u) 1 (T.s (asS (nth r494 0))))).set x492.toNat (T.setc (((x493.set x492.toNat (T.setc (x493.getD x492.toNat T.u) 0 (T.i .i64 x491))).set x492.toNat (T.setc ((x493.set x492.toNat (T.setc (x493.getD x492.toNat T.u) 0 (T.i .i64 x491))).getD x492.toNat T.u) 1 (T.s (asS (nth r494 0))))).getD x492.toNat T.u) 2 (T.b (((IntKind.wrap .i64 ((IntKind.wrap .i64 (x491 + 1)) + 1)).tmod 3) == 0)))).getD x492.toNat T.u) 3 (T.i .i64 (IntKind.wrap .i64 ((IntKind.wrap .i64 ((IntKind.wrap .i64 (x491 + 1)) + 1)) + 1))))).getD x492.toNat T.u) 4 (T.sl (asL (nth r495 1))))).length) then
  L (IntKind.wrap .i64 ((asI (nth r495 0)) + 1)) (IntKind.wrap .i64 (x492 + 1)) ((((((x493.set x492.toNat (T.setc (x493.getD x492.toNat T.u) 0 (T.i .i64 x491))).set x492.toNat (T.setc ((x493.set x492.toNat (T.setc (x493.getD x492.toNat T.u) 0 (T.i .i64 x491))).getD x492.toNat T.u) 1 (T.s (asS (nth r494 0))))).set x492.toNat (T.setc (((x493.set x492.toNat (T.setc (x493.getD x492.toNat T.u) 0 (T.i .i64 x491))).set x492.toNat (T.setc ((x493.set x492.toNat (T.setc (x493.getD x492.toNat T.u) 0 (T.i .i64 x491))).getD x492.toNat T.u) 1 (T.s (asS (nth r494 0))))).getD x492.toNat T.u) 2 (T.b (((IntKind.wrap .i64 ((IntKind.wrap .i64 (x491 + 1)) + 1)).tmod 3) == 0)))).set x492.toNat (T.setc ((((x493.set x492.toNat (T.setc (x493.getD x492.toNat T.u) 0 (T.i .i64 x491))).set x492.toNat (T.setc ((x493.set x492.toNat (T.setc (x493.getD x492.toNat T.u) 0 (T.i .i64 x491))).getD x492.toNat T.u) 1 (T.s (asS (nth r494 0))))).set x492.toNat (T.setc (((x493.set x492.toNat (T.setc (x493.getD x492.toNat T.u) 0 (T.i .i64 x491))).set x492.toNat (T.setc ((x493.set x492.toNat (T.setc (x493.getD x492.toNat T.u) 0 (T.i .i64 x491))).getD x492.toNat T.u) 1 (T.s (asS (nth r494 0))))).getD x492.toNat T.u) 2 (T.b (((IntKind.wrap .i64 ((IntKind.wrap .i64 (x491 + 1)) + 1)).tmod 3) == 0)))).getD x492.toNat T.u) 3 (T.i .i64 (IntKind.wrap .i64 ((IntKind.wrap .i64 ((IntKind.wrap .i64 (x491 + 1)) + 1)) + 1))))).set x492.toNat (T.setc (((((x493.set x492.toNat (T.setc (x493.getD x492.toNat T.u) 0 (T.i .i64 x491))).set x492.toNat (T.setc ((x493.set x492.toNat (T.setc (x493.getD x492.toNat T.u) 0 (T.i .i64 x491))).getD x492.toNat T.u) 1 (T.s (asS (nth r494 0))))).set x492.toNat (T.setc (((x493.set x492.toNat (T.setc (x493.getD x492.toNat T.u) 0 (T.i .i64 x491))).set x492.toNat (T.setc ((x493.set x492.toNat (T.setc (x493.getD x492.toNat T.u) 0 (T.i .i64 x491))).getD x492.toNat T.u) 1 (T.s (asS (nth r494 0))))).getD x492.toNat T.u) 2 (T.b (((IntKind.wrap .i64 ((IntKind.wrap .i64 (x491 + 1)) + 1)).tmod 3) == 0)))).set x492.toNat (T.setc ((((x493.set x492.toNat (T.setc (x493.getD x492.toNat T.u) 0 (T.i .i64 x491))).set x492.toNat (T.setc ((x493.set x492.toNat (T.setc (x493.getD x492.toNat T.u) 0 (T.i .i64 x491))).getD x492.toNat T.u) 1 (T.s (asS (nth r494 0))))).set x492.toNat (T.setc (((x493.set x492.toNat (T.setc (x493.getD x492.toNat T.u) 0 (T.i .i64 x491))).set x492.toNat (T.setc ((x493.set x492.toNat (T.setc (x493.getD x492.toNat T.u) 0 (T.i .i64 x491))).getD x492.toNat T.u) 1 (T.s (asS (nth r494 0))))).getD x492.toNat T.u) 2 (T.b (((IntKind.wrap .i64 ((IntKind.wrap .i64 (x491 + 1)) + 1)).tmod 3) == 0)))).getD x492.toNat T.u) 3 (T.i .i64 (IntKind.wrap .i64 ((IntKind.wrap .i64 ((IntKind.wrap .i64 (x491 + 1)) + 1)) + 1))))).getD x492.toNat T.u) 4 (T.sl (asL (nth r495 1))))).set x492.toNat (T.setc ((((((x493.set x492.toNat (T.setc (x493.getD x492.toNat T.u) 0 (T.i .i64 x491))).set x492.toNat (T.setc ((x493.set x492.toNat (T.setc (x493.getD x492.toNat T.u) 0 (T.i .i64 x491))).getD x492.toNat T.u) 1 (T.s (asS (nth r494 0))))).set x492.toNat (T.setc (((x493.set x492.toNat (T.setc (x493.getD x492.toNat T.u) 0 (T.i .i64 x491))).set x492.toNat (T.setc ((x493.set x492.toNat (T.setc (x493.getD x492.toNat T.u) 0 (T.i .i64 x491))).getD x492.toNat T.u) 1 (T.s (asS (nth r494 0))))).getD x492.toNat T.u) 2 (T.b (((IntKind.wrap .i64 ((IntKind.wrap .i64 (x491 + 1)) + 1)).tmod 3) == 0)))).set x492.toNat (T.setc ((((x493.set x492.toNat (T.setc (x493.getD x492.toNat T.u) 0 (T.i .i64 x491))).set x492.toNat (T.setc ((x493.set x492.toNat (T.setc (x493.getD x492.toNat T.u) 0 (T.i .i64 x491))).getD x492.toNat T.u) 1 (T.s (asS (nth r494 0))))).set x492.toNat (T.setc (((x493.set x492.toNat (T.setc (x493.getD x492.toNat T.u) 0 (T.i .i64 x491))).set x492.toNat (T.setc ((x493.set x492.toNat (T.setc (x493.getD x492.toNat T.u) 0 (T.i .i64 x491))).getD x492.toNat T.u) 1 (T.s (asS (nth r494 0))))).getD x492.toNat T.u) 2 (T.b (((IntKind.wrap .i64 ((IntKind.wrap .i64 (x491 + 1)) + 1)).tmod 3) == 0)))).getD x492.toNat T.u) 3 (T.i .i64 (IntKind.wrap .i64 ((IntKind.wrap .i64 ((IntKind.wrap .i64 (x491 + 1)) + 1)) + 1))))).set x492.toNat (T.setc (((((x493.set x492.toNat (T.setc (x493.getD x492.toNat T.u) 0 (T.i .i64 x491))).set x492.toNat (T.setc ((x493.set x492.toNat (T.setc (x493.getD x492.toNat T.u) 0 (T.i .i64 x491))).getD x492.toNat T.u) 1 (T.s (asS (nth r494 0))))).set x492.toNat (T.setc (((x493.set x492.toNat (T.setc (x493.getD x492.toNat T.u) 0 (T.i .i64 x491))).set x492.toNat (T.setc ((x493.set x492.toNat (T.setc (x493.getD x492.toNat T.u) 0 (T.i .i64 x491))).getD x492.toNat T.u) 1 (T.s (asS (nth r494 0))))).getD x492.toNat T.u) 2 (T.b (((IntKind.wrap .i64 ((IntKind.wrap .i64 (x491 + 1)) + 1)).tmod 3) == 0)))).set x492.toNat (T.setc ((((x493.set x492.toNat (T.setc (x493.getD x492.toNat T.u) 0 (T.i .i64 x491))).set x492.toNat (T.setc ((x493.set x492.toNat (T.setc (x493.getD x492.toNat T.u) 0 (T.i .i64 x491))).getD x492.toNat T.u) 1 (T.s (asS (nth r494 0))))).set x492.toNat (T.setc (((x493.set x492.toNat (T.setc (x493.getD x492.toNat T.u) 0 (T.i .i64 x491))).set x492.toNat (T.setc ((x493.set x492.toNat (T.setc (x493.getD x492.toNat T.u) 0 (T.i .i64 x491))).getD x492.toNat T.u) 1 (T.s (asS (nth r494 0))))).getD x492.toNat T.u) 2 (T.b (((IntKind.wrap .i64 ((IntKind.wrap .i64 (x491 + 1)) + 1)).tmod 3) == 0)))).getD x492.toNat T.u) 3 (T.i .i64 (IntKind.wrap .i64 ((IntKind.wrap .i64 ((IntKind.wrap .i64 (x491 + 1)) + 1)) + 1))))).getD x492.toNat T.u) 4 (T.sl (asL (nth r495 1))))).getD x492.toNat T.u) 5 (T.i .i64 (asI (nth r495 0)))))
  else none
  else none
  else none
  else none
  else none
  else none
 else
  some [T.i .i64 0, T.i .i64 x491, T.sl x493]
def f75_0_c (x491 x492 : Int) (x493 : List T) : CSt := ⟨[.rf 0 [] 0 none, .i .i64 x491, .i .i64 x492], [.row true [.i .i64, .s, .b, .i .i64, .sl true [.i .i64, .i .i64, .i .i64, .sl false [.i .u8], .sl true [.s, .i .i64], .sl true [.s, .s]], .i .i64] x493 0 false, .dead]⟩
theorem f75_0_round (c : Orc) (lf : Nat) (L : CSt → Option (List T)) (x491 x492 : Int) (x493 : List T) :
 roundK c env lf 6 fi75 2 2 [] [0, 1, 5] (x75_2_0) L (f75_0_c x491 x492 x493) = f75_0_s c lf (fun x491 x492 x493 => L (f75_0_c x491 x492 x493)) x491 x492 x493 := by kernel_rfl
def f75_0 (c : Orc) (lf : Nat) : Nat → Int → Int → List T → Option (List T)
 | 0 => fun _ _ _ => none
 | n + 1 => fun x491 x492 x493 => f75_0_s c lf (f75_0 c lf n) x491 x492 x493
theorem f75_0_eq (c : Orc) (lf n : Nat) (x491 x492 : Int) (x493 : List T) :
 lpK c env lf 6 fi75 2 2 [] [0, 1, 5] (x75_2_0) n (f75_0_c x491 x492 x493) = f75_0 c lf n x491 x492 x493 := by
 induction n generalizing x491 x492 x493 with
 | zero => rfl
 | succ n ih =>
  refine (f75_0_round c lf _ x491 x492 x493).trans ?_
  have e : (fun x491 x492 x493 => lpK c env lf 6 fi75 2 2 [] [0, 1, 5] (x75_2_0) n (f75_0_c x491 x492 x493)) = f75_0 c lf n := by funext x491 x492 x493; exact ih x491 x492 x493
  show f75_0_s c lf (fun x491 x492 x493 => lpK c env lf 6 fi75 2 2 [] [0, 1, 5] (x75_2_0) n (f75_0_c x491 x492 x493)) x491 x492 x493 = _
  rw [e]; rfl
def f75_t (c : Orc) (lf : Nat) (lp0 : Int → Int → List T → Option (List T)) (l0 : List T) (n1 : Int) : Option (List T) :=
 (lp0 n1 0 l0).bind fun r496 =>
 some [T.i .i64 (asI (nth r496 1)), T.sl (asL (nth r496 2))]
def f75 (c : Orc) (lf : Nat) (l0 : List T) (n1 : Int) : Option (List T) := f75_t c lf (fun (x491 x492 : Int) (x493 : List T) => f75_0 c lf lf x491 x492 x493) l0 n1
theorem f75_raw (c : Orc) (lf : Nat) (l0 : List T) (n1 : Int) : funK c env lf 6 fi75 [.sl l0, .i .i64 n1] = f75_t c lf (fun (x491 x492 : Int) (x493 : List T) => lpK c env lf 6 fi75 2 2 [] [0, 1, 5] (x75_2_0) lf (f75_0_c x491 x492 x493)) l0 n1 := by kernel_rfl
theorem f75_eq (c : Orc) (lf : Nat) (l0 : List T) (n1 : Int) : funK c env lf 6 fi75 [.sl l0, .i .i64 n1] = f75 c lf l0 n1 := by
 refine (f75_raw c lf l0 n1).trans ?_
 have e0 : (fun (x491 x492 : Int) (x493 : List T) => lpK c env lf 6 fi75 2 2 [] [0, 1, 5] (x75_2_0) lf (f75_0_c x491 x492 x493)) = (fun (x491 x492 : Int) (x493 : List T) => f75_0 c lf lf x491 x492 x493) := by funext x491 x492 x493; exact f75_0_eq c lf lf x491 x492 x493
 rw [e0]; rfl
def f34_t (c : Orc) (lf : Nat) (l0_0 : List T) (n0_1 n1 : Int) : Option (List T) :=
 (c 75 [T.sl l0_0, T.i .i64 n1]).bind fun r497 =>
 some [T.i .i64 (asI (nth r497 0)), T.sl (asL (nth r497 1))]
def f34 (c : Orc) (lf : Nat) (l0_0 : List T) (n0_1 n1 : Int) : Option (List T) := f34_t c lf l0_0 n0_1 n1
theorem f34_eq (c : Orc) (lf : Nat) (l0_0 : List T) (n0_1 n1 : Int) : funK c env lf 6 fi34 [.st [.sl l0_0, .i .i64 n0_1], .i .i64 n1] = f34 c lf l0_0 n0_1 n1 := by kernel_rfl
def f135_0_s (c : Orc) (lf : Nat) (L : Int → Int → List T → Option (List T)) (x505 x506 : Int) (x507 : List T) : Option (List T) :=
 bif iLt x506 (x507.length : Int) then
  bif inR x506 x507.length then
  (c 133 [T.i .i64 (IntKind.wrap .i64 (x505 + 1))]).bind fun r508 =>
  bif inR x506 ((x507.set x506.toNat (T.setc (x507.getD x506.toNat T.u) 0 (T.i .i64 x505))).length) then
  bif inR x506 (((x507.set x506.toNat (T.setc (x507.getD x506.toNat T.u) 0 (T.i .i64 x505))).set x506.toNat (T.setc ((x507.set x506.toNat (T.setc (x507.getD x506.toNat T.u) 0 (T.i .i64 x505))).getD x506.toNat T.u) 1 (T.s (asS (nth r508 0))))).length) then
  bif inR x506 ((((x507.set x506.toNat (T.setc (x507.getD x506.toNat T.u) 0 (T.i .i64 x505))).set x506.toNat (T.setc ((x507.set x506.toNat (T.setc (x507.getD x506.toNat T.u) 0 (T.i .i64 x505))).getD x506.toNat T.u) 1 (T.s (asS (nth r508 0))))).set x506.toNat (T.setc (((x507.set x506.toNat (T.setc (x507.getD x506.toNat T.u) 0 (T.i .i64 x505))).set x506.toNat (T.setc ((x507.set x506.toNat (T.setc (x507.getD x506.toNat T.u) 0 (T.i .i64 x505))).getD x506.toNat T.u) 1 (T.s (asS (nth r508 0))))).getD x506.toNat T.u) 2 (T.b (((IntKind.wrap .i64 ((IntKind.wrap .i64 (x505 + 1)) + 1)).tmod 3) == 0)))).length) then
  bif inR x506 (((((x507.set x506.toNat (T.setc (x507.getD x506.toNat T.u) 0 (T.i .i64 x505))).set x506.toNat (T.setc ((x507.set x506.toNat (T.setc (x507.getD x506.toNat T.u) 0 (T.i .i64 x505))).getD x506.toNat T.u) 1 (T.s (asS (nth r508 0))))).set x506.toNat (T.setc (((x507.set x506.toNat (T.setc (x507.getD x506.toNat T.u) 0 (T.i .i64 x505))).set x506.toNat (T.setc ((x507.set x506.toNat (T.setc (x507.getD x506.toNat T.u) 0 (T.i .i64 x505))).getD x506.toNat T.u) 1 (T.s (asS (nth r508 0))))).getD x506.toNat T.u) 2 (T.b (((IntKind.wrap .i64 ((IntKind.wrap .i64 (x505 + 1)) + 1)).tmod 3) == 0)))).set x506.toNat (T.setc ((((x507.set x506.toNat (T.setc (x507.getD x506.toNat T.u) 0 (T.i .i64 x505))).set x506.toNat (T.setc ((x507.set x506.toNat (T.setc (x507.getD x506.toNat T.u) 0 (T.i .i64 x505))).getD x506.toNat T.u) 1 (T.s (asS (nth r508 0))))).set x506.toNat (T.setc (((x507.set x506.toNat (T.setc (x507.getD x506.toNat T.u) 0 (T.i .i64 x505))).set x506.toNat (T.setc ((x507.set x506.toNat (T.setc (x507.getD x506.toNat T.u) 0 (T.i .i64 x505))).getD x506.toNat T.u) 1 (T.s (asS (nth r508 0))))).getD x506.toNat T.u) 2 (T.b (((IntKind.wrap .i64 ((IntKind.wrap .i64 (x505 + 1)) + 1)).tmod 3) == 0)))).getD x506.toNat T.u) 3 (T.i .i64 (IntKind.wrap .i64 ((IntKind.wrap .i64 ((IntKind.wrap .i64 (x505 + 1)) + 1)) + 1))))).length) then
  L (IntKind.wrap .i64 ((IntKind.wrap .i64 ((IntKind.wrap .i64 ((IntKind.wrap .i64 ((IntKind.wrap .i64 (x505 + 1)) + 1)) + 1)) + 1)) + 1)) (IntKind.wrap .i64 (x506 + 1)) (((((x507.set x506.toNat (T.setc (x507.getD x506.toNat T.u) 0 (T.i .i64 x505))).set x506.toNat (T.setc ((x507.set x506.toNat (T.setc (x507.getD x506.toNat T.u) 0 (T.i .i64 x505))).getD x506.toNat T.u) 1 (T.s (asS (nth r508 0))))).set x506.toNat (T.setc (((x507.set x506.toNat (T.setc (x507.getD x506.toNat T.u) 0 (T.i .i64 x505))).set x506.toNat (T.setc ((x507.set x506.toNat (T.setc (x507.getD x506.toNat T.u) 0 (T.i .i64 x505))).getD x506.toNat T.u) 1 (T.s (asS (nth r508 0))))).getD x506.toNat T.u) 2 (T.b (((IntKind.wrap .i64 ((IntKind.wrap .i64 (x505 + 1)) + 1)).tmod 3) == 0)))).set x506.toNat (T.setc ((((x507.set x506.toNat (T.setc (x507.getD x506.toNat T.u) 0 (T.i .i64 x505))).set x506.toNat (T.setc ((x507.set x506.toNat (T.setc (x507.getD x506.toNat T.u) 0 (T.i .i64 x505))).getD x506.toNat T.u) 1 (T.s (asS (nth r508 0))))).set x506.toNat (T.setc (((x507.set x506.toNat (T.setc (x507.getD x506.toNat T.u) 0 (T.i .i64 x505))).set x506.toNat (T.setc ((x507.set x506.toNat (T.setc (x507.getD x506.toNat T.u) 0 (T.i .i64 x505))).getD x506.toNat T.u) 1 (T.s (asS (nth r508 0))))).getD x506.toNat T.u) 2 (T.b (((IntKind.wrap .i64 ((IntKind.wrap .i64 (x505 + 1)) + 1)).tmod 3) == 0)))).getD x506.toNat T.u) 3 (T.i .i64 (IntKind.wrap .i64 ((IntKind.wrap .i64 ((IntKind.wrap .i64 (x505 + 1)) + 1)) + 1))))).set x506.toNat (T.setc (((((x507.set x506.toNat (T.setc (x507.getD x506.toNat T.u) 0 (T.i .i64 x505))).set x506.toNat (T.setc ((x507.set x506.toNat (T.setc (x507.getD x506.toNat T.u) 0 (T.i .i64 x505))).getD x506.toNat T.u) 1 (T.s (asS (nth r508 0))))).set x506.toNat (T.setc (((x507.set x506.toNat (T.setc (x507.getD x506.toNat T.u) 0 (T.i .i64 x505))).set x506.toNat (T.setc ((x507.set x506.toNat (T.setc (x507.getD x506.toNat T.u) 0 (T.i .i64 x505))).getD x506.toNat T.u) 1 (T.s (asS (nth r508 0))))).getD x506.toNat T.u) 2 (T.b (((IntKind.wrap .i64 ((IntKind.wrap .i64 (x505 + 1)) + 1)).tmod 3) == 0)))).set x506.toNat (T.setc ((((x507.set x506.toNat (T.setc (x507.getD x506.toNat T.u) 0 (T.i .i64 x505))).set x506.toNat (T.setc ((x507.set x506.toNat (T.setc (x507.getD x506.toNat T.u) 0 (T.i .i64 x505))).getD x506.toNat T.u) 1 (T.s (asS (nth r508 0))))).set x506.toNat (T.setc (((x507.set x506.toNat (T.setc (x507.getD x506.toNat T.u) 0 (T.i .i64 x505))).set x506.toNat (T.setc ((x507.set x506.toNat (T.setc (x507.getD x506.toNat T.u) 0 (T.i .i64 x505))).getD x506.toNat T.u) 1 (T.s (asS (nth r508 0))))).getD x506.toNat T.u) 2 (T.b (((IntKind.wrap .i64 ((IntKind.wrap .i64 (x505 + 1)) + 1)).tmod 3) == 0)))).getD x506.toNat T.u) 3 (T.i .i64 (IntKind.wrap .i64 ((IntKind.wrap .i64 ((IntKind.wrap .i64 (x505 + 1)) + 1)) + 1))))).getD x506.toNat T.u) 4 (T.i .i64 (IntKind.wrap .i64 ((IntKind.wrap .i64 ((IntKind.wrap .i64 ((IntKind.wrap .i64 (x505 + 1)) + 1)) + 1)) + 1)))))
  else none
  else none
  else none
  else none
  else none
 else
  some [T.i .i64 0, T.i .i64 x505, T.sl x507]
def f135_0_c (x505 x506 : Int) (x507 : List T) : CSt := ⟨[.rf 0 [] 0 none, .i .i64 x505, .i .i64 x506], [.row true [.i .i64, .s, .b, .i .i64, .i .i64] x507 0 false, .dead]⟩
theorem f135_0_round (c : Orc) (lf : Nat) (L : CSt → Option (List T)) (x505 x506 : Int) (x507 : List T) :
 roundK c env lf 6 fi135 2 2 [] [0, 1, 5] (x135_2_0) L (f135_0_c x505 x506 x507) = f135_0_s c lf (fun x505 x506 x507 => L (f135_0_c x505 x506 x507)) x505 x506 x507 := by kernel_rfl
def f135_0 (c : Orc) (lf : Nat) : Nat → Int → Int → List T → Option (List T)
 | 0 => fun _ _ _ => none
 | n + 1 => fun x505 x506 x507 => f135_0_s c lf (f135_0 c lf n) x505 x506 x507
theorem f135_0_eq (c : Orc) (lf n : Nat) (x505 x506 : Int) (x507 : List T) :
 lpK c env lf 6 fi135 2 2 [] [0, 1, 5] (x135_2_0) n (f135_0_c x505 x506 x507) = f135_0 c lf n x505 x506 x507 := by
 induction n generalizing x505 x506 x507 with
 | zero => rfl
 | succ n ih =>
  refine (f135_0_round c lf _ x505 x506 x507).trans ?_
  have e : (fun x505 x506 x507 => lpK c env lf 6 fi135 2 2 [] [0, 1, 5] (x135_2_0) n (f135_0_c x505 x506 x507)) = f135_0 c lf n := by funext x505 x506 x507; exact ih x505 x506 x507
  show f135_0_s c lf (fun x505 x506 x507 => lpK c env lf 6 fi135 2 2 [] [0, 1, 5] (x135_2_0) n (f135_0_c x505 x506 x507)) x505 x506 x507 = _
  rw [e]; rfl
def f135_t (c : Orc) (lf : Nat) (lp0 : Int → Int → List T → Option (List T)) (l0 : List T) (n1 : Int) : Option (List T) :=
 (lp0 n1 0 l0).bind fun r509 =>
 some [T.i .i64 (asI (nth r509 1)), T.sl (asL (nth r509 2))]
def f135 (c : Orc) (lf : Nat) (l0 : List T) (n1 : Int) : Option (List T) := f135_t c lf (fun (x505 x506 : Int) (x507 : List T) => f135_0 c lf lf x505 x506 x507) l0 n1
theorem f135_raw (c : Orc) (lf : Nat) (l0 : List T) (n1 : Int) : funK c env lf 6 fi135 [.sl l0, .i .i64 n1] = f135_t c lf (fun (x505 x506 : Int) (x507 : List T) => lpK c env lf 6 fi135 2 2 [] [0, 1, 5] (x135_2_0) lf (f135_0_c x505 x506 x507)) l0 n1 := by kernel_rfl
theorem f135_eq (c : Orc) (lf : Nat) (l0 : List T) (n1 : Int) : funK c env lf 6 fi135 [.sl l0, .i .i64 n1] = f135 c lf l0 n1 := by
 refine (f135_raw c lf l0 n1).trans ?_
 have e0 : (fun (x505 x506 : Int) (x507 : List T) => lpK c env lf 6 fi135 2 2 [] [0, 1, 5] (x135_2_0) lf (f135_0_c x505 x506 x507)) = (fun (x505 x506 : Int) (x507 : List T) => f135_0 c lf lf x505 x506 x507) := by funext x505 x506 x507; exact f135_0_eq c lf lf x505 x506 x507
 rw [e0]; rfl
def f76_t (c : Orc) (lf : Nat) (n0_0 : Int) (l0_1 : List T) (n1 : Int) : Option (List T) :=
 (c 135 [T.sl l0_1, T.i .i64 n1]).bind fun r510 =>
 some [T.i .i64 (asI (nth r510 0)), T.sl (asL (nth r510 1))]
def f76 (c : Orc) (lf : Nat) (n0_0 : Int) (l0_1 : List T) (n1 : Int) : Option (List T) := f76_t c lf n0_0 l0_1 n1
theorem f76_eq (c : Orc) (lf : Nat) (n0_0 : Int) (l0_1 : List T) (n1 : Int) : funK c env lf 6 fi76 [.st [.i .i64 n0_0, .sl l0_1], .i .i64 n1] = f76 c lf n0_0 l0_1 n1 := by kernel_rfl
def f136_0_s (c : Orc) (lf : Nat) (L : Int → Int → List T → Option (List T)) (x515 x516 : Int) (x517 : List T) : Option (List T) :=
 bif iLt x516 (x517.length : Int) then
  bif inR x516 x517.length then
  bif inR x516 ((x517.set x516.toNat (T.setc (x517.getD x516.toNat T.u) 0 (T.i .i64 x515))).length) then
  L (IntKind.wrap .i64 ((IntKind.wrap .i64 (x515 + 1)) + 1)) (IntKind.wrap .i64 (x516 + 1)) ((x517.set x516.toNat (T.setc (x517.getD x516.toNat T.u) 0 (T.i .i64 x515))).set x516.toNat (T.setc ((x517.set x516.toNat (T.setc (x517.getD x516.toNat T.u) 0 (T.i .i64 x515))).getD x516.toNat T.u) 1 (T.i .i64 (IntKind.wrap .i64 (x515 + 1)))))
  else none
  else none
 else
  some [T.i .i64 0, T.i .i64 x515, T.sl x517]
def f136_0_c (x515 x516 : Int) (x517 : List T) : CSt := ⟨[.rf 0 [] 0 none, .i .i64 x515, .i .i64 x516], [.row true [.i .i64, .i .i64] x517 0 false, .dead]⟩
theorem f136_0_round (c : Orc) (lf : Nat) (L : CSt → Option (List T)) (x515 x516 : Int) (x517 : List T) :
 roundK c env lf 6 fi136 2 2 [] [0, 1, 5] (x136_2_0) L (f136_0_c x515 x516 x517) = f136_0_s c lf (fun x515 x516 x517 => L (f136_0_c x515 x516 x517)) x515 x516 x517 := by kernel_rfl
def f136_0 (c : Orc) (lf : Nat) : Nat → Int → Int → List T → Option (List T)
 | 0 => fun _ _ _ => none
 | n + 1 => fun x515 x516 x517 => f136_0_s c lf (f136_0 c lf n) x515 x516 x517
theorem f136_0_eq (c : Orc) (lf n : Nat) (x515 x516 : Int) (x517 : List T) :
 lpK c env lf 6 fi136 2 2 [] [0, 1, 5] (x136_2_0) n (f136_0_c x515 x516 x517) = f136_0 c lf n x515 x516 x517 := by
 induction n generalizing x515 x516 x517 with
 | zero => rfl
 | succ n ih =>
  refine (f136_0_round c lf _ x515 x516 x517).trans ?_
  have e : (fun x515 x516 x517 => lpK c env lf 6 fi136 2 2 [] [0, 1, 5] (x136_2_0) n (f136_0_c x515 x516 x517)) = f136_0 c lf n := by funext x515 x516 x517; exact ih x515 x516 x517
  show f136_0_s c lf (fun x515 x516 x517 => lpK c env lf 6 fi136 2 2 [] [0, 1, 5] (x136_2_0) n (f136_0_c x515 x516 x517)) x515 x516 x517 = _
  rw [e]; rfl
def f136_t (c : Orc) (lf : Nat) (lp0 : Int → Int → List T → Option (List T)) (l0 : List T) (n1 : Int) : Option (List T) :=
 (lp0 n1 0 l0).bind fun r518 =>
 some [T.i .i64 (asI (nth r518 1)), T.sl (asL (nth r518 2))]
def f136 (c : Orc) (lf : Nat) (l0 : List T) (n1 : Int) : Option (List T) := f136_t c lf (fun (x515 x516 : Int) (x517 : List T) => f136_0 c lf lf x515 x516 x517) l0 n1
theorem f136_raw (c : Orc) (lf : Nat) (l0 : List T) (n1 : Int) : funK c env lf 6 fi136 [.sl l0, .i .i64 n1] = f136_t c lf (fun (x515 x516 : Int) (x517 : List T) => lpK c env lf 6 fi136 2 2 [] [0, 1, 5] (x136_2_0) lf (f136_0_c x515 x516 x517)) l0 n1 := by kernel_rfl
theorem f136_eq (c : Orc) (lf : Nat) (l0 : List T) (n1 : Int) : funK c env lf 6 fi136 [.sl l0, .i .i64 n1] = f136 c lf l0 n1 := by
 refine (f136_raw c lf l0 n1).trans ?_
 have e0 : (fun (x515 x516 : Int) (x517 : List T) => lpK c env lf 6 fi136 2 2 [] [0, 1, 5] (x136_2_0) lf (f136_0_c x515 x516 x517)) = (fun (x515 x516 : Int) (x517 : List T) => f136_0 c lf lf x515 x516 x517) := by funext x515 x516 x517; exact f136_0_eq c lf lf x515 x516 x517
 rw [e0]; rfl
def f77_0_s (c : Orc) (lf : Nat) (L : Int → Int → List T → Option (List T)) (x526 x527 : Int) (x528 : List T) : Option (List T) :=
 bif iLt x527 (x528.length : Int) then
  bif inR x527 x528.length then
  bif inR x527 ((x528.set x527.toNat (T.setc (x528.getD x527.toNat T.u) 0 (T.i .i64 x526))).length) then
  (c 136 [T.sl (asL (T.cell ((x528.set x527.toNat (T.setc (x528.getD x527.toNat T.u) 0 (T.i .i64 x526))).getD x527.toNat T.u) 1)), T.i .i64 (IntKind.wrap .i64 (x526 + 1))]).bind fun r529 =>
  L (asI (nth r529 0)) (IntKind.wrap .i64 (x527 + 1)) ((x528.set x527.toNat (T.setc (x528.getD x527.toNat T.u) 0 (T.i .i64 x526))).set x527.toNat (T.setc ((x528.set x527.toNat (T.setc (x528.getD x527.toNat T.u) 0 (T.i .i64 x526))).getD x527.toNat T.u) 1 (T.sl (asL (nth r529 1)))))
  else none
  else none
 else
  some [T.i .i64 0, T.i .i64 x526, T.sl x528]
def f77_0_c (x526 x527 : Int) (x528 : List T) : CSt := ⟨[.rf 0 [] 0 none, .i .i64 x526, .i .i64 x527], [.row true [.i .i64, .sl true [.i .i64, .i .i64]] x528 0 false, .dead]⟩
theorem f77_0_round (c : Orc) (lf : Nat) (L : CSt → Option (List T)) (x526 x527 : Int) (x528 : List T) :
 roundK c env lf 6 fi77 2 2 [] [0, 1, 5] (x77_2_0) L (f77_0_c x526 x527 x528) = f77_0_s c lf (fun x526 x527 x528 => L (f77_0_c x526 x527 x528)) x526 x527 x528 := by kernel_rfl
def f77_0 (c : Orc) (lf : Nat) : Nat → Int → Int → List T → Option (List T)
 | 0 => fun _ _ _ => none
 | n + 1 => fun x526 x527 x528 => f77_0_s c lf (f77_0 c lf n) x526 x527 x528
theorem f77_0_eq (c : Orc) (lf n : Nat) (x526 x527 : Int) (x528 : List T) :
 lpK c env lf 6 fi77 2 2 [] [0, 1, 5] (x77_2_0) n (f77_0_c x526 x527 x528) = f77_0 c lf n x526 x527 x528 := by
 induction n generalizing x526 x527 x528 with
 | zero => rfl
 | succ n ih =>
  refine (f77_0_round c lf _ x526 x527 x528).trans ?_
  have e : (fun x526 x527 x528 => lpK c env lf 6 fi77 2 2 [] [0, 1, 5] (x77_2_0) n (f77_0_c x526 x527 x528)) = f77_0 c lf n := by funext x526 x527 x528; exact ih x526 x527 x528
  show f77_0_s c lf (fun x526 x527 x528 => lpK c env lf 6 fi77 2 2 [] [0, 1, 5] (x77_2_0) n (f77_0_c x526 x527 x528)) x526 x527 x528 = _
  rw [e]; rfl
def f77_t (c : Orc) (lf : Nat) (lp0 : Int → Int → List T → Option (List T)) (l0 : List T) (n1 : Int) : Option (List T) :=
 (lp0 n1 0 l0).bind fun r530 =>
 some [T.i .i64 (asI (nth r530 1)), T.sl (asL (nth r530 2))]
def f77 (c : Orc) (lf : Nat) (l0 : List T) (n1 : Int) : Option (List T) := f77_t c lf (fun (x526 x527 : Int) (x528 : List T) => f77_0 c lf lf x526 x527 x528) l0 n1
theorem f77_raw (c : Orc) (lf : Nat) (l0 : List T) (n1 : Int) : funK c env lf 6 fi77 [.sl l0, .i .i64 n1] = f77_t c lf (fun (x526 x527 : Int) (x528 : List T) => lpK c env lf 6 fi77 2 2 [] [0, 1, 5] (x77_2_0) lf (f77_0_c x526 x527 x528)) l0 n1 := by kernel_rfl
theorem f77_eq (c : Orc) (lf : Nat) (l0 : List T) (n1 : Int) : funK c env lf 6 fi77 [.sl l0, .i .i64 n1] = f77 c lf l0 n1 := by
 refine (f77_raw c lf l0 n1).trans ?_
 have e0 : (fun (x526 x527 : Int) (x528 : List T) => lpK c env lf 6 fi77 2 2 [] [0, 1, 5] (x77_2_0) lf (f77_0_c x526 x527 x528)) = (fun (x526 x527 : Int) (x528 : List T) => f77_0 c lf lf x526 x527 x528) := by funext x526 x527 x528; exact f77_0_eq c lf lf x526 x527 x528
 rw [e0]; rfl
def f35_t (c : Orc) (lf : Nat) (l0_0 : List T) (n0_1 n0_2 : Int) (l0_3 l0_4 : List T) (n0_5 n0_6 n1 : Int) : Option (List T) :=
 (c 34 [T.st [T.sl l0_0, T.i .i64 n0_1], T.i .i64 n1]).bind fun r531 =>
 (c 76 [T.st [T.i .i64 n0_2, T.sl l0_3], T.i .i64 (asI (nth r531 0))]).bind fun r532 =>
 (c 77 [T.sl l0_4, T.i .i64 (asI (nth r532 0))]).bind fun r533 =>
 some [T.i .i64 (asI (nth r533 0)), T.sl (asL (nth r531 1)), T.sl (asL (nth r532 1)), T.sl (asL (nth r533 1))]
def f35 (c : Orc) (lf : Nat) (l0_0 : List T) (n0_1 n0_2 : Int) (l0_3 l0_4 : List T) (n0_5 n0_6 n1 : Int) : Option (List T) := f35_t c lf l0_0 n0_1 n0_2 l0_3 l0_4 n0_5 n0_6 n1
theorem f35_eq (c : Orc) (lf : Nat) (l0_0 : List T) (n0_1 n0_2 : Int) (l0_3 l0_4 : List T) (n0_5 n0_6 n1 : Int) : funK c env lf 6 fi35 [.st [.sl l0_0, .i .i64 n0_1, .i .i64 n0_2, .sl l0_3, .sl l0_4, .i .i64 n0_5, .i .i64 n0_6], .i .i64 n1] = f35 c lf l0_0 n0_1 n0_2 l0_3 l0_4 n0_5 n0_6 n1 := by kernel_rfl
def f218_0_s (c : Orc) (lf : Nat) (L : Int → Int → List T → Option (List T)) (x541 x542 : Int) (x543 : List T) : Option (List T) :=
 bif iLt x542 (x543.length : Int) then
  bif inR x542 x543.length then
  bif inR x542 ((x543.set x542.toNat (T.setc (x543.getD x542.toNat T.u) 0 (T.b ((x541.tmod 3) == 0)))).length) then
  (c 187 [T.sl (asL (T.cell ((x543.set x542.toNat (T.setc (x543.getD x542.toNat T.u) 0 (T.b ((x541.tmod 3) == 0)))).getD x542.toNat T.u) 1)), T.i .i64 (IntKind.wrap .i64 (x541 + 1))]).bind fun r544 =>
  L (asI (nth r544 0)) (IntKind.wrap .i64 (x542 + 1)) ((x543.set x542.toNat (T.setc (x543.getD x542.toNat T.u) 0 (T.b ((x541.tmod 3) == 0)))).set x542.toNat (T.setc ((x543.set x542.toNat (T.setc (x543.getD x542.toNat T.u) 0 (T.b ((x541.tmod 3) == 0)))).getD x542.toNat T.u) 1 (T.sl (asL (nth r544 1)))))
  else none
  else none
 else
  some [T.i .i64 0, T.i .i64 x541, T.sl x543]
def f218_0_c (x541 x542 : Int) (x543 : List T) : CSt := ⟨[.rf 0 [] 0 none, .i .i64 x541, .i .i64 x542], [.row true [.b, .sl false [.i .u8]] x543 0 false, .dead]⟩
theorem f218_0_round (c : Orc) (lf : Nat) (L : CSt → Option (List T)) (x541 x542 : Int) (x543 : List T) :
 roundK c env lf 6 fi218 2 2 [] [0, 1, 5] (x218_2_0) L (f218_0_c x541 x542 x543) = f218_0_s c lf (fun x541 x542 x543 => L (f218_0_c x541 x542 x543)) x541 x542 x543 := by kernel_rfl
def f218_0 (c : Orc) (lf : Nat) : Nat → Int → Int → List T → Option (List T)
 | 0 => fun _ _ _ => none
 | n + 1 => fun x541 x542 x543 => f218_0_s c lf (f218_0 c lf n) x541 x542 x543
theorem f218_0_eq (c : Orc) (lf n : Nat) (x541 x542 : Int) (x543 : List T) :
 lpK c env lf 6 fi218 2 2 [] [0, 1, 5] (x218_2_0) n (f218_0_c x541 x542 x543) = f218_0 c lf n x541 x542 x543 := by
 induction n generalizing x541 x542 x543 with
 | zero => rfl
 | succ n ih =>
  refine (f218_0_round c lf _ x541 x542 x543).trans ?_
  have e : (fun x541 x542 x543 => lpK c env lf 6 fi218 2 2 [] [0, 1, 5] (x218_2_0) n (f218_0_c x541 x542 x543)) = f218_0 c lf n := by funext x541 x542 x543; exact ih x541 x542 x543
  show f218_0_s c lf (fun x541 x542 x543 => lpK c env lf 6 fi218 2 2 [] [0, 1, 5] (x218_2_0) n (f218_0_c x541 x542 x543)) x541 x542 x543 = _
  rw [e]; rfl
def f218_t (c : Orc) (lf : Nat) (lp0 : Int → Int → List T → Option (List T)) (l0 : List T) (n1 : Int) : Option (List T) :=
 (lp0 n1 0 l0).bind fun r545 =>
 some [T.i .i64 (asI (nth r545 1)), T.sl (asL (nth r545 2))]
def f218 (c : Orc) (lf : Nat) (l0 : List T) (n1 : Int) : Option (List T) := f218_t c lf (fun (x541 x542 : Int) (x543 : List T) => f218_0 c lf lf x541 x542 x543) l0 n1
theorem f218_raw (c : Orc) (lf : Nat) (l0 : List T) (n1 : Int) : funK c env lf 6 fi218 [.sl l0, .i .i64 n1] = f218_t c lf (fun (x541 x542 : Int) (x543 : List T) => lpK c env lf 6 fi218 2 2 [] [0, 1, 5] (x218_2_0) lf (f218_0_c x541 x542 x543)) l0 n1 := by kernel_rfl
theorem f218_eq (c : Orc) (lf : Nat) (l0 : List T) (n1 : Int) : funK c env lf 6 fi218 [.sl l0, .i .i64 n1] = f218 c lf l0 n1 := by
 refine (f218_raw c lf l0 n1).trans ?_
 have e0 : (fun (x541 x542 : Int) (x543 : List T) => lpK c env lf 6 fi218 2 2 [] [0, 1, 5] (x218_2_0) lf (f218_0_c x541 x542 x543)) = (fun (x541 x542 : Int) (x543 : List T) => f218_0 c lf lf x541 x542 x543) := by funext x541 x542 x543; exact f218_0_eq c lf lf x541 x542 x543
 rw [e0]; rfl
def f190_0_s (c : Orc) (lf : Nat) (L : Int → Int → List T → Option (List T)) (x553 x554 : Int) (x555 : List T) : Option (List T) :=
 bif iLt x554 (x555.length : Int) then
  bif inR x554 x555.length then
  (c 218 [T.sl (asL (T.cell (x555.getD x554.toNat T.u) 0)), T.i .i64 x553]).bind fun r556 =>
  bif inR x554 ((x555.set x554.toNat (T.setc (x555.getD x554.toNat T.u) 0 (T.sl (asL (nth r556 1))))).length) then
  bif inR x554 (((x555.set x554.toNat (T.setc (x555.getD x554.toNat T.u) 0 (T.sl (asL (nth r556 1))))).set x554.toNat (T.setc ((x555.set x554.toNat (T.setc (x555.getD x554.toNat T.u) 0 (T.sl (asL (nth r556 1))))).getD x554.toNat T.u) 1 (T.i .i64 (asI (nth r556 0))))).length) then
  L (IntKind.wrap .i64 ((IntKind.wrap .i64 ((asI (nth r556 0)) + 1)) + 1)) (IntKind.wrap .i64 (x554 + 1)) (((x555.set x554.toNat (T.setc (x555.getD x554.toNat T.u) 0 (T.sl (asL (nth r556 1))))).set x554.toNat (T.setc ((x555.set x554.toNat (T.setc (x555.getD x554.toNat T.u) 0 (T.sl (asL (nth r556 1))))).getD x554.toNat T.u) 1 (T.i .i64 (asI (nth r556 0))))).set x554.toNat (T.setc (((x555.set x554.toNat (T.setc (x555.getD x554.toNat T.u) 0 (T.sl (asL (nth r556 1))))).set x554.toNat (T.setc ((x555.set x554.toNat (T.setc (x555.getD x554.toNat T.u) 0 (T.sl (asL (nth r556 1))))).getD x554.toNat T.u) 1 (T.i .i64 (asI (nth r556 0))))).getD x554.toNat T.u) 2 (T.b (((IntKind.wrap .i64 ((asI (nth r556 0)) + 1)).tmod 3) == 0))))
  else none
  else none
  else none
 else
  some [T.i .i64 0, T.i .i64 x553, T.sl x555]
def f190_0_c (x553 x554 : Int) (x555 : List T) : CSt := ⟨[.rf 0 [] 0 none, .i .i64 x553, .i .i64 x554], [.row true [.sl true [.b, .sl false [.i .u8]], .i .i64, .b] x555 0 false, .dead]⟩
theorem f190_0_round (c : Orc) (lf : Nat) (L : CSt → Option (List T)) (x553 x554 : Int) (x555 : List T) :
 roundK c env lf 6 fi190 2 2 [] [0, 1, 5] (x190_2_0) L (f190_0_c x553 x554 x555) = f190_0_s c lf (fun x553 x554 x555 => L (f190_0_c x553 x554 x555)) x553 x554 x555 := by kernel_rfl
def f190_0 (c : Orc) (lf : Nat) : Nat → Int → Int → List T → Option (List T)
 | 0 => fun _ _ _ => none
 | n + 1 => fun x553 x554 x555 => f190_0_s c lf (f190_0 c lf n) x553 x554 x555
theorem f190_0_eq (c : Orc) (lf n : Nat) (x553 x554 : Int) (x555 : List T) :
 lpK c env lf 6 fi190 2 2 [] [0, 1, 5] (x190_2_0) n (f190_0_c x553 x554 x555) = f190_0 c lf n x553 x554 x555 := by
 induction n generalizing x553 x554 x555 with
 | zero => rfl
 | succ n ih =>
  refine (f190_0_round c lf _ x553 x554 x555).trans ?_
  have e : (fun x553 x554 x555 => lpK c env lf 6 fi190 2 2 [] [0, 1, 5] (x190_2_0) n (f190_0_c x553 x554 x555)) = f190_0 c lf n := by funext x553 x554 x555; exact ih x553 x554 x555
  show f190_0_s c lf (fun x553 x554 x555 => lpK c env lf 6 fi190 2 2 [] [0, 1, 5] (x190_2_0) n (f190_0_c x553 x554 x555)) x553 x554 x555 = _
  rw [e]; rfl
def f190_t (c : Orc) (lf : Nat) (lp0 : Int → Int → List T → Option (List T)) (l0 : List T) (n1 : Int) : Option (List T) :=
 (lp0 n1 0 l0).bind fun r557 =>
 some [T.i .i64 (asI (nth r557 1)), T.sl (asL (nth r557 2))]
def f190 (c : Orc) (lf : Nat) (l0 : List T) (n1 : Int) : Option (List T) := f190_t c lf (fun (x553 x554 : Int) (x555 : List T) => f190_0 c lf lf x553 x554 x555) l0 n1
theorem f190_raw (c : Orc) (lf : Nat) (l0 : List T) (n1 : Int) : funK c env lf 6 fi190 [.sl l0, .i .i64 n1] = f190_t c lf (fun (x553 x554 : Int) (x555 : List T) => lpK c env lf 6 fi190 2 2 [] [0, 1, 5] (x190_2_0) lf (f190_0_c x553 x554 x555)) l0 n1 := by kernel_rfl
theorem f190_eq (c : Orc) (lf : Nat) (l0 : List T) (n1 : Int) : funK c env lf 6 fi190 [.sl l0, .i .i64 n1] = f190 c lf l0 n1 := by
 refine (f190_raw c lf l0 n1).trans ?_
 have e0 : (fun (x553 x554 : Int) (x555 : List T) => lpK c env lf 6 fi190 2 2 [] [0, 1, 5] (x190_2_0) lf (f190_0_c x553 x554 x555)) = (fun (x553 x554 : Int) (x555 : List T) => f190_0 c lf lf x553 x554 x555) := by funext x553 x554 x555; exact f190_0_eq c lf lf x553 x554 x555
 rw [e0]; rfl
def f137_t (c : Orc) (lf : Nat) (l0_0 : List T) (n1 : Int) : Option (List T) :=
 (c 190 [T.sl l0_0, T.i .i64 n1]).bind fun r558 =>
 some [T.i .i64 (asI (nth r558 0)), T.sl (asL (nth r558 1))]
def f137 (c : Orc) (lf : Nat) (l0_0 : List T) (n1 : Int) : Option (List T) := f137_t c lf l0_0 n1
theorem f137_eq (c : Orc) (lf : Nat) (l0_0 : List T) (n1 : Int) : funK c env lf 6 fi137 [.st [.sl l0_0], .i .i64 n1] = f137 c lf l0_0 n1 := by kernel_rfl
def f78_t (c : Orc) (lf : Nat) (l0_0 : List T) (n0_1 : Int) (l0_2 : List T) (b0_3 : Bool) (n1 : Int) : Option (List T) :=
 (c 137 [T.st [T.sl l0_0], T.i .i64 n1]).bind fun r559 =>
 (c 11 [T.sl l0_2, T.i .i64 (asI (nth r559 0))]).bind fun r560 =>
 some [T.i .i64 (asI (nth r560 0)), T.sl (asL (nth r559 1)), T.sl (asL (nth r560 1))]
def f78 (c : Orc) (lf : Nat) (l0_0 : List T) (n0_1 : Int) (l0_2 : List T) (b0_3 : Bool) (n1 : Int) : Option (List T) := f78_t c lf l0_0 n0_1 l0_2 b0_3 n1
theorem f78_eq (c : Orc) (lf : Nat) (l0_0 : List T) (n0_1 : Int) (l0_2 : List T) (b0_3 : Bool) (n1 : Int) : funK c env lf 6 fi78 [.st [.sl l0_0, .i .i64 n0_1, .sl l0_2, .b b0_3], .i .i64 n1] = f78 c lf l0_0 n0_1 l0_2 b0_3 n1 := by kernel_rfl
def f36_t (c : Orc) (lf : Nat) (l0_0 : List T) (n0_1 : Int) (l0_2 : List T) (b0_3 : Bool) (n0_4 n1 : Int) : Option (List T) :=
 (c 78 [T.st [T.sl l0_0, T.i .i64 n0_1, T.sl l0_2, T.b b0_3], T.i .i64 n1]).bind fun r561 =>
 some [T.i .i64 (asI (nth r561 0)), T.sl (asL (nth r561 1)), T.sl (asL (nth r561 2))]
def f36 (c : Orc) (lf : Nat) (l0_0 : List T) (n0_1 : Int) (l0_2 : List T) (b0_3 : Bool) (n0_4 n1 : Int) : Option (List T) := f36_t c lf l0_0 n0_1 l0_2 b0_3 n0_4 n1
theorem f36_eq (c : Orc) (lf : Nat) (l0_0 : List T) (n0_1 : Int) (l0_2 : List T) (b0_3 : Bool) (n0_4 n1 : Int) : funK c env lf 6 fi36 [.st [.sl l0_0, .i .i64 n0_1, .sl l0_2, .b b0_3, .i .i64 n0_4], .i .i64 n1] = f36 c lf l0_0 n0_1 l0_2 b0_3 n0_4 n1 := by kernel_rfl
def f12_t (c : Orc) (lf : Nat) (l0_0 : List T) (n0_1 : Int) (l0_2 : List T) (n0_3 n0_4 : Int) (l0_5 l0_6 : List T) (n0_7 n0_8 : Int) (l0_9 : List T) (n0_10 : Int) (l0_11 : List T) (b0_12 : Bool) (n0_13 n1 : Int) : Option (List T) :=
 (c 34 [T.st [T.sl l0_0, T.i .i64 n0_1], T.i .i64 n1]).bind fun r562 =>
 (c 35 [T.st [T.sl l0_2, T.i .i64 n0_3, T.i .i64 n0_4, T.sl l0_5, T.sl l0_6, T.i .i64 n0_7, T.i .i64 n0_8], T.i .i64 (asI (nth r562 0))]).bind fun r563 =>
 (c 36 [T.st [T.sl l0_9, T.i .i64 n0_10, T.sl l0_11, T.b b0_12, T.i .i64 n0_13], T.i .i64 (asI (nth r563 0))]).bind fun r564 =>
 some [T.i .i64 (asI (nth r564 0)), T.sl (asL (nth r562 1)), T.sl (asL (nth r563 1)), T.sl (asL (nth r563 2)), T.sl (asL (nth r563 3)), T.sl (asL (nth r564 1)), T.sl (asL (nth r564 2))]
def f12 (c : Orc) (lf : Nat) (l0_0 : List T) (n0_1 : Int) (l0_2 : List T) (n0_3 n0_4 : Int) (l0_5 l0_6 : List T) (n0_7 n0_8 : Int) (l0_9 : List T) (n0_10 : Int) (l0_11 : List T) (b0_12 : Bool) (n0_13 n1 : Int) : Option (List T) := f12_t c lf l0_0 n0_1 l0_2 n0_3 n0_4 l0_5 l0_6 n0_7 n0_8 l0_9 n0_10 l0_11 b0_12 n0_13 n1
theorem f12_eq (c : Orc) (lf : Nat) (l0_0 : List T) (n0_1 : Int) (l0_2 : List T) (n0_3 n0_4 : Int) (l0_5 l0_6 : List T) (n0_7 n0_8 : Int) (l0_9 : List T) (n0_10 : Int) (l0_11 : List T) (b0_12 : Bool) (n0_13 n1 : Int) : funK c env lf 6 fi12 [.st [.sl l0_0, .i .i64 n0_1, .sl l0_2, .i .i64 n0_3, .i .i64 n0_4, .sl l0_5, .sl l0_6, .i .i64 n0_7, .i .i64 n0_8, .sl l0_9, .i .i64 n0_10, .sl l0_11, .b b0_12, .i .i64 n0_13], .i .i64 n1] = f12 c lf l0_0 n0_1 l0_2 n0_3 n0_4 l0_5 l0_6 n0_7 n0_8 l0_9 n0_10 l0_11 b0_12 n0_13 n1 := by kernel_rfl
def f191_0_s (c : Orc) (lf : Nat) (l0 : List T) (L : Int → Int → Option (List T)) (x568 x569 : Int) : Option (List T) :=
 bif iLt x569 (l0.length : Int) then
  bif inR x569 l0.length then
  bif (asI (l0.getD x569.toNat T.u)) != (IntKind.wrap .u8 x568) then
   some [T.i .i64 0, T.i .i64 (-1)]
  else
   L (IntKind.wrap .i64 (x568 + 1)) (IntKind.wrap .i64 (x569 + 1))
  else none
 else
  some [T.i .i64 1, T.i .i64 x568]
def f191_0_c (l0 : List T) (x568 x569 : Int) : CSt := ⟨[.ro 0 false [.i .u8] l0, .i .i64 x568, .i .i64 x569], [.dead, .dead]⟩
theorem f191_0_round (c : Orc) (lf : Nat) (l0 : List T) (L : CSt → Option (List T)) (x568 x569 : Int) :
 roundK c env lf 6 fi191 2 2 [] [0, 1, 5] (x191_2_0) L (f191_0_c l0 x568 x569) = f191_0_s c lf l0 (fun x568 x569 => L (f191_0_c l0 x568 x569)) x568 x569 := by kernel_rfl
def f191_0 (c : Orc) (lf : Nat) (l0 : List T) : Nat → Int → Int → Option (List T)
 | 0 => fun _ _ => none
 | n + 1 => fun x568 x569 => f191_0_s c lf l0 (f191_0 c lf l0 n) x568 x569
theorem f191_0_eq (c : Orc) (lf : Nat) (l0 : List T) (n : Nat) (x568 x569 : Int) :
 lpK c env lf 6 fi191 2 2 [] [0, 1, 5] (x191_2_0) n (f191_0_c l0 x568 x569) = f191_0 c lf l0 n x568 x569 := by
 induction n generalizing x568 x569 with
 | zero => rfl
 | succ n ih =>
  refine (f191_0_round c lf l0 _ x568 x569).trans ?_
  have e : (fun x568 x569 => lpK c env lf 6 fi191 2 2 [] [0, 1, 5] (x191_2_0) n (f191_0_c l0 x568 x569)) = f191_0 c lf l0 n := by funext x568 x569; exact ih x568 x569
  show f191_0_s c lf l0 (fun x568 x569 => lpK c env lf 6 fi191 2 2 [] [0, 1, 5] (x191_2_0) n (f191_0_c l0 x568 x569)) x568 x569 = _
  rw [e]; rfl
def f191_t (c : Orc) (lf : Nat) (lp0 : List T → Int → Int → Option (List T)) (l0 : List T) (n1 : Int) : Option (List T) :=
 (lp0 l0 n1 0).bind fun r570 =>
 bif asI (nth r570 0) == 0 then
  some [T.i .i64 (asI (nth r570 1))]
 else
  some [T.i .i64 (asI (nth r570 1))]
def f191 (c : Orc) (lf : Nat) (l0 : List T) (n1 : Int) : Option (List T) := f191_t c lf (fun (l0 : List T) (x568 x569 : Int) => f191_0 c lf l0 lf x568 x569) l0 n1
theorem f191_raw (c : Orc) (lf : Nat) (l0 : List T) (n1 : Int) : funK c env lf 6 fi191 [.sl l0, .i .i64 n1] = f191_t c lf (fun (l0 : List T) (x568 x569 : Int) => lpK c env lf 6 fi191 2 2 [] [0, 1, 5] (x191_2_0) lf (f191_0_c l0 x568 x569)) l0 n1 := by kernel_rfl
theorem f191_eq (c : Orc) (lf : Nat) (l0 : List T) (n1 : Int) : funK c env lf 6 fi191 [.sl l0, .i .i64 n1] = f191 c lf l0 n1 := by
 refine (f191_raw c lf l0 n1).trans ?_
 have e0 : (fun (l0 : List T) (x568 x569 : Int) => lpK c env lf 6 fi191 2 2 [] [0, 1, 5] (x191_2_0) lf (f191_0_c l0 x568 x569)) = (fun (l0 : List T) (x568 x569 : Int) => f191_0 c lf l0 lf x568 x569) := by funext l0 x568 x569; exact f191_0_eq c lf l0 lf x568 x569
 rw [e0]; rfl
def f192_0_s (c : Orc) (lf : Nat) (l0 : List T) (L : Int → Int → Option (List T)) (x577 x578 : Int) : Option (List T) :=
 bif iLt x578 (l0.length : Int) then
  bif inR x578 l0.length then
  (c 133 [T.i .i64 x577]).bind fun r579 =>
  bif !((asS (T.cell (l0.getD x578.toNat T.u) 0)).toList == (asS (nth r579 0)).toList) then
   some [T.i .i64 0, T.i .i64 (-1)]
  else
   bif inR x578 l0.length then
   bif (asI (T.cell (l0.getD x578.toNat T.u) 1)) != (IntKind.wrap .i64 (x577 + 1)) then
    some [T.i .i64 0, T.i .i64 (-1)]
   else
    L (IntKind.wrap .i64 ((IntKind.wrap .i64 (x577 + 1)) + 1)) (IntKind.wrap .i64 (x578 + 1))
   else none
  else none
 else
  some [T.i .i64 1, T.i .i64 x577]
def f192_0_c (l0 : List T) (x577 x578 : Int) : CSt := ⟨[.ro 0 true [.s, .i .i64] l0, .i .i64 x577, .i .i64 x578], [.dead, .dead]⟩
theorem f192_0_round (c : Orc) (lf : Nat) (l0 : List T) (L : CSt → Option (List T)) (x577 x578 : Int) :
 roundK c env lf 6 fi192 2 2 [] [0, 1, 5] (x192_2_0) L (f192_0_c l0 x577 x578) = f192_0_s c lf l0 (fun x577 x578 => L (f192_0_c l0 x577 x578)) x577 x578 := by kernel_rfl
def f192_0 (c : Orc) (lf : Nat) (l0 : List T) : Nat → Int → Int → Option (List T)
 | 0 => fun _ _ => none
 | n + 1 => fun x577 x578 => f192_0_s c lf l0 (f192_0 c lf l0 n) x577 x578
theorem f192_0_eq (c : Orc) (lf : Nat) (l0 : List T) (n : Nat) (x577 x578 : Int) :
 lpK c env lf 6 fi192 2 2 [] [0, 1, 5] (x192_2_0) n (f192_0_c l0 x577 x578) = f192_0 c lf l0 n x577 x578 := by
 induction n generalizing x577 x578 with
 | zero => rfl
 | succ n ih =>
  refine (f192_0_round c lf l0 _ x577 x578).trans ?_
  have e : (fun x577 x578 => lpK c env lf 6 fi192 2 2 [] [0, 1, 5] (x192_2_0) n (f192_0_c l0 x577 x578)) = f192_0 c lf l0 n := by funext x577 x578; exact ih x577 x578
  show f192_0_s c lf l0 (fun x577 x578 => lpK c env lf 6 fi192 2 2 [] [0, 1, 5] (x192_2_0) n (f192_0_c l0 x577 x578)) x577 x578 = _
  rw [e]; rfl
def f192_t (c : Orc) (lf : Nat) (lp0 : List T → Int → Int → Option (List T)) (l0 : List T) (n1 : Int) : Option (List T) :=
 (lp0 l0 n1 0).bind fun r580 =>
 bif asI (nth r580 0) == 0 then
  some [T.i .i64 (asI (nth r580 1))]
 else
  some [T.i .i64 (asI (nth r580 1))]
def f192 (c : Orc) (lf : Nat) (l0 : List T) (n1 : Int) : Option (List T) := f192_t c lf (fun (l0 : List T) (x577 x578 : Int) => f192_0 c lf l0 lf x577 x578) l0 n1
theorem f192_raw (c : Orc) (lf : Nat) (l0 : List T) (n1 : Int) : funK c env lf 6 fi192 [.sl l0, .i .i64 n1] = f192_t c lf (fun (l0 : List T) (x577 x578 : Int) => lpK c env lf 6 fi192 2 2 [] [0, 1, 5] (x192_2_0) lf (f192_0_c l0 x577 x578)) l0 n1 := by kernel_rfl
theorem f192_eq (c : Orc) (lf : Nat) (l0 : List T) (n1 : Int) : funK c env lf 6 fi192 [.sl l0, .i .i64 n1] = f192 c lf l0 n1 := by
 refine (f192_raw c lf l0 n1).trans ?_
 have e0 : (fun (l0 : List T) (x577 x578 : Int) => lpK c env lf 6 fi192 2 2 [] [0, 1, 5] (x192_2_0) lf (f192_0_c l0 x577 x578)) = (fun (l0 : List T) (x577 x578 : Int) => f192_0 c lf l0 lf x577 x578) := by funext l0 x577 x578; exact f192_0_eq c lf l0 lf x577 x578
 rw [e0]; rfl
def f193_0_s (c : Orc) (lf : Nat) (l0 : List T) (L : Int → Int → Option (List T)) (x590 x591 : Int) : Option (List T) :=
 bif iLt x591 (l0.length : Int) then
  bif inR x591 l0.length then
  (c 133 [T.i .i64 x590]).bind fun r592 =>
  bif !((asS (T.cell (l0.getD x591.toNat T.u) 0)).toList == (asS (nth r592 0)).toList) then
   some [T.i .i64 0, T.i .i64 (-1)]
  else
   bif inR x591 l0.length then
   (c 133 [T.i .i64 (IntKind.wrap .i64 (x590 + 1))]).bind fun r593 =>
   bif !((asS (T.cell (l0.getD x591.toNat T.u) 1)).toList == (asS (nth r593 0)).toList) then
    some [T.i .i64 0, T.i .i64 (-1)]
   else
    L (IntKind.wrap .i64 ((IntKind.wrap .i64 (x590 + 1)) + 1)) (IntKind.wrap .i64 (x591 + 1))
   else none
  else none
 else
  some [T.i .i64 1, T.i .i64 x590]
def f193_0_c (l0 : List T) (x590 x591 : Int) : CSt := ⟨[.ro 0 true [.s, .s] l0, .i .i64 x590, .i .i64 x591], [.dead, .dead]⟩
theorem f193_0_round (c : Orc) (lf : Nat) (l0 : List T) (L : CSt → Option (List T)) (x590 x591 : Int) :
 roundK c env lf 6 fi193 2 2 [] [0, 1, 5] (x193_2_0) L (f193_0_c l0 x590 x591) = f193_0_s c lf l0 (fun x590 x591 => L (f193_0_c l0 x590 x591)) x590 x591 := by kernel_rfl
def f193_0 (c : Orc) (lf : Nat) (l0 : List T) : Nat → Int → Int → Option (List T)
 | 0 => fun _ _ => none
 | n + 1 => fun x590 x591 => f193_0_s c lf l0 (f193_0 c lf l0 n) x590 x591
theorem f193_0_eq (c : Orc) (lf : Nat) (l0 : List T) (n : Nat) (x590 x591 : Int) :
 lpK c env lf 6 fi193 2 2 [] [0, 1, 5] (x193_2_0) n (f193_0_c l0 x590 x591) = f193_0 c lf l0 n x590 x591 := by
 induction n generalizing x590 x591 with
 | zero => rfl
 | succ n ih =>
  refine (f193_0_round c lf l0 _ x590 x591).trans ?_
  have e : (fun x590 x591 => lpK c env lf 6 fi193 2 2 [] [0, 1, 5] (x193_2_0) n (f193_0_c l0 x590 x591)) = f193_0 c lf l0 n := by funext x590 x591; exact ih x590 x591
  show f193_0_s c lf l0 (fun x590 x591 => lpK c env lf 6 fi193 2 2 [] [0, 1, 5] (x193_2_0) n (f193_0_c l0 x590 x591)) x590 x591 = _
  rw [e]; rfl
def f193_t (c : Orc) (lf : Nat) (lp0 : List T → Int → Int → Option (List T)) (l0 : List T) (n1 : Int) : Option (List T) :=
 (lp0 l0 n1 0).bind fun r594 =>
 bif asI (nth r594 0) == 0 then
  some [T.i .i64 (asI (nth r594 1))]
 else
  some [T.i .i64 (asI (nth r594 1))]
def f193 (c : Orc) (lf : Nat) (l0 : List T) (n1 : Int) : Option (List T) := f193_t c lf (fun (l0 : List T) (x590 x591 : Int) => f193_0 c lf l0 lf x590 x591) l0 n1
theorem f193_raw (c : Orc) (lf : Nat) (l0 : List T) (n1 : Int) : funK c env lf 6 fi193 [.sl l0, .i .i64 n1] = f193_t c lf (fun (l0 : List T) (x590 x591 : Int) => lpK c env lf 6 fi193 2 2 [] [0, 1, 5] (x193_2_0) lf (f193_0_c l0 x590 x591)) l0 n1 := by kernel_rfl
theorem f193_eq (c : Orc) (lf : Nat) (l0 : List T) (n1 : Int) : funK c env lf 6 fi193 [.sl l0, .i .i64 n1] = f193 c lf l0 n1 := by
 refine (f193_raw c lf l0 n1).trans ?_
 have e0 : (fun (l0 : List T) (x590 x591 : Int) => lpK c env lf 6 fi193 2 2 [] [0, 1, 5] (x193_2_0) lf (f193_0_c l0 x590 x591)) = (fun (l0 : List T) (x590 x591 : Int) => f193_0 c lf l0 lf x590 x591) := by funext l0 x590 x591; exact f193_0_eq c lf l0 lf x590 x591
 rw [e0]; rfl
def f138_0_s (c : Orc) (lf : Nat) (l0 : List T) (L : Int → Int → Option (List T)) (x607 x608 : Int) : Option (List T) :=
 bif iLt x608 (l0.length : Int) then
  bif inR x608 l0.length then
  bif (asI (T.cell (l0.getD x608.toNat T.u) 0)) != x607 then
   some [T.i .i64 0, T.i .i64 (-1)]
  else
   bif inR x608 l0.length then
   bif (asI (T.cell (l0.getD x608.toNat T.u) 1)) != (IntKind.wrap .i64 (x607 + 1)) then
    some [T.i .i64 0, T.i .i64 (-1)]
   else
    bif inR x608 l0.length then
    bif (asI (T.cell (l0.getD x608.toNat T.u) 2)) != (IntKind.wrap .i64 ((IntKind.wrap .i64 (x607 + 1)) + 1)) then
     some [T.i .i64 0, T.i .i64 (-1)]
    else
     bif inR x608 l0.length then
     (c 191 [T.sl (asL (T.cell (l0.getD x608.toNat T.u) 3)), T.i .i64 (IntKind.wrap .i64 ((IntKind.wrap .i64 ((IntKind.wrap .i64 (x607 + 1)) + 1)) + 1))]).bind fun r609 =>
     bif iLt (asI (nth r609 0)) 0 then
      some [T.i .i64 0, T.i .i64 (-1)]
     else
      bif inR x608 l0.length then
      (c 192 [T.sl (asL (T.cell (l0.getD x608.toNat T.u) 4)), T.i .i64 (asI (nth r609 0))]).bind fun r610 =>
      bif iLt (asI (nth r610 0)) 0 then
       some [T.i .i64 0, T.i .i64 (-1)]
      else
       bif inR x608 l0.length then
       (c 193 [T.sl (asL (T.cell (l0.getD x608.toNat T.u) 5)), T.i .i64 (asI (nth r610 0))]).bind fun r611 =>
       bif iLt (asI (nth r611 0)) 0 then
        some [T.i .i64 0, T.i .i64 (-1)]
       else
        L (asI (nth r611 0)) (IntKind.wrap .i64 (x608 + 1))
       else none
      else none
     else none
    else none
   else none
  else none
 else
  some [T.i .i64 1, T.i .i64 x607]
def f138_0_c (l0 : List T) (x607 x608 : Int) : CSt := ⟨[.ro 0 true [.i .i64, .i .i64, .i .i64, .sl false [.i .u8], .sl true [.s, .i .i64], .sl true [.s, .s]] l0, .i .i64 x607, .i .i64 x608], [.dead, .dead]⟩
theorem f138_0_round (c : Orc) (lf : Nat) (l0 : List T) (L : CSt → Option (List T)) (x607 x608 : Int) :
 roundK c env lf 6 fi138 2 2 [] [0, 1, 5] (x138_2_0) L (f138_0_c l0 x607 x608) = f138_0_s c lf l0 (fun x607 x608 => L (f138_0_c l0 x607 x608)) x607 x608 := by kernel_rfl
def f138_0 (c : Orc) (lf : Nat) (l0 : List T) : Nat → Int → Int → Option (List T)
 | 0 => fun _ _ => none
 | n + 1 => fun x607 x608 => f138_0_s c lf l0 (f138_0 c lf l0 n) x607 x608
theorem f138_0_eq (c : Orc) (lf : Nat) (l0 : List T) (n : Nat) (x607 x608 : Int) :
 lpK c env lf 6 fi138 2 2 [] [0, 1, 5] (x138_2_0) n (f138_0_c l0 x607 x608) = f138_0 c lf l0 n x607 x608 := by
 induction n generalizing x607 x608 with
 | zero => rfl
 | succ n ih =>
  refine (f138_0_round c lf l0 _ x607 x608).trans ?_
  have e : (fun x607 x608 => lpK c env lf 6 fi138 2 2 [] [0, 1, 5] (x138_2_0) n (f138_0_c l0 x607 x608)) = f138_0 c lf l0 n := by funext x607 x608; exact ih x607 x608
  show f138_0_s c lf l0 (fun x607 x608 => lpK c env lf 6 fi138 2 2 [] [0, 1, 5] (x138_2_0) n (f138_0_c l0 x607 x608)) x607 x608 = _
  rw [e]; rfl
def f138_t (c : Orc) (lf : Nat) (lp0 : List T → Int → Int → Option (List T)) (l0 : List T) (n1 : Int) : Option (List T) :=
 (lp0 l0 n1 0).bind fun r612 =>
 bif asI (nth r612 0) == 0 then
  some [T.i .i64 (asI (nth r612 1))]
 else
  some [T.i .i64 (asI (nth r612 1))]
def f138 (c : Orc) (lf : Nat) (l0 : List T) (n1 : Int) : Option (List T) := f138_t c lf (fun (l0 : List T) (x607 x608 : Int) => f138_0 c lf l0 lf x607 x608) l0 n1
theorem f138_raw (c : Orc) (lf : Nat) (l0 : List T) (n1 : Int) : funK c env lf 6 fi138 [.sl l0, .i .i64 n1] = f138_t c lf (fun (l0 : List T) (x607 x608 : Int) => lpK c env lf 6 fi138 2 2 [] [0, 1, 5] (x138_2_0) lf (f138_0_c l0 x607 x608)) l0 n1 := by kernel_rfl
theorem f138_eq (c : Orc) (lf : Nat) (l0 : List T) (n1 : Int) : funK c env lf 6 fi138 [.sl l0, .i .i64 n1] = f138 c lf l0 n1 := by
 refine (f138_raw c lf l0 n1).trans ?_
 have e0 : (fun (l0 : List T) (x607 x608 : Int) => lpK c env lf 6 fi138 2 2 [] [0, 1, 5] (x138_2_0) lf (f138_0_c l0 x607 x608)) = (fun (l0 : List T) (x607 x608 : Int) => f138_0 c lf l0 lf x607 x608) := by funext l0 x607 x608; exact f138_0_eq c lf l0 lf x607 x608
 rw [e0]; rfl
def f79_0_s (c : Orc) (lf : Nat) (l0 : List T) (L : Int → Int → Option (List T)) (x622 x623 : Int) : Option (List T) :=
 bif iLt x623 (l0.length : Int) then
  bif inR x623 l0.length then
  bif (asI (T.cell (l0.getD x623.toNat T.u) 0)) != x622 then
   some [T.i .i64 0, T.i .i64 (-1)]
  else
   bif inR x623 l0.length then
   (c 133 [T.i .i64 (IntKind.wrap .i64 (x622 + 1))]).bind fun r624 =>
   bif !((asS (T.cell (l0.getD x623.toNat T.u) 1)).toList == (asS (nth r624 0)).toList) then
    some [T.i .i64 0, T.i .i64 (-1)]
   else
    bif inR x623 l0.length then
    bif !((asB (T.cell (l0.getD x623.toNat T.u) 2)) == (((IntKind.wrap .i64 ((IntKind.wrap .i64 (x622 + 1)) + 1)).tmod 3) == 0)) then
     some [T.i .i64 0, T.i .i64 (-1)]
    else
     bif inR x623 l0.length then
     bif (asI (T.cell (l0.getD x623.toNat T.u) 3)) != (IntKind.wrap .i64 ((IntKind.wrap .i64 ((IntKind.wrap .i64 (x622 + 1)) + 1)) + 1)) then
      some [T.i .i64 0, T.i .i64 (-1)]
     else
      bif inR x623 l0.length then
      (c 138 [T.sl (asL (T.cell (l0.getD x623.toNat T.u) 4)), T.i .i64 (IntKind.wrap .i64 ((IntKind.wrap .i64 ((IntKind.wrap .i64 ((IntKind.wrap .i64 (x622 + 1)) + 1)) + 1)) + 1))]).bind fun r625 =>
      bif iLt (asI (nth r625 0)) 0 then
       some [T.i .i64 0, T.i .i64 (-1)]
      else
       bif inR x623 l0.length then
       bif (asI (T.cell (l0.getD x623.toNat T.u) 5)) != (asI (nth r625 0)) then
        some [T.i .i64 0, T.i .i64 (-1)]
       else
        L (IntKind.wrap .i64 ((asI (nth r625 0)) + 1)) (IntKind.wrap .i64 (x623 + 1))
       else none
      else none
     else none
    else none
   else none
  else none
 else
  some [T.i .i64 1, T.i .i64 x622]
def f79_0_c (l0 : List T) (x622 x623 : Int) : CSt := ⟨[.ro 0 true [.i .i64, .s, .b, .i .i64, .sl true [.i .i64, .i .i64, .i .i64, .sl false [.i .u8], .sl true [.s, .i .i64], .sl true [.s, .s]], .i .i64] l0, .i .i64 x622, .i .i64 x623], [.dead, .dead]⟩
theorem f79_0_round (c : Orc) (lf : Nat) (l0 : List T) (L : CSt → Option (List T)) (x622 x623 : Int) :
 roundK c env lf 6 fi79 2 2 [] [0, 1, 5] (x79_2_0) L (f79_0_c l0 x622 x623) = f79_0_s c lf l0 (fun x622 x623 => L (f79_0_c l0 x622 x623)) x622 x623 := by kernel_rfl
def f79_0 (c : Orc) (lf : Nat) (l0 : List T) : Nat → Int → Int → Option (List T)
 | 0 => fun _ _ => none
 | n + 1 => fun x622 x623 => f79_0_s c lf l0 (f79_0 c lf l0 n) x622 x623
theorem f79_0_eq (c : Orc) (lf : Nat) (l0 : List T) (n : Nat) (x622 x623 : Int) :
 lpK c env lf 6 fi79 2 2 [] [0, 1, 5] (x79_2_0) n (f79_0_c l0 x622 x623) = f79_0 c lf l0 n x622 x623 := by
 induction n generalizing x622 x623 with
 | zero => rfl
 | succ n ih =>
  refine (f79_0_round c lf l0 _ x622 x623).trans ?_
  have e : (fun x622 x623 => lpK c env lf 6 fi79 2 2 [] [0, 1, 5] (x79_2_0) n (f79_0_c l0 x622 x623)) = f79_0 c lf l0 n := by funext x622 x623; exact ih x622 x623
  show f79_0_s c lf l0 (fun x622 x623 => lpK c env lf 6 fi79 2 2 [] [0, 1, 5] (x79_2_0) n (f79_0_c l0 x622 x623)) x622 x623 = _
  rw [e]; rfl
def f79_t (c : Orc) (lf : Nat) (lp0 : List T → Int → Int → Option (List T)) (l0 : List T) (n1 : Int) : Option (List T) :=
 (lp0 l0 n1 0).bind fun r626 =>
 bif asI (nth r626 0) == 0 then
  some [T.i .i64 (asI (nth r626 1))]
 else
  some [T.i .i64 (asI (nth r626 1))]
def f79 (c : Orc) (lf : Nat) (l0 : List T) (n1 : Int) : Option (List T) := f79_t c lf (fun (l0 : List T) (x622 x623 : Int) => f79_0 c lf l0 lf x622 x623) l0 n1
theorem f79_raw (c : Orc) (lf : Nat) (l0 : List T) (n1 : Int) : funK c env lf 6 fi79 [.sl l0, .i .i64 n1] = f79_t c lf (fun (l0 : List T) (x622 x623 : Int) => lpK c env lf 6 fi79 2 2 [] [0, 1, 5] (x79_2_0) lf (f79_0_c l0 x622 x623)) l0 n1 := by kernel_rfl
theorem f79_eq (c : Orc) (lf : Nat) (l0 : List T) (n1 : Int) : funK c env lf 6 fi79 [.sl l0, .i .i64 n1] = f79 c lf l0 n1 := by
 refine (f79_raw c lf l0 n1).trans ?_
 have e0 : (fun (l0 : List T) (x622 x623 : Int) => lpK c env lf 6 fi79 2 2 [] [0, 1, 5] (x79_2_0) lf (f79_0_c l0 x622 x623)) = (fun (l0 : List T) (x622 x623 : Int) => f79_0 c lf l0 lf x622 x623) := by funext l0 x622 x623; exact f79_0_eq c lf l0 lf x622 x623
 rw [e0]; rfl
def f37_t (c : Orc) (lf : Nat) (l0_0 : List T) (n0_1 n1 : Int) : Option (List T) :=
 (c 79 [T.sl l0_0, T.i .i64 n1]).bind fun r627 =>
 bif iLt (asI (nth r627 0)) 0 then
  some [T.i .i64 (-1)]
 else
  some [T.i .i64 (asI (nth r627 0))]
def f37 (c : Orc) (lf : Nat) (l0_0 : List T) (n0_1 n1 : Int) : Option (List T) := f37_t c lf l0_0 n0_1 n1
theorem f37_eq (c : Orc) (lf : Nat) (l0_0 : List T) (n0_1 n1 : Int) : funK c env lf 6 fi37 [.st [.sl l0_0, .i .i64 n0_1], .i .i64 n1] = f37 c lf l0_0 n0_1 n1 := by kernel_rfl
def f139_0_s (c : Orc) (lf : Nat) (l0 : List T) (L : Int → Int → Option (List T)) (x634 x635 : Int) : Option (List T) :=
 bif iLt x635 (l0.length : Int) then
  bif inR x635 l0.length then
  bif (asI (T.cell (l0.getD x635.toNat T.u) 0)) != x634 then
   some [T.i .i64 0, T.i .i64 (-1)]
  else
   bif inR x635 l0.length then
   (c 133 [T.i .i64 (IntKind.wrap .i64 (x634 + 1))]).bind fun r636 =>
   bif !((asS (T.cell (l0.getD x635.toNat T.u) 1)).toList == (asS (nth r636 0)).toList) then
    some [T.i .i64 0, T.i .i64 (-1)]
   else
    bif inR x635 l0.length then
    bif !((asB (T.cell (l0.getD x635.toNat T.u) 2)) == (((IntKind.wrap .i64 ((IntKind.wrap .i64 (x634 + 1)) + 1)).tmod 3) == 0)) then
     some [T.i .i64 0, T.i .i64 (-1)]
    else
     bif inR x635 l0.length then
     bif (asI (T.cell (l0.getD x635.toNat T.u) 3)) != (IntKind.wrap .i64 ((IntKind.wrap .i64 ((IntKind.wrap .i64 (x634 + 1)) + 1)) + 1)) then
      some [T.i .i64 0, T.i .i64 (-1)]
     else
      bif inR x635 l0.length then
      bif (asI (T.cell (l0.getD x635.toNat T.u) 4)) != (IntKind.wrap .i64 ((IntKind.wrap .i64 ((IntKind.wrap .i64 ((IntKind.wrap .i64 (x634 + 1)) + 1)) + 1)) + 1)) then
       some [T.i .i64 0, T.i .i64 (-1)]
      else
       L (IntKind.wrap .i64 ((IntKind.wrap .i64 ((IntKind.wrap .i64 ((IntKind.wrap .i64 ((IntKind.wrap .i64 (x634 + 1)) + 1)) + 1)) + 1)) + 1)) (IntKind.wrap .i64 (x635 + 1))
      else none
     else none
    else none
   else none
  else none
 else
  some [T.i .i64 1, T.i .i64 x634]
def f139_0_c (l0 : List T) (x634 x635 : Int) : CSt := ⟨[.ro 0 true [.i .i64, .s, .b, .i .i64, .i .i64] l0, .i .i64 x634, .i .i64 x635], [.dead, .dead]⟩
theorem f139_0_round (c : Orc) (lf : Nat) (l0 : List T) (L : CSt → Option (List T)) (x634 x635 : Int) :
 roundK c env lf 6 fi139 2 2 [] [0, 1, 5] (x139_2_0) L (f139_0_c l0 x634 x635) = f139_0_s c lf l0 (fun x634 x635 => L (f139_0_c l0 x634 x635)) x634 x635 := by kernel_rfl
def f139_0 (c : Orc) (lf : Nat) (l0 : List T) : Nat → Int → Int → Option (List T)
 | 0 => fun _ _ => none
 | n + 1 => fun x634 x635 => f139_0_s c lf l0 (f139_0 c lf l0 n) x634 x635
theorem f139_0_eq (c : Orc) (lf : Nat) (l0 : List T) (n : Nat) (x634 x635 : Int) :
 lpK c env lf 6 fi139 2 2 [] [0, 1, 5] (x139_2_0) n (f139_0_c l0 x634 x635) = f139_0 c lf l0 n x634 x635 := by
 induction n generalizing x634 x635 with
 | zero => rfl
 | succ n ih =>
  refine (f139_0_round c lf l0 _ x634 x635).trans ?_
  have e : (fun x634 x635 => lpK c env lf 6 fi139 2 2 [] [0, 1, 5] (x139_2_0) n (f139_0_c l0 x634 x635)) = f139_0 c lf l0 n := by funext x634 x635; exact ih x634 x635
  show f139_0_s c lf l0 (fun x634 x635 => lpK c env lf 6 fi139 2 2 [] [0, 1, 5] (x139_2_0) n (f139_0_c l0 x634 x635)) x634 x635 = _
  rw [e]; rfl
def f139_t (c : Orc) (lf : Nat) (lp0 : List T → Int → Int → Option (List T)) (l0 : List T) (n1 : Int) : Option (List T) :=
 (lp0 l0 n1 0).bind fun r637 =>
 bif asI (nth r637 0) == 0 then
  some [T.i .i64 (asI (nth r637 1))]
 else
  some [T.i .i64 (asI (nth r637 1))]
def f139 (c : Orc) (lf : Nat) (l0 : List T) (n1 : Int) : Option (List T) := f139_t c lf (fun (l0 : List T) (x634 x635 : Int) => f139_0 c lf l0 lf x634 x635) l0 n1
theorem f139_raw (c : Orc) (lf : Nat) (l0 : List T) (n1 : Int) : funK c env lf 6 fi139 [.sl l0, .i .i64 n1] = f139_t c lf (fun (l0 : List T) (x634 x635 : Int) => lpK c env lf 6 fi139 2 2 [] [0, 1, 5] (x139_2_0) lf (f139_0_c l0 x634 x635)) l0 n1 := by kernel_rfl
theorem f139_eq (c : Orc) (lf : Nat) (l0 : List T) (n1 : Int) : funK c env lf 6 fi139 [.sl l0, .i .i64 n1] = f139 c lf l0 n1 := by
 refine (f139_raw c lf l0 n1).trans ?_
 have e0 : (fun (l0 : List T) (x634 x635 : Int) => lpK c env lf 6 fi139 2 2 [] [0, 1, 5] (x139_2_0) lf (f139_0_c l0 x634 x635)) = (fun (l0 : List T) (x634 x635 : Int) => f139_0 c lf l0 lf x634 x635) := by funext l0 x634 x635; exact f139_0_eq c lf l0 lf x634 x635
 rw [e0]; rfl
def f80_t (c : Orc) (lf : Nat) (n0_0 : Int) (l0_1 : List T) (n1 : Int) : Option (List T) :=
 (c 139 [T.sl l0_1, T.i .i64 n1]).bind fun r638 =>
 bif iLt (asI (nth r638 0)) 0 then
  some [T.i .i64 (-1)]
 else
  some [T.i .i64 (asI (nth r638 0))]
def f80 (c : Orc) (lf : Nat) (n0_0 : Int) (l0_1 : List T) (n1 : Int) : Option (List T) := f80_t c lf n0_0 l0_1 n1
theorem f80_eq (c : Orc) (lf : Nat) (n0_0 : Int) (l0_1 : List T) (n1 : Int) : funK c env lf 6 fi80 [.st [.i .i64 n0_0, .sl l0_1], .i .i64 n1] = f80 c lf n0_0 l0_1 n1 := by kernel_rfl
def f140_0_s (c : Orc) (lf : Nat) (l0 : List T) (L : Int → Int → Option (List T)) (x642 x643 : Int) : Option (List T) :=
 bif iLt x643 (l0.length : Int) then
  bif inR x643 l0.length then
  bif (asI (T.cell (l0.getD x643.toNat T.u) 0)) != x642 then
   some [T.i .i64 0, T.i .i64 (-1)]
  else
   bif inR x643 l0.length then
   bif (asI (T.cell (l0.getD x643.toNat T.u) 1)) != (IntKind.wrap .i64 (x642 + 1)) then
    some [T.i .i64 0, T.i .i64 (-1)]
   else
    L (IntKind.wrap .i64 ((IntKind.wrap .i64 (x642 + 1)) + 1)) (IntKind.wrap .i64 (x643 + 1))
   else none
  else none
 else
  some [T.i .i64 1, T.i .i64 x642]
def f140_0_c (l0 : List T) (x642 x643 : Int) : CSt := ⟨[.ro 0 true [.i .i64, .i .i64] l0, .i .i64 x642, .i .i64 x643], [.dead, .dead]⟩
theorem f140_0_round (c : Orc) (lf : Nat) (l0 : List T) (L : CSt → Option (List T)) (x642 x643 : Int) :
 roundK c env lf 6 fi140 2 2 [] [0, 1, 5] (x140_2_0) L (f140_0_c l0 x642 x643) = f140_0_s c lf l0 (fun x642 x643 => L (f140_0_c l0 x642 x643)) x642 x643 := by kernel_rfl
def f140_0 (c : Orc) (lf : Nat) (l0 : List T) : Nat → Int → Int → Option (List T)
 | 0 => fun _ _ => none
 | n + 1 => fun x642 x643 => f140_0_s c lf l0 (f140_0 c lf l0 n) x642 x643
theorem f140_0_eq (c : Orc) (lf : Nat) (l0 : List T) (n : Nat) (x642 x643 : Int) :
 lpK c env lf 6 fi140 2 2 [] [0, 1, 5] (x140_2_0) n (f140_0_c l0 x642 x643) = f140_0 c lf l0 n x642 x643 := by
 induction n generalizing x642 x643 with
 | zero => rfl
 | succ n ih =>
  refine (f140_0_round c lf l0 _ x642 x643).trans ?_
  have e : (fun x642 x643 => lpK c env lf 6 fi140 2 2 [] [0, 1, 5] (x140_2_0) n (f140_0_c l0 x642 x643)) = f140_0 c lf l0 n := by funext x642 x643; exact ih x642 x643
  show f140_0_s c lf l0 (fun x642 x643 => lpK c env lf 6 fi140 2 2 [] [0, 1, 5] (x140_2_0) n (f140_0_c l0 x642 x643)) x642 x643 = _
  rw [e]; rfl
def f140_t (c : Orc) (lf : Nat) (lp0 : List T → Int → Int → Option (List T)) (l0 : List T) (n1 : Int) : Option (List T) :=
 (lp0 l0 n1 0).bind fun r644 =>
 bif asI (nth r644 0) == 0 then
  some [T.i .i64 (asI (nth r644 1))]
 else
  some [T.i .i64 (asI (nth r644 1))]
def f140 (c : Orc) (lf : Nat) (l0 : List T) (n1 : Int) : Option (List T) := f140_t c lf (fun (l0 : List T) (x642 x643 : Int) => f140_0 c lf l0 lf x642 x643) l0 n1
theorem f140_raw (c : Orc) (lf : Nat) (l0 : List T) (n1 : Int) : funK c env lf 6 fi140 [.sl l0, .i .i64 n1] = f140_t c lf (fun (l0 : List T) (x642 x643 : Int) => lpK c env lf 6 fi140 2 2 [] [0, 1, 5] (x140_2_0) lf (f140_0_c l0 x642 x643)) l0 n1 := by kernel_rfl
theorem f140_eq (c : Orc) (lf : Nat) (l0 : List T) (n1 : Int) : funK c env lf 6 fi140 [.sl l0, .i .i64 n1] = f140 c lf l0 n1 := by
 refine (f140_raw c lf l0 n1).trans ?_
 have e0 : (fun (l0 : List T) (x642 x643 : Int) => lpK c env lf 6 fi140 2 2 [] [0, 1, 5] (x140_2_0) lf (f140_0_c l0 x642 x643)) = (fun (l0 : List T) (x642 x643 : Int) => f140_0 c lf l0 lf x642 x643) := by funext l0 x642 x643; exact f140_0_eq c lf l0 lf x642 x643
 rw [e0]; rfl
def f81_0_s (c : Orc) (lf : Nat) (l0 : List T) (L : Int → Int → Option (List T)) (x651 x652 : Int) : Option (List T) :=
 bif iLt x652 (l0.length : Int) then
  bif inR x652 l0.length then
  bif (asI (T.cell (l0.getD x652.toNat T.u) 0)) != x651 then
   some [T.i .i64 0, T.i .i64 (-1)]
  else
   bif inR x652 l0.length then
   (c 140 [T.sl (asL (T.cell (l0.getD x652.toNat T.u) 1)), T.i .i64 (IntKind.wrap .i64 (x651 + 1))]).bind fun r653 =>
   bif iLt (asI (nth r653 0)) 0 then
    some [T.i .i64 0, T.i .i64 (-1)]
   else
    L (asI (nth r653 0)) (IntKind.wrap .i64 (x652 + 1))
   else none
  else none
 else
  some [T.i .i64 1, T.i .i64 x651]
def f81_0_c (l0 : List T) (x651 x652 : Int) : CSt := ⟨[.ro 0 true [.i .i64, .sl true [.i .i64, .i .i64]] l0, .i .i64 x651, .i .i64 x652], [.dead, .dead]⟩
theorem f81_0_round (c : Orc) (lf : Nat) (l0 : List T) (L : CSt → Option (List T)) (x651 x652 : Int) :
 roundK c env lf 6 fi81 2 2 [] [0, 1, 5] (x81_2_0) L (f81_0_c l0 x651 x652) = f81_0_s c lf l0 (fun x651 x652 => L (f81_0_c l0 x651 x652)) x651 x652 := by kernel_rfl
def f81_0 (c : Orc) (lf : Nat) (l0 : List T) : Nat → Int → Int → Option (List T)
 | 0 => fun _ _ => none
 | n + 1 => fun x651 x652 => f81_0_s c lf l0 (f81_0 c lf l0 n) x651 x652
theorem f81_0_eq (c : Orc) (lf : Nat) (l0 : List T) (n : Nat) (x651 x652 : Int) :
 lpK c env lf 6 fi81 2 2 [] [0, 1, 5] (x81_2_0) n (f81_0_c l0 x651 x652) = f81_0 c lf l0 n x651 x652 := by
 induction n generalizing x651 x652 with
 | zero => rfl
 | succ n ih =>
  refine (f81_0_round c lf l0 _ x651 x652).trans ?_
  have e : (fun x651 x652 => lpK c env lf 6 fi81 2 2 [] [0, 1, 5] (x81_2_0) n (f81_0_c l0 x651 x652)) = f81_0 c lf l0 n := by funext x651 x652; exact ih x651 x652
  show f81_0_s c lf l0 (fun x651 x652 => lpK c env lf 6 fi81 2 2 [] [0, 1, 5] (x81_2_0) n (f81_0_c l0 x651 x652)) x651 x652 = _
  rw [e]; rfl
def f81_t (c : Orc) (lf : Nat) (lp0 : List T → Int → Int → Option (List T)) (l0 : List T) (n1 : Int) : Option (List T) :=
 (lp0 l0 n1 0).bind fun r654 =>
 bif asI (nth r654 0) == 0 then
  some [T.i .i64 (asI (nth r654 1))]
 else
  some [T.i .i64 (asI (nth r654 1))]
def f81 (c : Orc) (lf : Nat) (l0 : List T) (n1 : Int) : Option (List T) := f81_t c lf (fun (l0 : List T) (x651 x652 : Int) => f81_0 c lf l0 lf x651 x652) l0 n1
theorem f81_raw (c : Orc) (lf : Nat) (l0 : List T) (n1 : Int) : funK c env lf 6 fi81 [.sl l0, .i .i64 n1] = f81_t c lf (fun (l0 : List T) (x651 x652 : Int) => lpK c env lf 6 fi81 2 2 [] [0, 1, 5] (x81_2_0) lf (f81_0_c l0 x651 x652)) l0 n1 := by kernel_rfl
theorem f81_eq (c : Orc) (lf : Nat) (l0 : List T) (n1 : Int) : funK c env lf 6 fi81 [.sl l0, .i .i64 n1] = f81 c lf l0 n1 := by
 refine (f81_raw c lf l0 n1).trans ?_
 have e0 : (fun (l0 : List T) (x651 x652 : Int) => lpK c env lf 6 fi81 2 2 [] [0, 1, 5] (x81_2_0) lf (f81_0_c l0 x651 x652)) = (fun (l0 : List T) (x651 x652 : Int) => f81_0 c lf l0 lf x651 x652) := by funext l0 x651 x652; exact f81_0_eq c lf l0 lf x651 x652
 rw [e0]; rfl
def f38_t (c : Orc) (lf : Nat) (l0_0 : List T) (n0_1 n0_2 : Int) (l0_3 l0_4 : List T) (n0_5 n0_6 n1 : Int) : Option (List T) :=
 (c 37 [T.st [T.sl l0_0, T.i .i64 n0_1], T.i .i64 n1]).bind fun r655 =>
 bif iLt (asI (nth r655 0)) 0 then
  some [T.i .i64 (-1)]
 else
  (c 80 [T.st [T.i .i64 n0_2, T.sl l0_3], T.i .i64 (asI (nth r655 0))]).bind fun r656 =>
  bif iLt (asI (nth r656 0)) 0 then
   some [T.i .i64 (-1)]
  else
   (c 81 [T.sl l0_4, T.i .i64 (asI (nth r656 0))]).bind fun r657 =>
   bif iLt (asI (nth r657 0)) 0 then
    some [T.i .i64 (-1)]
   else
    some [T.i .i64 (asI (nth r657 0))]
def f38 (c : Orc) (lf : Nat) (l0_0 : List T) (n0_1 n0_2 : Int) (l0_3 l0_4 : List T) (n0_5 n0_6 n1 : Int) : Option (List T) := f38_t c lf l0_0 n0_1 n0_2 l0_3 l0_4 n0_5 n0_6 n1
theorem f38_eq (c : Orc) (lf : Nat) (l0_0 : List T) (n0_1 n0_2 : Int) (l0_3 l0_4 : List T) (n0_5 n0_6 n1 : Int) : funK c env lf 6 fi38 [.st [.sl l0_0, .i .i64 n0_1, .i .i64 n0_2, .sl l0_3, .sl l0_4, .i .i64 n0_5, .i .i64 n0_6], .i .i64 n1] = f38 c lf l0_0 n0_1 n0_2 l0_3 l0_4 n0_5 n0_6 n1 := by kernel_rfl
def f219_0_s (c : Orc) (lf : Nat) (l0 : List T) (L : Int → Int → Option (List T)) (x664 x665 : Int) : Option (List T) :=
 bif iLt x665 (l0.length : Int) then
  bif inR x665 l0.length then
  bif !((asB (T.cell (l0.getD x665.toNat T.u) 0)) == ((x664.tmod 3) == 0)) then
   some [T.i .i64 0, T.i .i64 (-1)]
  else
   bif inR x665 l0.length then
   (c 191 [T.sl (asL (T.cell (l0.getD x665.toNat T.u) 1)), T.i .i64 (IntKind.wrap .i64 (x664 + 1))]).bind fun r666 =>
   bif iLt (asI (nth r666 0)) 0 then
    some [T.i .i64 0, T.i .i64 (-1)]
   else
    L (asI (nth r666 0)) (IntKind.wrap .i64 (x665 + 1))
   else none
  else none
 else
  some [T.i .i64 1, T.i .i64 x664]
def f219_0_c (l0 : List T) (x664 x665 : Int) : CSt := ⟨[.ro 0 true [.b, .sl false [.i .u8]] l0, .i .i64 x664, .i .i64 x665], [.dead, .dead]⟩
theorem f219_0_round (c : Orc) (lf : Nat) (l0 : List T) (L : CSt → Option (List T)) (x664 x665 : Int) :
 roundK c env lf 6 fi219 2 2 [] [0, 1, 5] (x219_2_0) L (f219_0_c l0 x664 x665) = f219_0_s c lf l0 (fun x664 x665 => L (f219_0_c l0 x664 x665)) x664 x665 := by kernel_rfl
def f219_0 (c : Orc) (lf : Nat) (l0 : List T) : Nat → Int → Int → Option (List T)
 | 0 => fun _ _ => none
 | n + 1 => fun x664 x665 => f219_0_s c lf l0 (f219_0 c lf l0 n) x664 x665
theorem f219_0_eq (c : Orc) (lf : Nat) (l0 : List T) (n : Nat) (x664 x665 : Int) :
 lpK c env lf 6 fi219 2 2 [] [0, 1, 5] (x219_2_0) n (f219_0_c l0 x664 x665) = f219_0 c lf l0 n x664 x665 := by
 induction n generalizing x664 x665 with
 | zero => rfl
 | succ n ih =>
  refine (f219_0_round c lf l0 _ x664 x665).trans ?_
  have e : (fun x664 x665 => lpK c env lf 6 fi219 2 2 [] [0, 1, 5] (x219_2_0) n (f219_0_c l0 x664 x665)) = f219_0 c lf l0 n := by funext x664 x665; exact ih x664 x665
  show f219_0_s c lf l0 (fun x664 x665 => lpK c env lf 6 fi219 2 2 [] [0, 1, 5] (x219_2_0) n (f219_0_c l0 x664 x665)) x664 x665 = _
  rw [e]; rfl
def f219_t (c : Orc) (lf : Nat) (lp0 : List T → Int → Int → Option (List T)) (l0 : List T) (n1 : Int) : Option (List T) :=
 (lp0 l0 n1 0).bind fun r667 =>
 bif asI (nth r667 0) == 0 then
  some [T.i .i64 (asI (nth r667 1))]
 else
  some [T.i .i64 (asI (nth r667 1))]
def f219 (c : Orc) (lf : Nat) (l0 : List T) (n1 : Int) : Option (List T) := f219_t c lf (fun (l0 : List T) (x664 x665 : Int) => f219_0 c lf l0 lf x664 x665) l0 n1
theorem f219_raw (c : Orc) (lf : Nat) (l0 : List T) (n1 : Int) : funK c env lf 6 fi219 [.sl l0, .i .i64 n1] = f219_t c lf (fun (l0 : List T) (x664 x665 : Int) => lpK c env lf 6 fi219 2 2 [] [0, 1, 5] (x219_2_0) lf (f219_0_c l0 x664 x665)) l0 n1 := by kernel_rfl
theorem f219_eq (c : Orc) (lf : Nat) (l0 : List T) (n1 : Int) : funK c env lf 6 fi219 [.sl l0, .i .i64 n1] = f219 c lf l0 n1 := by
 refine (f219_raw c lf l0 n1).trans ?_
 have e0 : (fun (l0 : List T) (x664 x665 : Int) => lpK c env lf 6 fi219 2 2 [] [0, 1, 5] (x219_2_0) lf (f219_0_c l0 x664 x665)) = (fun (l0 : List T) (x664 x665 : Int) => f219_0 c lf l0 lf x664 x665) := by funext l0 x664 x665; exact f219_0_eq c lf l0 lf x664 x665
 rw [e0]; rfl
def f194_0_s (c : Orc) (lf : Nat) (l0 : List T) (L : Int → Int → Option (List T)) (x674 x675 : Int) : Option (List T) :=
 bif iLt x675 (l0.length : Int) then
  bif inR x675 l0.length then
  (c 219 [T.sl (asL (T.cell (l0.getD x675.toNat T.u) 0)), T.i .i64 x674]).bind fun r676 =>
  bif iLt (asI (nth r676 0)) 0 then
   some [T.i .i64 0, T.i .i64 (-1)]
  else
   bif inR x675 l0.length then
   bif (asI (T.cell (l0.getD x675.toNat T.u) 1)) != (asI (nth r676 0)) then
    some [T.i .i64 0, T.i .i64 (-1)]
   else
    bif inR x675 l0.length then
    bif !((asB (T.cell (l0.getD x675.toNat T.u) 2)) == (((IntKind.wrap .i64 ((asI (nth r676 0)) + 1)).tmod 3) == 0)) then
     some [T.i .i64 0, T.i .i64 (-1)]
    else
     L (IntKind.wrap .i64 ((IntKind.wrap .i64 ((asI (nth r676 0)) + 1)) + 1)) (IntKind.wrap .i64 (x675 + 1))
    else none
   else none
  else none
 else
  some [T.i .i64 1, T.i .i64 x674]
def f194_0_c (l0 : List T) (x674 x675 : Int) : CSt := ⟨[.ro 0 true [.sl true [.b, .sl false [.i .u8]], .i .i64, .b] l0, .i .i64 x674, .i .i64 x675], [.dead, .dead]⟩
theorem f194_0_round (c : Orc) (lf : Nat) (l0 : List T) (L : CSt → Option (List T)) (x674 x675 : Int) :
 roundK c env lf 6 fi194 2 2 [] [0, 1, 5] (x194_2_0) L (f194_0_c l0 x674 x675) = f194_0_s c lf l0 (fun x674 x675 => L (f194_0_c l0 x674 x675)) x674 x675 := by kernel_rfl
def f194_0 (c : Orc) (lf : Nat) (l0 : List T) : Nat → Int → Int → Option (List T)
 | 0 => fun _ _ => none
 | n + 1 => fun x674 x675 => f194_0_s c lf l0 (f194_0 c lf l0 n) x674 x675
theorem f194_0_eq (c : Orc) (lf : Nat) (l0 : List T) (n : Nat) (x674 x675 : Int) :
 lpK c env lf 6 fi194 2 2 [] [0, 1, 5] (x194_2_0) n (f194_0_c l0 x674 x675) = f194_0 c lf l0 n x674 x675 := by
 induction n generalizing x674 x675 with
 | zero => rfl
 | succ n ih =>
  refine (f194_0_round c lf l0 _ x674 x675).trans ?_
  have e : (fun x674 x675 => lpK c env lf 6 fi194 2 2 [] [0, 1, 5] (x194_2_0) n (f194_0_c l0 x674 x675)) = f194_0 c lf l0 n := by funext x674 x675; exact ih x674 x675
  show f194_0_s c lf l0 (fun x674 x675 => lpK c env lf 6 fi194 2 2 [] [0, 1, 5] (x194_2_0) n (f194_0_c l0 x674 x675)) x674 x675 = _
  rw [e]; rfl
def f194_t (c : Orc) (lf : Nat) (lp0 : List T → Int → Int → Option (List T)) (l0 : List T) (n1 : Int) : Option (List T) :=
 (lp0 l0 n1 0).bind fun r677 =>
 bif asI (nth r677 0) == 0 then
  some [T.i .i64 (asI (nth r677 1))]
 else
  some [T.i .i64 (asI (nth r677 1))]
def f194 (c : Orc) (lf : Nat) (l0 : List T) (n1 : Int) : Option (List T) := f194_t c lf (fun (l0 : List T) (x674 x675 : Int) => f194_0 c lf l0 lf x674 x675) l0 n1
theorem f194_raw (c : Orc) (lf : Nat) (l0 : List T) (n1 : Int) : funK c env lf 6 fi194 [.sl l0, .i .i64 n1] = f194_t c lf (fun (l0 : List T) (x674 x675 : Int) => lpK c env lf 6 fi194 2 2 [] [0, 1, 5] (x194_2_0) lf (f194_0_c l0 x674 x675)) l0 n1 := by kernel_rfl
theorem f194_eq (c : Orc) (lf : Nat) (l0 : List T) (n1 : Int) : funK c env lf 6 fi194 [.sl l0, .i .i64 n1] = f194 c lf l0 n1 := by
 refine (f194_raw c lf l0 n1).trans ?_
 have e0 : (fun (l0 : List T) (x674 x675 : Int) => lpK c env lf 6 fi194 2 2 [] [0, 1, 5] (x194_2_0) lf (f194_0_c l0 x674 x675)) = (fun (l0 : List T) (x674 x675 : Int) => f194_0 c lf l0 lf x674 x675) := by funext l0 x674 x675; exact f194_0_eq c lf l0 lf x674 x675
 rw [e0]; rfl
def f141_t (c : Orc) (lf : Nat) (l0_0 : List T) (n1 : Int) : Option (List T) :=
 (c 194 [T.sl l0_0, T.i .i64 n1]).bind fun r678 =>
 bif iLt (asI (nth r678 0)) 0 then
  some [T.i .i64 (-1)]
 else
  some [T.i .i64 (asI (nth r678 0))]
def f141 (c : Orc) (lf : Nat) (l0_0 : List T) (n1 : Int) : Option (List T) := f141_t c lf l0_0 n1
theorem f141_eq (c : Orc) (lf : Nat) (l0_0 : List T) (n1 : Int) : funK c env lf 6 fi141 [.st [.sl l0_0], .i .i64 n1] = f141 c lf l0_0 n1 := by kernel_rfl
def f142_0_s (c : Orc) (lf : Nat) (l0 : List T) (L : Int → Int → Option (List T)) (x682 x683 : Int) : Option (List T) :=
 bif iLt x683 (l0.length : Int) then
  bif inR x683 l0.length then
  bif (asI (T.cell (l0.getD x683.toNat T.u) 0)) != x682 then
   some [T.i .i64 0, T.i .i64 (-1)]
  else
   bif inR x683 l0.length then
   bif (asI (T.cell (l0.getD x683.toNat T.u) 1)) != (IntKind.wrap .i64 (x682 + 1)) then
    some [T.i .i64 0, T.i .i64 (-1)]
   else
    bif inR x683 l0.length then
    bif (asI (T.cell (l0.getD x683.toNat T.u) 2)) != (IntKind.wrap .i64 ((IntKind.wrap .i64 (x682 + 1)) + 1)) then
     some [T.i .i64 0, T.i .i64 (-1)]
    else
     L (IntKind.wrap .i64 ((IntKind.wrap .i64 ((IntKind.wrap .i64 (x682 + 1)) + 1)) + 1)) (IntKind.wrap .i64 (x683 + 1))
    else none
   else none
  else none
 else
  some [T.i .i64 1, T.i .i64 x682]
def f142_0_c (l0 : List T) (x682 x683 : Int) : CSt := ⟨[.ro 0 true [.i .i64, .i .i64, .i .i64] l0, .i .i64 x682, .i .i64 x683], [.dead, .dead]⟩
theorem f142_0_round (c : Orc) (lf : Nat) (l0 : List T) (L : CSt → Option (List T)) (x682 x683 : Int) :
 roundK c env lf 6 fi142 2 2 [] [0, 1, 5] (x142_2_0) L (f142_0_c l0 x682 x683) = f142_0_s c lf l0 (fun x682 x683 => L (f142_0_c l0 x682 x683)) x682 x683 := by kernel_rfl
def f142_0 (c : Orc) (lf : Nat) (l0 : List T) : Nat → Int → Int → Option (List T)
 | 0 => fun _ _ => none
 | n + 1 => fun x682 x683 => f142_0_s c lf l0 (f142_0 c lf l0 n) x682 x683
theorem f142_0_eq (c : Orc) (lf : Nat) (l0 : List T) (n : Nat) (x682 x683 : Int) :
 lpK c env lf 6 fi142 2 2 [] [0, 1, 5] (x142_2_0) n (f142_0_c l0 x682 x683) = f142_0 c lf l0 n x682 x683 := by
 induction n generalizing x682 x683 with
 | zero => rfl
 | succ n ih =>
  refine (f142_0_round c lf l0 _ x682 x683).trans ?_
  have e : (fun x682 x683 => lpK c env lf 6 fi142 2 2 [] [0, 1, 5] (x142_2_0) n (f142_0_c l0 x682 x683)) = f142_0 c lf l0 n := by funext x682 x683; exact ih x682 x683
  show f142_0_s c lf l0 (fun x682 x683 => lpK c env lf 6 fi142 2 2 [] [0, 1, 5] (x142_2_0) n (f142_0_c l0 x682 x683)) x682 x683 = _
  rw [e]; rfl
def f142_t (c : Orc) (lf : Nat) (lp0 : List T → Int → Int → Option (List T)) (l0 : List T) (n1 : Int) : Option (List T) :=
 (lp0 l0 n1 0).bind fun r684 =>
 bif asI (nth r684 0) == 0 then
  some [T.i .i64 (asI (nth r684 1))]
 else
  some [T.i .i64 (asI (nth r684 1))]
def f142 (c : Orc) (lf : Nat) (l0 : List T) (n1 : Int) : Option (List T) := f142_t c lf (fun (l0 : List T) (x682 x683 : Int) => f142_0 c lf l0 lf x682 x683) l0 n1
theorem f142_raw (c : Orc) (lf : Nat) (l0 : List T) (n1 : Int) : funK c env lf 6 fi142 [.sl l0, .i .i64 n1] = f142_t c lf (fun (l0 : List T) (x682 x683 : Int) => lpK c env lf 6 fi142 2 2 [] [0, 1, 5] (x142_2_0) lf (f142_0_c l0 x682 x683)) l0 n1 := by kernel_rfl
theorem f142_eq (c : Orc) (lf : Nat) (l0 : List T) (n1 : Int) : funK c env lf 6 fi142 [.sl l0, .i .i64 n1] = f142 c lf l0 n1 := by
 refine (f142_raw c lf l0 n1).trans ?_
 have e0 : (fun (l0 : List T) (x682 x683 : Int) => lpK c env lf 6 fi142 2 2 [] [0, 1, 5] (x142_2_0) lf (f142_0_c l0 x682 x683)) = (fun (l0 : List T) (x682 x683 : Int) => f142_0 c lf l0 lf x682 x683) := by funext l0 x682 x683; exact f142_0_eq c lf l0 lf x682 x683
 rw [e0]; rfl
def f82_t (c : Orc) (lf : Nat) (l0_0 : List T) (n0_1 : Int) (l0_2 : List T) (b0_3 : Bool) (n1 : Int) : Option (List T) :=
 (c 141 [T.st [T.sl l0_0], T.i .i64 n1]).bind fun r685 =>
 bif iLt (asI (nth r685 0)) 0 then
  some [T.i .i64 (-1)]
 else
  (c 142 [T.sl l0_2, T.i .i64 (asI (nth r685 0))]).bind fun r686 =>
  bif iLt (asI (nth r686 0)) 0 then
   some [T.i .i64 (-1)]
  else
   some [T.i .i64 (asI (nth r686 0))]
def f82 (c : Orc) (lf : Nat) (l0_0 : List T) (n0_1 : Int) (l0_2 : List T) (b0_3 : Bool) (n1 : Int) : Option (List T) := f82_t c lf l0_0 n0_1 l0_2 b0_3 n1
theorem f82_eq (c : Orc) (lf : Nat) (l0_0 : List T) (n0_1 : Int) (l0_2 : List T) (b0_3 : Bool) (n1 : Int) : funK c env lf 6 fi82 [.st [.sl l0_0, .i .i64 n0_1, .sl l0_2, .b b0_3], .i .i64 n1] = f82 c lf l0_0 n0_1 l0_2 b0_3 n1 := by kernel_rfl
def f39_t (c : Orc) (lf : Nat) (l0_0 : List T) (n0_1 : Int) (l0_2 : List T) (b0_3 : Bool) (n0_4 n1 : Int) : Option (List T) :=
 (c 82 [T.st [T.sl l0_0, T.i .i64 n0_1, T.sl l0_2, T.b b0_3], T.i .i64 n1]).bind fun r687 =>
 bif iLt (asI (nth r687 0)) 0 then
  some [T.i .i64 (-1)]
 else
  some [T.i .i64 (asI (nth r687 0))]
def f39 (c : Orc) (lf : Nat) (l0_0 : List T) (n0_1 : Int) (l0_2 : List T) (b0_3 : Bool) (n0_4 n1 : Int) : Option (List T) := f39_t c lf l0_0 n0_1 l0_2 b0_3 n0_4 n1
theorem f39_eq (c : Orc) (lf : Nat) (l0_0 : List T) (n0_1 : Int) (l0_2 : List T) (b0_3 : Bool) (n0_4 n1 : Int) : funK c env lf 6 fi39 [.st [.sl l0_0, .i .i64 n0_1, .sl l0_2, .b b0_3, .i .i64 n0_4], .i .i64 n1] = f39 c lf l0_0 n0_1 l0_2 b0_3 n0_4 n1 := by kernel_rfl
def f13_t (c : Orc) (lf : Nat) (l0_0 : List T) (n0_1 : Int) (l0_2 : List T) (n0_3 n0_4 : Int) (l0_5 l0_6 : List T) (n0_7 n0_8 : Int) (l0_9 : List T) (n0_10 : Int) (l0_11 : List T) (b0_12 : Bool) (n0_13 n1 : Int) : Option (List T) :=
 (c 37 [T.st [T.sl l0_0, T.i .i64 n0_1], T.i .i64 n1]).bind fun r688 =>
 bif iLt (asI (nth r688 0)) 0 then
  some [T.i .i64 (-1)]
 else
  (c 38 [T.st [T.sl l0_2, T.i .i64 n0_3, T.i .i64 n0_4, T.sl l0_5, T.sl l0_6, T.i .i64 n0_7, T.i .i64 n0_8], T.i .i64 (asI (nth r688 0))]).bind fun r689 =>
  bif iLt (asI (nth r689 0)) 0 then
   some [T.i .i64 (-1)]
  else
   (c 39 [T.st [T.sl l0_9, T.i .i64 n0_10, T.sl l0_11, T.b b0_12, T.i .i64 n0_13], T.i .i64 (asI (nth r689 0))]).bind fun r690 =>
   bif iLt (asI (nth r690 0)) 0 then
    some [T.i .i64 (-1)]
   else
    some [T.i .i64 (asI (nth r690 0))]
def f13 (c : Orc) (lf : Nat) (l0_0 : List T) (n0_1 : Int) (l0_2 : List T) (n0_3 n0_4 : Int) (l0_5 l0_6 : List T) (n0_7 n0_8 : Int) (l0_9 : List T) (n0_10 : Int) (l0_11 : List T) (b0_12 : Bool) (n0_13 n1 : Int) : Option (List T) := f13_t c lf l0_0 n0_1 l0_2 n0_3 n0_4 l0_5 l0_6 n0_7 n0_8 l0_9 n0_10 l0_11 b0_12 n0_13 n1
theorem f13_eq (c : Orc) (lf : Nat) (l0_0 : List T) (n0_1 : Int) (l0_2 : List T) (n0_3 n0_4 : Int) (l0_5 l0_6 : List T) (n0_7 n0_8 : Int) (l0_9 : List T) (n0_10 : Int) (l0_11 : List T) (b0_12 : Bool) (n0_13 n1 : Int) : funK c env lf 6 fi13 [.st [.sl l0_0, .i .i64 n0_1, .sl l0_2, .i .i64 n0_3, .i .i64 n0_4, .sl l0_5, .sl l0_6, .i .i64 n0_7, .i .i64 n0_8, .sl l0_9, .i .i64 n0_10, .sl l0_11, .b b0_12, .i .i64 n0_13], .i .i64 n1] = f13 c lf l0_0 n0_1 l0_2 n0_3 n0_4 l0_5 l0_6 n0_7 n0_8 l0_9 n0_10 l0_11 b0_12 n0_13 n1 := by kernel_rfl
def f3_t (c : Orc) (lf : Nat) (n0 : Int) (l1 : List T) : Option (List T) :=
 (c 5 [T.sl l1, T.i .i64 1048576]).bind fun r691 =>
 bif iLt (asI (nth r691 0)) 0 then
  some [T.b true]
 else
  (c 7 [T.sl l1]).bind fun r692 =>
  (c 6 [T.i .i64 n0, T.sl (asL (nth r692 0))]).bind fun r693 =>
  (c 7 [T.sl l1]).bind fun r694 =>
  (c 8 [T.i .i64 n0, T.sl (asL (nth r694 0))]).bind fun r695 =>
  (c 9 [T.st [T.sl (asL (T.cell (nth r695 0) 0)), T.i .i64 (asI (T.cell (nth r695 0) 1)), T.sl (asL (T.cell (nth r695 0) 2)), T.i .i64 (asI (T.cell (nth r695 0) 3)), T.i .i64 (asI (T.cell (nth r695 0) 4)), T.sl (asL (T.cell (nth r695 0) 5)), T.sl (asL (T.cell (nth r695 0) 6)), T.i .i64 (asI (T.cell (nth r695 0) 7)), T.i .i64 (asI (T.cell (nth r695 0) 8)), T.sl (asL (T.cell (nth r695 0) 9)), T.i .i64 (asI (T.cell (nth r695 0) 10)), T.sl (asL (T.cell (nth r695 0) 11)), T.b (asB (T.cell (nth r695 0) 12)), T.i .i64 (asI (T.cell (nth r695 0) 13))], T.st [T.sl (asL (T.cell (nth r693 0) 0)), T.i .i64 (asI (T.cell (nth r693 0) 1)), T.sl (asL (T.cell (nth r693 0) 2)), T.i .i64 (asI (T.cell (nth r693 0) 3)), T.i .i64 (asI (T.cell (nth r693 0) 4)), T.sl (asL (T.cell (nth r693 0) 5)), T.sl (asL (T.cell (nth r693 0) 6)), T.i .i64 (asI (T.cell (nth r693 0) 7)), T.i .i64 (asI (T.cell (nth r693 0) 8)), T.sl (asL (T.cell (nth r693 0) 9)), T.i .i64 (asI (T.cell (nth r693 0) 10)), T.sl (asL (T.cell (nth r693 0) 11)), T.b (asB (T.cell (nth r693 0) 12)), T.i .i64 (asI (T.cell (nth r693 0) 13))]]).bind fun r696 =>
  bif !(asB (nth r696 0)) then
   some [T.b false]
  else
   (c 7 [T.sl l1]).bind fun r697 =>
   (c 10 [T.sl (asL (nth r694 0)), T.sl (asL (nth r697 0))]).bind fun r698 =>
   bif !(asB (nth r698 0)) then
    some [T.b false]
   else
    (c 11 [T.sl (asL (nth r694 0)), T.i .i64 1]).bind fun r699 =>
    bif iLt (asI (nth r699 0)) 0 then
     some [T.b false]
    else
     (c 9 [T.st [T.sl (asL (T.cell (nth r695 0) 0)), T.i .i64 (asI (T.cell (nth r695 0) 1)), T.sl (asL (T.cell (nth r695 0) 2)), T.i .i64 (asI (T.cell (nth r695 0) 3)), T.i .i64 (asI (T.cell (nth r695 0) 4)), T.sl (asL (T.cell (nth r695 0) 5)), T.sl (asL (T.cell (nth r695 0) 6)), T.i .i64 (asI (T.cell (nth r695 0) 7)), T.i .i64 (asI (T.cell (nth r695 0) 8)), T.sl (asL (T.cell (nth r695 0) 9)), T.i .i64 (asI (T.cell (nth r695 0) 10)), T.sl (asL (T.cell (nth r695 0) 11)), T.b (asB (T.cell (nth r695 0) 12)), T.i .i64 (asI (T.cell (nth r695 0) 13))], T.st [T.sl (asL (T.cell (nth r693 0) 0)), T.i .i64 (asI (T.cell (nth r693 0) 1)), T.sl (asL (T.cell (nth r693 0) 2)), T.i .i64 (asI (T.cell (nth r693 0) 3)), T.i .i64 (asI (T.cell (nth r693 0) 4)), T.sl (asL (T.cell (nth r693 0) 5)), T.sl (asL (T.cell (nth r693 0) 6)), T.i .i64 (asI (T.cell (nth r693 0) 7)), T.i .i64 (asI (T.cell (nth r693 0) 8)), T.sl (asL (T.cell (nth r693 0) 9)), T.i .i64 (asI (T.cell (nth r693 0) 10)), T.sl (asL (T.cell (nth r693 0) 11)), T.b (asB (T.cell (nth r693 0) 12)), T.i .i64 (asI (T.cell (nth r693 0) 13))]]).bind fun r700 =>
     bif !(asB (nth r700 0)) then
      some [T.b false]
     else
      (c 12 [T.st [T.sl (asL (T.cell (nth r695 0) 0)), T.i .i64 (asI (T.cell (nth r695 0) 1)), T.sl (asL (T.cell (nth r695 0) 2)), T.i .i64 (asI (T.cell (nth r695 0) 3)), T.i .i64 (asI (T.cell (nth r695 0) 4)), T.sl (asL (T.cell (nth r695 0) 5)), T.sl (asL (T.cell (nth r695 0) 6)), T.i .i64 (asI (T.cell (nth r695 0) 7)), T.i .i64 (asI (T.cell (nth r695 0) 8)), T.sl (asL (T.cell (nth r695 0) 9)), T.i .i64 (asI (T.cell (nth r695 0) 10)), T.sl (asL (T.cell (nth r695 0) 11)), T.b (asB (T.cell (nth r695 0) 12)), T.i .i64 (asI (T.cell (nth r695 0) 13))], T.i .i64 1]).bind fun r701 =>
      (c 13 [T.st [T.sl (asL (nth r701 1)), T.i .i64 (asI (T.cell (nth r695 0) 1)), T.sl (asL (nth r701 2)), T.i .i64 (asI (T.cell (nth r695 0) 3)), T.i .i64 (asI (T.cell (nth r695 0) 4)), T.sl (asL (nth r701 3)), T.sl (asL (nth r701 4)), T.i .i64 (asI (T.cell (nth r695 0) 7)), T.i .i64 (asI (T.cell (nth r695 0) 8)), T.sl (asL (nth r701 5)), T.i .i64 (asI (T.cell (nth r695 0) 10)), T.sl (asL (nth r701 6)), T.b (asB (T.cell (nth r695 0) 12)), T.i .i64 (asI (T.cell (nth r695 0) 13))], T.i .i64 1]).bind fun r702 =>
      bif iLt (asI (nth r702 0)) 0 then
       some [T.b false]
      else
       bif (asI (nth r702 0)) != (asI (nth r701 0)) then
        some [T.b false]
       else
        (c 7 [T.sl l1]).bind fun r703 =>
        (c 8 [T.i .i64 n0, T.sl (asL (nth r703 0))]).bind fun r704 =>
        (c 9 [T.st [T.sl (asL (T.cell (nth r704 0) 0)), T.i .i64 (asI (T.cell (nth r704 0) 1)), T.sl (asL (T.cell (nth r704 0) 2)), T.i .i64 (asI (T.cell (nth r704 0) 3)), T.i .i64 (asI (T.cell (nth r704 0) 4)), T.sl (asL (T.cell (nth r704 0) 5)), T.sl (asL (T.cell (nth r704 0) 6)), T.i .i64 (asI (T.cell (nth r704 0) 7)), T.i .i64 (asI (T.cell (nth r704 0) 8)), T.sl (asL (T.cell (nth r704 0) 9)), T.i .i64 (asI (T.cell (nth r704 0) 10)), T.sl (asL (T.cell (nth r704 0) 11)), T.b (asB (T.cell (nth r704 0) 12)), T.i .i64 (asI (T.cell (nth r704 0) 13))], T.st [T.sl (asL (T.cell (nth r693 0) 0)), T.i .i64 (asI (T.cell (nth r693 0) 1)), T.sl (asL (T.cell (nth r693 0) 2)), T.i .i64 (asI (T.cell (nth r693 0) 3)), T.i .i64 (asI (T.cell (nth r693 0) 4)), T.sl (asL (T.cell (nth r693 0) 5)), T.sl (asL (T.cell (nth r693 0) 6)), T.i .i64 (asI (T.cell (nth r693 0) 7)), T.i .i64 (asI (T.cell (nth r693 0) 8)), T.sl (asL (T.cell (nth r693 0) 9)), T.i .i64 (asI (T.cell (nth r693 0) 10)), T.sl (asL (T.cell (nth r693 0) 11)), T.b (asB (T.cell (nth r693 0) 12)), T.i .i64 (asI (T.cell (nth r693 0) 13))]]).bind fun r705 =>
        bif !(asB (nth r705 0)) then
         some [T.b false]
        else
         (c 13 [T.st [T.sl (asL (nth r701 1)), T.i .i64 (asI (T.cell (nth r695 0) 1)), T.sl (asL (nth r701 2)), T.i .i64 (asI (T.cell (nth r695 0) 3)), T.i .i64 (asI (T.cell (nth r695 0) 4)), T.sl (asL (nth r701 3)), T.sl (asL (nth r701 4)), T.i .i64 (asI (T.cell (nth r695 0) 7)), T.i .i64 (asI (T.cell (nth r695 0) 8)), T.sl (asL (nth r701 5)), T.i .i64 (asI (T.cell (nth r695 0) 10)), T.sl (asL (nth r701 6)), T.b (asB (T.cell (nth r695 0) 12)), T.i .i64 (asI (T.cell (nth r695 0) 13))], T.i .i64 1]).bind fun r706 =>
         bif iLt (asI (nth r706 0)) 0 then
          some [T.b false]
         else
          bif (asI (nth r706 0)) != (asI (nth r701 0)) then
           some [T.b false]
          else
           some [T.b true]
def f3 (c : Orc) (lf : Nat) (n0 : Int) (l1 : List T) : Option (List T) := f3_t c lf n0 l1
theorem f3_eq (c : Orc) (lf : Nat) (n0 : Int) (l1 : List T) : funK c env lf 6 fi3 [.i .i64 n0, .sl l1] = f3 c lf n0 l1 := by kernel_rfl
end Go.Proofs.YtcippopaecnjhaaGreat.T
