/- What functions of the law FnLogs come to, in trees; no condition. -/
import Derived.Test.YtdclnhlpifahpaaRows
import Derived.Test.YtdclnhlpifahpaaX0
import Derived.KernelRfl
set_option linter.unusedVariables false
set_option linter.constructorNameAsVariable false
set_option linter.unusedSimpArgs false
set_option linter.unnecessarySimpa false
namespace Go.Proofs.Ytdclnhlpifahpaa.T
open Go Go.Proofs.YtdclnhlpifahpaaV
theorem f52_0_eq (c : Orc) (lf n : Nat) (x654 : Int) (x655 x656 : List T) :
 lpK c env lf 6 fi52 2 4 [] [2, 3, 5] (x52_4_0) n (f52_0_c x654 x655 x656) = f52_0 c lf n x654 x655 x656 := by
 induction n generalizing x654 x655 x656 with
 | zero => rfl
 | succ n ih =>
  refine (f52_0_round c lf _ x654 x655 x656).trans ?_
  have e : (fun x654 x655 x656 => lpK c env lf 6 fi52 2 4 [] [2, 3, 5] (x52_4_0) n (f52_0_c x654 x655 x656)) = f52_0 c lf n := by funext x654 x655 x656; exact ih x654 x655 x656
  have e0 : (fun (x654 : Int) (x655 x656 : List T) (x658 : Int) => lpK c env lf 6 fi52 2 11 [] [2, 3, 5, 6, 7, 8] (x52_11_0) lf (f52_1_c x654 x655 x656 x658)) = (fun (x654 : Int) (x655 x656 : List T) (x658 : Int) => f52_1 c lf x654 x655 x656 lf x658) := by funext x654 x655 x656 x658; exact f52_1_eq c lf x654 x655 x656 lf x658
  show f52_0_s c lf (fun x654 x655 x656 => lpK c env lf 6 fi52 2 4 [] [2, 3, 5] (x52_4_0) n (f52_0_c x654 x655 x656)) (fun (x654 : Int) (x655 x656 : List T) (x658 : Int) => lpK c env lf 6 fi52 2 11 [] [2, 3, 5, 6, 7, 8] (x52_11_0) lf (f52_1_c x654 x655 x656 x658)) x654 x655 x656 = _
  rw [e, e0]; rfl
def f52_t (c : Orc) (lf : Nat) (lp0 : Int → List T → List T → Option (List T)) (l0_0 l1_0 : List T) : Option (List T) :=
 bif (l0_0.length : Int) != (l1_0.length : Int) then
  some [T.b false]
 else
  (lp0 0 l0_0 l1_0).bind fun r661 =>
  bif asI (nth r661 0) == 0 then
   some [T.b (asB (nth r661 1))]
  else
   some [T.b true]
def f52 (c : Orc) (lf : Nat) (l0_0 l1_0 : List T) : Option (List T) := f52_t c lf (fun (x654 : Int) (x655 x656 : List T) => f52_0 c lf lf x654 x655 x656) l0_0 l1_0
theorem f52_raw (c : Orc) (lf : Nat) (l0_0 l1_0 : List T) : funK c env lf 6 fi52 [.st [.sl l0_0], .st [.sl l1_0]] = f52_t c lf (fun (x654 : Int) (x655 x656 : List T) => lpK c env lf 6 fi52 2 4 [] [2, 3, 5] (x52_4_0) lf (f52_0_c x654 x655 x656)) l0_0 l1_0 := by kernel_rfl
theorem f52_eq (c : Orc) (lf : Nat) (l0_0 l1_0 : List T) : funK c env lf 6 fi52 [.st [.sl l0_0], .st [.sl l1_0]] = f52 c lf l0_0 l1_0 := by
 refine (f52_raw c lf l0_0 l1_0).trans ?_
 have e0 : (fun (x654 : Int) (x655 x656 : List T) => lpK c env lf 6 fi52 2 4 [] [2, 3, 5] (x52_4_0) lf (f52_0_c x654 x655 x656)) = (fun (x654 : Int) (x655 x656 : List T) => f52_0 c lf lf x654 x655 x656) := by funext x654 x655 x656; exact f52_0_eq c lf lf x654 x655 x656
 rw [e0]; rfl
def f134_t (c : Orc) (lf : Nat) (l0_0 : List T) (n1 n2 : Int) : Option (List T) :=
 (c 94 [T.st [T.sl l0_0], T.i .i64 n1]).bind fun r662 =>
 bif !(asB (nth r662 0)) then
  some [T.sl [], T.b false]
 else
  bif inR n1 l0_0.length then
  (c 75 [T.i .i64 n2, T.i .i64 0, T.i .i64 (IntKind.wrap .i64 (((asL (T.cell (l0_0.getD n1.toNat T.u) 0)).length : Int) - 1))]).bind fun r663 =>
  bif !(asB (nth r663 0)) then
   some [T.sl [], T.b false]
  else
   bif inR n1 l0_0.length then
   bif inR n2 ((asL (T.cell (l0_0.getD n1.toNat T.u) 0)).length) then
   bif !(asB (T.cell ((asL (T.cell (l0_0.getD n1.toNat T.u) 0)).getD n2.toNat T.u) 0)) then
    some [T.sl [], T.b false]
   else
    bif inR n1 l0_0.length then
    bif inR n2 ((asL (T.cell (l0_0.getD n1.toNat T.u) 0)).length) then
    (c 147 [T.sl (asL (T.cell ((asL (T.cell (l0_0.getD n1.toNat T.u) 0)).getD n2.toNat T.u) 1))]).bind fun r664 =>
    some [T.sl (asL (nth r664 0)), T.b true]
    else none
    else none
   else none
   else none
  else none
def f134 (c : Orc) (lf : Nat) (l0_0 : List T) (n1 n2 : Int) : Option (List T) := f134_t c lf l0_0 n1 n2
theorem f134_eq (c : Orc) (lf : Nat) (l0_0 : List T) (n1 n2 : Int) : funK c env lf 6 fi134 [.st [.sl l0_0], .i .i64 n1, .i .i64 n2] = f134 c lf l0_0 n1 n2 := by kernel_rfl
def f183_t (c : Orc) (lf : Nat) (l0 : List T) : Option (List T) :=
 bif iLt (IntKind.wrap .i64 ((l0.length : Int) - 4)) 0 then
  some [T.sl [], T.b false]
 else
  bif iLe 0 (IntKind.wrap .i64 ((l0.length : Int) - 4)) && iLe (IntKind.wrap .i64 ((l0.length : Int) - 4)) (l0.length : Int) then
  (c 91 [T.sl (l0.take ((IntKind.wrap .i64 ((l0.length : Int) - 4)).toNat))]).bind fun r666 =>
  bif !((bytesOf (asL (nth r666 0))).toList == (bytesOf l0).toList) then
   some [T.sl [], T.b false]
  else
   bif iLe 0 (IntKind.wrap .i64 ((l0.length : Int) - 4)) && iLe (IntKind.wrap .i64 ((l0.length : Int) - 4)) (l0.length : Int) then
   some [T.sl (l0.take ((IntKind.wrap .i64 ((l0.length : Int) - 4)).toNat)), T.b true]
   else none
  else none
def f183 (c : Orc) (lf : Nat) (l0 : List T) : Option (List T) := f183_t c lf l0
theorem f183_eq (c : Orc) (lf : Nat) (l0 : List T) : funK c env lf 6 fi183 [.sl l0] = f183 c lf l0 := by kernel_rfl
def f222_0_s (c : Orc) (lf : Nat) (l0 : List T) (n1 : Int) (L : Int → Int → Int → Option (List T)) (x671 x672 x673 : Int) : Option (List T) :=
 bif iLt x673 3 then
  bif iLt n1 (IntKind.wrap .i64 ((l0.length : Int) - x673)) then
   bif inR (IntKind.wrap .i64 (n1 + x673)) l0.length then
   bif iLe 128 (IntKind.wrap .i64 (asI (l0.getD ((IntKind.wrap .i64 (n1 + x673)).toNat) T.u))) then
    L (IntKind.wrap .i64 (x671 + (IntKind.wrap .i64 (((IntKind.wrap .i64 (asI (l0.getD ((IntKind.wrap .i64 (n1 + x673)).toNat) T.u))).tmod 128) * x672)))) (IntKind.wrap .i64 (x672 * 128)) (IntKind.wrap .i64 (x673 + 1))
   else
    bif iLt 1000000 (IntKind.wrap .i64 (x671 + (IntKind.wrap .i64 (((IntKind.wrap .i64 (asI (l0.getD ((IntKind.wrap .i64 (n1 + x673)).toNat) T.u))).tmod 128) * x672)))) then
     some [T.i .i64 0]
    else
     bif (IntKind.wrap .i64 (asI (l0.getD ((IntKind.wrap .i64 (n1 + x673)).toNat) T.u))) == 0 then
      bif iLt 0 x673 then
       some [T.i .i64 0]
      else
       some [T.i .i64 1, T.i .i64 (IntKind.wrap .i64 (x671 + (IntKind.wrap .i64 (((IntKind.wrap .i64 (asI (l0.getD ((IntKind.wrap .i64 (n1 + x673)).toNat) T.u))).tmod 128) * x672)))), T.i .i64 (IntKind.wrap .i64 ((IntKind.wrap .i64 (n1 + x673)) + 1)), T.b true]
     else
      some [T.i .i64 1, T.i .i64 (IntKind.wrap .i64 (x671 + (IntKind.wrap .i64 (((IntKind.wrap .i64 (asI (l0.getD ((IntKind.wrap .i64 (n1 + x673)).toNat) T.u))).tmod 128) * x672)))), T.i .i64 (IntKind.wrap .i64 ((IntKind.wrap .i64 (n1 + x673)) + 1)), T.b true]
   else none
  else
   some [T.i .i64 0]
 else
  some [T.i .i64 0]
def f222_0_c (l0 : List T) (n1 x671 : Int) (x672 x673 : Int) : CSt := ⟨[.ro 0 false [.i .u8] l0, .i .i64 n1, .i .i64 x671, .i .i64 x672, .i .i64 x673], [.dead, .dead]⟩
theorem f222_0_round (c : Orc) (lf : Nat) (l0 : List T) (n1 : Int) (L : CSt → Option (List T)) (x671 x672 x673 : Int) :
 roundK c env lf 6 fi222 2 6 [] [0, 1, 7, 8, 9] (x222_6_0) L (f222_0_c l0 n1 x671 x672 x673) = f222_0_s c lf l0 n1 (fun x671 x672 x673 => L (f222_0_c l0 n1 x671 x672 x673)) x671 x672 x673 := by kernel_rfl
def f222_0 (c : Orc) (lf : Nat) (l0 : List T) (n1 : Int) : Nat → Int → Int → Int → Option (List T)
 | 0 => fun _ _ _ => none
 | n + 1 => fun x671 x672 x673 => f222_0_s c lf l0 n1 (f222_0 c lf l0 n1 n) x671 x672 x673
theorem f222_0_u (c : Orc) (lf : Nat) (l0 : List T) (n1 : Int) (n : Nat) (x671 x672 x673 : Int) : f222_0 c lf l0 n1 (n + 1) x671 x672 x673 = f222_0_s c lf l0 n1 (f222_0 c lf l0 n1 n) x671 x672 x673 := rfl
theorem f222_0_eq (c : Orc) (lf : Nat) (l0 : List T) (n1 : Int) (n : Nat) (x671 x672 x673 : Int) :
 lpK c env lf 6 fi222 2 6 [] [0, 1, 7, 8, 9] (x222_6_0) n (f222_0_c l0 n1 x671 x672 x673) = f222_0 c lf l0 n1 n x671 x672 x673 := by
 induction n generalizing x671 x672 x673 with
 | zero => rfl
 | succ n ih =>
  refine (f222_0_round c lf l0 n1 _ x671 x672 x673).trans ?_
  have e : (fun x671 x672 x673 => lpK c env lf 6 fi222 2 6 [] [0, 1, 7, 8, 9] (x222_6_0) n (f222_0_c l0 n1 x671 x672 x673)) = f222_0 c lf l0 n1 n := by funext x671 x672 x673; exact ih x671 x672 x673
  show f222_0_s c lf l0 n1 (fun x671 x672 x673 => lpK c env lf 6 fi222 2 6 [] [0, 1, 7, 8, 9] (x222_6_0) n (f222_0_c l0 n1 x671 x672 x673)) x671 x672 x673 = _
  rw [e]; rfl
def f222_t (c : Orc) (lf : Nat) (lp0 : List T → Int → Int → Int → Int → Option (List T)) (l0 : List T) (n1 : Int) : Option (List T) :=
 bif iLt n1 0 then
  some [T.i .i64 0, T.i .i64 0, T.b false]
 else
  (lp0 l0 n1 0 1 0).bind fun r674 =>
  bif asI (nth r674 0) == 0 then
   some [T.i .i64 0, T.i .i64 0, T.b false]
  else
   some [T.i .i64 (asI (nth r674 1)), T.i .i64 (asI (nth r674 2)), T.b (asB (nth r674 3))]
def f222 (c : Orc) (lf : Nat) (l0 : List T) (n1 : Int) : Option (List T) := f222_t c lf (fun (l0 : List T) (n1 x671 : Int) (x672 x673 : Int) => f222_0 c lf l0 n1 lf x671 x672 x673) l0 n1
theorem f222_raw (c : Orc) (lf : Nat) (l0 : List T) (n1 : Int) : funK c env lf 6 fi222 [.sl l0, .i .i64 n1] = f222_t c lf (fun (l0 : List T) (n1 x671 : Int) (x672 x673 : Int) => lpK c env lf 6 fi222 2 6 [] [0, 1, 7, 8, 9] (x222_6_0) lf (f222_0_c l0 n1 x671 x672 x673)) l0 n1 := by kernel_rfl
theorem f222_eq (c : Orc) (lf : Nat) (l0 : List T) (n1 : Int) : funK c env lf 6 fi222 [.sl l0, .i .i64 n1] = f222 c lf l0 n1 := by
 refine (f222_raw c lf l0 n1).trans ?_
 have e0 : (fun (l0 : List T) (n1 x671 : Int) (x672 x673 : Int) => lpK c env lf 6 fi222 2 6 [] [0, 1, 7, 8, 9] (x222_6_0) lf (f222_0_c l0 n1 x671 x672 x673)) = (fun (l0 : List T) (n1 x671 : Int) (x672 x673 : Int) => f222_0 c lf l0 n1 lf x671 x672 x673) := by funext l0 n1 x671 x672 x673; exact f222_0_eq c lf l0 n1 lf x671 x672 x673
 rw [e0]; rfl
def f184_t (c : Orc) (lf : Nat) (l0_0 : List T) (n0_1 : Int) (b0_2 : Bool) : Option (List T) :=
 bif !b0_2 then
  some [T.i .i64 0, T.st [T.sl l0_0, T.i .i64 n0_1, T.b b0_2]]
 else
  (c 222 [T.sl l0_0, T.i .i64 n0_1]).bind fun r675 =>
  some [T.i .i64 (asI (nth r675 0)), T.st [T.sl l0_0, T.i .i64 (asI (nth r675 1)), T.b (asB (nth r675 2))]]
def f184 (c : Orc) (lf : Nat) (l0_0 : List T) (n0_1 : Int) (b0_2 : Bool) : Option (List T) := f184_t c lf l0_0 n0_1 b0_2
theorem f184_eq (c : Orc) (lf : Nat) (l0_0 : List T) (n0_1 : Int) (b0_2 : Bool) : funK c env lf 6 fi184 [.st [.sl l0_0, .i .i64 n0_1, .b b0_2]] = f184 c lf l0_0 n0_1 b0_2 := by kernel_rfl
def f223_t (c : Orc) (lf : Nat) (l0 : List T) (n1 : Int) : Option (List T) :=
 (c 222 [T.sl l0, T.i .i64 n1]).bind fun r676 =>
 bif !(asB (nth r676 2)) then
  some [T.s (⟨#[]⟩ : ByteArray), T.i .i64 0, T.b false]
 else
  bif iLt (IntKind.wrap .i64 ((l0.length : Int) - (asI (nth r676 1)))) (asI (nth r676 0)) then
   some [T.s (⟨#[]⟩ : ByteArray), T.i .i64 0, T.b false]
  else
   bif iLe 0 (asI (nth r676 1)) && iLe (asI (nth r676 1)) (IntKind.wrap .i64 ((asI (nth r676 1)) + (asI (nth r676 0)))) && iLe (IntKind.wrap .i64 ((asI (nth r676 1)) + (asI (nth r676 0)))) (l0.length : Int) then
   some [T.s (bytesOf ((l0.drop ((asI (nth r676 1)).toNat)).take (((IntKind.wrap .i64 ((asI (nth r676 1)) + (asI (nth r676 0)))).toNat) - ((asI (nth r676 1)).toNat)))), T.i .i64 (IntKind.wrap .i64 ((asI (nth r676 1)) + (asI (nth r676 0)))), T.b true]
   else none
def f223 (c : Orc) (lf : Nat) (l0 : List T) (n1 : Int) : Option (List T) := f223_t c lf l0 n1
theorem f223_eq (c : Orc) (lf : Nat) (l0 : List T) (n1 : Int) : funK c env lf 6 fi223 [.sl l0, .i .i64 n1] = f223 c lf l0 n1 := by kernel_rfl
def f185_t (c : Orc) (lf : Nat) (l0_0 : List T) (n0_1 : Int) (b0_2 : Bool) : Option (List T) :=
 bif !b0_2 then
  some [T.s (⟨#[]⟩ : ByteArray), T.st [T.sl l0_0, T.i .i64 n0_1, T.b b0_2]]
 else
  (c 223 [T.sl l0_0, T.i .i64 n0_1]).bind fun r677 =>
  some [T.s (asS (nth r677 0)), T.st [T.sl l0_0, T.i .i64 (asI (nth r677 1)), T.b (asB (nth r677 2))]]
def f185 (c : Orc) (lf : Nat) (l0_0 : List T) (n0_1 : Int) (b0_2 : Bool) : Option (List T) := f185_t c lf l0_0 n0_1 b0_2
theorem f185_eq (c : Orc) (lf : Nat) (l0_0 : List T) (n0_1 : Int) (b0_2 : Bool) : funK c env lf 6 fi185 [.st [.sl l0_0, .i .i64 n0_1, .b b0_2]] = f185 c lf l0_0 n0_1 b0_2 := by kernel_rfl
def f186_t (c : Orc) (lf : Nat) (l0_0 : List T) (n0_1 : Int) (b0_2 : Bool) : Option (List T) :=
 bif b0_2 then
  some [T.b (n0_1 == (l0_0.length : Int)), T.st [T.sl l0_0, T.i .i64 n0_1, T.b b0_2]]
 else
  some [T.b false, T.st [T.sl l0_0, T.i .i64 n0_1, T.b b0_2]]
def f186 (c : Orc) (lf : Nat) (l0_0 : List T) (n0_1 : Int) (b0_2 : Bool) : Option (List T) := f186_t c lf l0_0 n0_1 b0_2
theorem f186_eq (c : Orc) (lf : Nat) (l0_0 : List T) (n0_1 : Int) (b0_2 : Bool) : funK c env lf 6 fi186 [.st [.sl l0_0, .i .i64 n0_1, .b b0_2]] = f186 c lf l0_0 n0_1 b0_2 := by kernel_rfl
def f135_t (c : Orc) (lf : Nat) (l0 : List T) : Option (List T) :=
 (c 183 [T.sl l0]).bind fun r678 =>
 (c 184 [T.st [T.sl (asL (nth r678 0)), T.i .i64 0, T.b (asB (nth r678 1))]]).bind fun r679 =>
 (c 184 [T.st [T.sl (asL (nth r678 0)), T.i .i64 (asI (T.cell (nth r679 1) 1)), T.b (asB (T.cell (nth r679 1) 2))]]).bind fun r680 =>
 (c 185 [T.st [T.sl (asL (nth r678 0)), T.i .i64 (asI (T.cell (nth r680 1) 1)), T.b (asB (T.cell (nth r680 1) 2))]]).bind fun r681 =>
 bif nLe (asS (nth r681 0)).size LIM then
 (c 186 [T.st [T.sl (asL (nth r678 0)), T.i .i64 (asI (T.cell (nth r681 1) 1)), T.b (asB (T.cell (nth r681 1) 2))]]).bind fun r682 =>
 bif !(asB (nth r682 0)) then
  some [T.st [T.i .i64 0, T.i .i64 0, T.sl []], T.b false]
 else
  (c 89 [T.st [T.i .i64 (asI (nth r679 0)), T.i .i64 (asI (nth r680 0)), T.sl (listOf (asS (nth r681 0)))]]).bind fun r683 =>
  bif !(asB (nth r683 0)) then
   some [T.st [T.i .i64 0, T.i .i64 0, T.sl []], T.b false]
  else
   some [T.st [T.i .i64 (asI (nth r679 0)), T.i .i64 (asI (nth r680 0)), T.sl (listOf (asS (nth r681 0)))], T.b true]
 else none
def f135 (c : Orc) (lf : Nat) (l0 : List T) : Option (List T) := f135_t c lf l0
theorem f135_eq (c : Orc) (lf : Nat) (l0 : List T) : funK c env lf 6 fi135 [.sl l0] = f135 c lf l0 := by kernel_rfl
def f81_t (c : Orc) (lf : Nat) (l0_0 : List T) (n0_1 : Int) (l0_2 : List T) (b0_3 : Bool) (n0_4 n1 : Int) : Option (List T) :=
 bif iLt n1 0 then
  some [T.st [T.i .i64 0, T.i .i64 0, T.sl []], T.b false]
 else
  (c 134 [T.st [T.sl l0_0], T.i .i64 (IntKind.wrap .i64 (n1.tdiv 8)), T.i .i64 (n1.tmod 8)]).bind fun r684 =>
  bif !(asB (nth r684 1)) then
   some [T.st [T.i .i64 0, T.i .i64 0, T.sl []], T.b false]
  else
   (c 135 [T.sl (asL (nth r684 0))]).bind fun r685 =>
   some [T.st [T.i .i64 (asI (T.cell (nth r685 0) 0)), T.i .i64 (asI (T.cell (nth r685 0) 1)), T.sl (asL (T.cell (nth r685 0) 2))], T.b (asB (nth r685 1))]
def f81 (c : Orc) (lf : Nat) (l0_0 : List T) (n0_1 : Int) (l0_2 : List T) (b0_3 : Bool) (n0_4 n1 : Int) : Option (List T) := f81_t c lf l0_0 n0_1 l0_2 b0_3 n0_4 n1
theorem f81_eq (c : Orc) (lf : Nat) (l0_0 : List T) (n0_1 : Int) (l0_2 : List T) (b0_3 : Bool) (n0_4 n1 : Int) : funK c env lf 6 fi81 [.st [.sl l0_0, .i .i64 n0_1, .sl l0_2, .b b0_3, .i .i64 n0_4], .i .i64 n1] = f81 c lf l0_0 n0_1 l0_2 b0_3 n0_4 n1 := by kernel_rfl
def f24_t (c : Orc) (lf : Nat) (l0_0 : List T) (n0_1 : Int) (l0_2 : List T) (b0_3 : Bool) (n0_4 n1 n2 : Int) : Option (List T) :=
 (c 81 [T.st [T.sl l0_0, T.i .i64 n0_1, T.sl l0_2, T.b b0_3, T.i .i64 n0_4], T.i .i64 n1]).bind fun r686 =>
 bif !(asB (nth r686 1)) then
  some [T.st [T.i .i64 0, T.i .i64 0, T.sl []], T.b false]
 else
  bif (asI (T.cell (nth r686 0) 0)) != n2 then
   some [T.st [T.i .i64 0, T.i .i64 0, T.sl []], T.b false]
  else
   some [T.st [T.i .i64 (asI (T.cell (nth r686 0) 0)), T.i .i64 (asI (T.cell (nth r686 0) 1)), T.sl (asL (T.cell (nth r686 0) 2))], T.b true]
def f24 (c : Orc) (lf : Nat) (l0_0 : List T) (n0_1 : Int) (l0_2 : List T) (b0_3 : Bool) (n0_4 n1 n2 : Int) : Option (List T) := f24_t c lf l0_0 n0_1 l0_2 b0_3 n0_4 n1 n2
theorem f24_eq (c : Orc) (lf : Nat) (l0_0 : List T) (n0_1 : Int) (l0_2 : List T) (b0_3 : Bool) (n0_4 n1 n2 : Int) : funK c env lf 6 fi24 [.st [.sl l0_0, .i .i64 n0_1, .sl l0_2, .b b0_3, .i .i64 n0_4], .i .i64 n1, .i .i64 n2] = f24 c lf l0_0 n0_1 l0_2 b0_3 n0_4 n1 n2 := by kernel_rfl
def f181_0_s (c : Orc) (lf : Nat) (l0 : List T) (n1 : Int) (L : Int → Int → Option (List T)) (x690 x691 : Int) : Option (List T) :=
 bif iLt x691 3 then
  bif iLe 0 n1 then
   bif iLt n1 (l0.length : Int) then
    bif iLt (IntKind.wrap .i64 (n1 + x691)) (l0.length : Int) then
     bif inR (IntKind.wrap .i64 (n1 + x691)) l0.length then
     bif iLe 0 (IntKind.wrap .u64 (IntKind.wrap .i64 (7 * x691))) then
     bif iLt 127 (IntKind.wrap .i64 (asI (l0.getD ((IntKind.wrap .i64 (n1 + x691)).toNat) T.u))) then
      L (intBits .or .i64 x690 (shiftI .shl .i64 (intBits .and .i64 (IntKind.wrap .i64 (asI (l0.getD ((IntKind.wrap .i64 (n1 + x691)).toNat) T.u))) 127) (IntKind.wrap .u64 (IntKind.wrap .i64 (7 * x691))))) (IntKind.wrap .i64 (x691 + 1))
     else
      bif iLt 0 x691 then
       bif (IntKind.wrap .i64 (asI (l0.getD ((IntKind.wrap .i64 (n1 + x691)).toNat) T.u))) == 0 then
        some [T.i .i64 0, T.i .i64 0, T.i .i64 0, T.b false]
       else
        bif iLt 1000000 (intBits .or .i64 x690 (shiftI .shl .i64 (intBits .and .i64 (IntKind.wrap .i64 (asI (l0.getD ((IntKind.wrap .i64 (n1 + x691)).toNat) T.u))) 127) (IntKind.wrap .u64 (IntKind.wrap .i64 (7 * x691))))) then
         some [T.i .i64 0, T.i .i64 0, T.i .i64 0, T.b false]
        else
         some [T.i .i64 0, T.i .i64 (intBits .or .i64 x690 (shiftI .shl .i64 (intBits .and .i64 (IntKind.wrap .i64 (asI (l0.getD ((IntKind.wrap .i64 (n1 + x691)).toNat) T.u))) 127) (IntKind.wrap .u64 (IntKind.wrap .i64 (7 * x691))))), T.i .i64 (IntKind.wrap .i64 ((IntKind.wrap .i64 (n1 + x691)) + 1)), T.b true]
      else
       bif iLt 1000000 (intBits .or .i64 x690 (shiftI .shl .i64 (intBits .and .i64 (IntKind.wrap .i64 (asI (l0.getD ((IntKind.wrap .i64 (n1 + x691)).toNat) T.u))) 127) (IntKind.wrap .u64 (IntKind.wrap .i64 (7 * x691))))) then
        some [T.i .i64 0, T.i .i64 0, T.i .i64 0, T.b false]
       else
        some [T.i .i64 0, T.i .i64 (intBits .or .i64 x690 (shiftI .shl .i64 (intBits .and .i64 (IntKind.wrap .i64 (asI (l0.getD ((IntKind.wrap .i64 (n1 + x691)).toNat) T.u))) 127) (IntKind.wrap .u64 (IntKind.wrap .i64 (7 * x691))))), T.i .i64 (IntKind.wrap .i64 ((IntKind.wrap .i64 (n1 + x691)) + 1)), T.b true]
     else none
     else none
    else
     some [T.i .i64 1]
   else
    some [T.i .i64 1]
  else
   some [T.i .i64 1]
 else
  some [T.i .i64 1]
def f181_0_c (l0 : List T) (n1 x690 x691 : Int) : CSt := ⟨[.ro 0 false [.i .u8] l0, .i .i64 n1, .i .i64 x690, .i .i64 x691], [.dead, .dead]⟩
theorem f181_0_round (c : Orc) (lf : Nat) (l0 : List T) (n1 : Int) (L : CSt → Option (List T)) (x690 x691 : Int) :
 roundK c env lf 6 fi181 2 3 [] [0, 1, 7, 8] (x181_3_0) L (f181_0_c l0 n1 x690 x691) = f181_0_s c lf l0 n1 (fun x690 x691 => L (f181_0_c l0 n1 x690 x691)) x690 x691 := by kernel_rfl
def f181_0 (c : Orc) (lf : Nat) (l0 : List T) (n1 : Int) : Nat → Int → Int → Option (List T)
 | 0 => fun _ _ => none
 | n + 1 => fun x690 x691 => f181_0_s c lf l0 n1 (f181_0 c lf l0 n1 n) x690 x691
theorem f181_0_u (c : Orc) (lf : Nat) (l0 : List T) (n1 : Int) (n : Nat) (x690 x691 : Int) : f181_0 c lf l0 n1 (n + 1) x690 x691 = f181_0_s c lf l0 n1 (f181_0 c lf l0 n1 n) x690 x691 := rfl
theorem f181_0_eq (c : Orc) (lf : Nat) (l0 : List T) (n1 : Int) (n : Nat) (x690 x691 : Int) :
 lpK c env lf 6 fi181 2 3 [] [0, 1, 7, 8] (x181_3_0) n (f181_0_c l0 n1 x690 x691) = f181_0 c lf l0 n1 n x690 x691 := by
 induction n generalizing x690 x691 with
 | zero => rfl
 | succ n ih =>
  refine (f181_0_round c lf l0 n1 _ x690 x691).trans ?_
  have e : (fun x690 x691 => lpK c env lf 6 fi181 2 3 [] [0, 1, 7, 8] (x181_3_0) n (f181_0_c l0 n1 x690 x691)) = f181_0 c lf l0 n1 n := by funext x690 x691; exact ih x690 x691
  show f181_0_s c lf l0 n1 (fun x690 x691 => lpK c env lf 6 fi181 2 3 [] [0, 1, 7, 8] (x181_3_0) n (f181_0_c l0 n1 x690 x691)) x690 x691 = _
  rw [e]; rfl
def f181_t (c : Orc) (lf : Nat) (lp0 : List T → Int → Int → Int → Option (List T)) (l0 : List T) (n1 : Int) : Option (List T) :=
 (lp0 l0 n1 0 0).bind fun r692 =>
 bif asI (nth r692 0) == 0 then
  some [T.i .i64 (asI (nth r692 1)), T.i .i64 (asI (nth r692 2)), T.b (asB (nth r692 3))]
 else
  some [T.i .i64 0, T.i .i64 0, T.b false]
def f181 (c : Orc) (lf : Nat) (l0 : List T) (n1 : Int) : Option (List T) := f181_t c lf (fun (l0 : List T) (n1 x690 x691 : Int) => f181_0 c lf l0 n1 lf x690 x691) l0 n1
theorem f181_raw (c : Orc) (lf : Nat) (l0 : List T) (n1 : Int) : funK c env lf 6 fi181 [.sl l0, .i .i64 n1] = f181_t c lf (fun (l0 : List T) (n1 x690 x691 : Int) => lpK c env lf 6 fi181 2 3 [] [0, 1, 7, 8] (x181_3_0) lf (f181_0_c l0 n1 x690 x691)) l0 n1 := by kernel_rfl
theorem f181_eq (c : Orc) (lf : Nat) (l0 : List T) (n1 : Int) : funK c env lf 6 fi181 [.sl l0, .i .i64 n1] = f181 c lf l0 n1 := by
 refine (f181_raw c lf l0 n1).trans ?_
 have e0 : (fun (l0 : List T) (n1 x690 x691 : Int) => lpK c env lf 6 fi181 2 3 [] [0, 1, 7, 8] (x181_3_0) lf (f181_0_c l0 n1 x690 x691)) = (fun (l0 : List T) (n1 x690 x691 : Int) => f181_0 c lf l0 n1 lf x690 x691) := by funext l0 n1 x690 x691; exact f181_0_eq c lf l0 n1 lf x690 x691
 rw [e0]; rfl
def f131_t (c : Orc) (lf : Nat) (l0_0 : List T) (n0_1 : Int) (b0_2 : Bool) : Option (List T) :=
 (c 181 [T.sl l0_0, T.i .i64 n0_1]).bind fun r693 =>
 bif b0_2 then
  some [T.i .i64 0, T.st [T.sl l0_0, T.i .i64 n0_1, T.b true]]
 else
  bif !(asB (nth r693 2)) then
   some [T.i .i64 0, T.st [T.sl l0_0, T.i .i64 n0_1, T.b true]]
  else
   some [T.i .i64 (asI (nth r693 0)), T.st [T.sl l0_0, T.i .i64 (asI (nth r693 1)), T.b b0_2]]
def f131 (c : Orc) (lf : Nat) (l0_0 : List T) (n0_1 : Int) (b0_2 : Bool) : Option (List T) := f131_t c lf l0_0 n0_1 b0_2
theorem f131_eq (c : Orc) (lf : Nat) (l0_0 : List T) (n0_1 : Int) (b0_2 : Bool) : funK c env lf 6 fi131 [.st [.sl l0_0, .i .i64 n0_1, .b b0_2]] = f131 c lf l0_0 n0_1 b0_2 := by kernel_rfl
def f182_t (c : Orc) (lf : Nat) (l0 : List T) (n1 : Int) : Option (List T) :=
 (c 181 [T.sl l0, T.i .i64 n1]).bind fun r694 =>
 bif !(asB (nth r694 2)) then
  some [T.s (⟨#[]⟩ : ByteArray), T.i .i64 0, T.b false]
 else
  bif iLt (IntKind.wrap .i64 ((l0.length : Int) - (asI (nth r694 1)))) (asI (nth r694 0)) then
   some [T.s (⟨#[]⟩ : ByteArray), T.i .i64 0, T.b false]
  else
   bif iLe 0 (asI (nth r694 1)) && iLe (asI (nth r694 1)) (IntKind.wrap .i64 ((asI (nth r694 1)) + (asI (nth r694 0)))) && iLe (IntKind.wrap .i64 ((asI (nth r694 1)) + (asI (nth r694 0)))) (l0.length : Int) then
   some [T.s (bytesOf ((l0.drop ((asI (nth r694 1)).toNat)).take (((IntKind.wrap .i64 ((asI (nth r694 1)) + (asI (nth r694 0)))).toNat) - ((asI (nth r694 1)).toNat)))), T.i .i64 (IntKind.wrap .i64 ((asI (nth r694 1)) + (asI (nth r694 0)))), T.b true]
   else none
def f182 (c : Orc) (lf : Nat) (l0 : List T) (n1 : Int) : Option (List T) := f182_t c lf l0 n1
theorem f182_eq (c : Orc) (lf : Nat) (l0 : List T) (n1 : Int) : funK c env lf 6 fi182 [.sl l0, .i .i64 n1] = f182 c lf l0 n1 := by kernel_rfl
def f132_t (c : Orc) (lf : Nat) (l0_0 : List T) (n0_1 : Int) (b0_2 : Bool) : Option (List T) :=
 (c 182 [T.sl l0_0, T.i .i64 n0_1]).bind fun r695 =>
 bif b0_2 then
  some [T.s (⟨#[]⟩ : ByteArray), T.st [T.sl l0_0, T.i .i64 n0_1, T.b true]]
 else
  bif !(asB (nth r695 2)) then
   some [T.s (⟨#[]⟩ : ByteArray), T.st [T.sl l0_0, T.i .i64 n0_1, T.b true]]
  else
   some [T.s (asS (nth r695 0)), T.st [T.sl l0_0, T.i .i64 (asI (nth r695 1)), T.b b0_2]]
def f132 (c : Orc) (lf : Nat) (l0_0 : List T) (n0_1 : Int) (b0_2 : Bool) : Option (List T) := f132_t c lf l0_0 n0_1 b0_2
theorem f132_eq (c : Orc) (lf : Nat) (l0_0 : List T) (n0_1 : Int) (b0_2 : Bool) : funK c env lf 6 fi132 [.st [.sl l0_0, .i .i64 n0_1, .b b0_2]] = f132 c lf l0_0 n0_1 b0_2 := by kernel_rfl
def f80_0_s (c : Orc) (lf : Nat) (l0 : List T) (L : Int → Int → Option (List T)) (x704 x705 : Int) : Option (List T) :=
 bif iLt x705 (l0.length : Int) then
  bif inR x705 l0.length then
  L (intBits .or .i64 (shiftI .shl .i64 x704 8) (IntKind.wrap .i64 (asI (l0.getD x705.toNat T.u)))) (IntKind.wrap .i64 (x705 + 1))
  else none
 else
  some [T.i .i64 0, T.sl l0, T.i .i64 (IntKind.wrap .i64 ((l0.length : Int) - 4)), T.i .i64 x704, T.i .i64 0, T.i .i64 0, T.sl ([] : List T)]
def f80_0_c (l0 : List T) (x704 x705 : Int) : CSt := ⟨[.ro 0 false [.i .u8] l0, .bp 1 0, .i .i64 (IntKind.wrap .i64 ((l0.length : Int) - 4)), .i .i64 x704, .i .i64 x705], [.dead, .box [.i .i64 0, .i .i64 0, .rf 2 [] 0 none], .row false [.i .u8] ([] : List T) 0 false]⟩
theorem f80_0_round (c : Orc) (lf : Nat) (l0 : List T) (L : CSt → Option (List T)) (x704 x705 : Int) :
 roundK c env lf 6 fi80 1 6 [] [0, 2, 4, 5, 6] (x80_6_0) L (f80_0_c l0 x704 x705) = f80_0_s c lf l0 (fun x704 x705 => L (f80_0_c l0 x704 x705)) x704 x705 := by kernel_rfl
def f80_0 (c : Orc) (lf : Nat) (l0 : List T) : Nat → Int → Int → Option (List T)
 | 0 => fun _ _ => none
 | n + 1 => fun x704 x705 => f80_0_s c lf l0 (f80_0 c lf l0 n) x704 x705
theorem f80_0_u (c : Orc) (lf : Nat) (l0 : List T) (n : Nat) (x704 x705 : Int) : f80_0 c lf l0 (n + 1) x704 x705 = f80_0_s c lf l0 (f80_0 c lf l0 n) x704 x705 := rfl
theorem f80_0_eq (c : Orc) (lf : Nat) (l0 : List T) (n : Nat) (x704 x705 : Int) :
 lpK c env lf 6 fi80 1 6 [] [0, 2, 4, 5, 6] (x80_6_0) n (f80_0_c l0 x704 x705) = f80_0 c lf l0 n x704 x705 := by
 induction n generalizing x704 x705 with
 | zero => rfl
 | succ n ih =>
  refine (f80_0_round c lf l0 _ x704 x705).trans ?_
  have e : (fun x704 x705 => lpK c env lf 6 fi80 1 6 [] [0, 2, 4, 5, 6] (x80_6_0) n (f80_0_c l0 x704 x705)) = f80_0 c lf l0 n := by funext x704 x705; exact ih x704 x705
  show f80_0_s c lf l0 (fun x704 x705 => lpK c env lf 6 fi80 1 6 [] [0, 2, 4, 5, 6] (x80_6_0) n (f80_0_c l0 x704 x705)) x704 x705 = _
  rw [e]; rfl
def f80_t (c : Orc) (lf : Nat) (lp0 : List T → Int → Int → Option (List T)) (l0 : List T) : Option (List T) :=
 bif iLt (IntKind.wrap .i64 ((l0.length : Int) - 4)) 0 then
  some [T.st [T.i .i64 0, T.i .i64 0, T.sl []], T.b false]
 else
  (lp0 l0 0 (IntKind.wrap .i64 ((l0.length : Int) - 4))).bind fun r706 =>
  bif iLe 0 (asI (nth r706 2)) && iLe (asI (nth r706 2)) ((asL (nth r706 1)).length : Int) then
  (c 131 [T.st [T.sl ((asL (nth r706 1)).take ((asI (nth r706 2)).toNat)), T.i .i64 0, T.b false]]).bind fun r707 =>
  (c 131 [T.st [T.sl ((asL (nth r706 1)).take ((asI (nth r706 2)).toNat)), T.i .i64 (asI (T.cell (nth r707 1) 1)), T.b (asB (T.cell (nth r707 1) 2))]]).bind fun r708 =>
  (c 132 [T.st [T.sl ((asL (nth r706 1)).take ((asI (nth r706 2)).toNat)), T.i .i64 (asI (T.cell (nth r708 1) 1)), T.b (asB (T.cell (nth r708 1) 2))]]).bind fun r709 =>
  bif nLe (asS (nth r709 0)).size LIM then
  bif asB (T.cell (nth r709 1) 2) then
   some [T.st [T.i .i64 0, T.i .i64 0, T.sl []], T.b false]
  else
   bif (asI (T.cell (nth r709 1) 1)) != (asI (nth r706 2)) then
    some [T.st [T.i .i64 0, T.i .i64 0, T.sl []], T.b false]
   else
    bif iLe 0 (asI (nth r706 2)) && iLe (asI (nth r706 2)) ((asL (nth r706 1)).length : Int) then
    (c 133 [T.sl ((asL (nth r706 1)).take ((asI (nth r706 2)).toNat))]).bind fun r710 =>
    bif (asI (nth r706 3)) != (asI (nth r710 0)) then
     some [T.st [T.i .i64 0, T.i .i64 0, T.sl []], T.b false]
    else
     (c 103 [T.st [T.i .i64 (asI (nth r707 0)), T.i .i64 (asI (nth r708 0)), T.sl (listOf (asS (nth r709 0)))]]).bind fun r711 =>
     bif !(asB (nth r711 0)) then
      some [T.st [T.i .i64 0, T.i .i64 0, T.sl []], T.b false]
     else
      some [T.st [T.i .i64 (asI (nth r707 0)), T.i .i64 (asI (nth r708 0)), T.sl (listOf (asS (nth r709 0)))], T.b true]
    else none
  else none
  else none
def f80 (c : Orc) (lf : Nat) (l0 : List T) : Option (List T) := f80_t c lf (fun (l0 : List T) (x704 x705 : Int) => f80_0 c lf l0 lf x704 x705) l0
theorem f80_raw (c : Orc) (lf : Nat) (l0 : List T) : funK c env lf 6 fi80 [.sl l0] = f80_t c lf (fun (l0 : List T) (x704 x705 : Int) => lpK c env lf 6 fi80 1 6 [] [0, 2, 4, 5, 6] (x80_6_0) lf (f80_0_c l0 x704 x705)) l0 := by kernel_rfl
theorem f80_eq (c : Orc) (lf : Nat) (l0 : List T) : funK c env lf 6 fi80 [.sl l0] = f80 c lf l0 := by
 refine (f80_raw c lf l0).trans ?_
 have e0 : (fun (l0 : List T) (x704 x705 : Int) => lpK c env lf 6 fi80 1 6 [] [0, 2, 4, 5, 6] (x80_6_0) lf (f80_0_c l0 x704 x705)) = (fun (l0 : List T) (x704 x705 : Int) => f80_0 c lf l0 lf x704 x705) := by funext l0 x704 x705; exact f80_0_eq c lf l0 lf x704 x705
 rw [e0]; rfl
def f72_1_s (c : Orc) (lf : Nat) (x732 : Int) (x733 : List T) (L : Int → Int → Option (List T)) (x735 x736 : Int) : Option (List T) :=
 bif inR x732 x733.length then
 bif iLt x736 ((asL (T.cell (x733.getD x732.toNat T.u) 0)).length : Int) then
  bif inR x732 x733.length then
  bif inR x736 ((asL (T.cell (x733.getD x732.toNat T.u) 0)).length) then
  (c 80 [T.sl (asL (T.cell ((asL (T.cell (x733.getD x732.toNat T.u) 0)).getD x736.toNat T.u) 1))]).bind fun r737 =>
  bif asB (nth r737 1) then
   bif iLe x735 (asI (T.cell (nth r737 0) 1)) then
    L (IntKind.wrap .i64 ((asI (T.cell (nth r737 0) 1)) + 1)) (IntKind.wrap .i64 (x736 + 1))
   else
    L x735 (IntKind.wrap .i64 (x736 + 1))
  else
   L x735 (IntKind.wrap .i64 (x736 + 1))
  else none
  else none
 else
  some [T.i .i64 0, T.i .i64 x735, T.i .i64 x732, T.sl x733]
 else none
def f72_1_c (x732 : Int) (x733 : List T) (x735 x736 : Int) : CSt := ⟨[.bp 1 0, .i .i64 x735, .i .i64 x732, .i .i64 x736], [.dead, .box [.ro 0 true [.sl true [.b, .sl false [.i .u8]], .i .i64, .b] x733]]⟩
theorem f72_1_round (c : Orc) (lf : Nat) (x732 : Int) (x733 : List T) (L : CSt → Option (List T)) (x735 x736 : Int) :
 roundK c env lf 6 fi72 1 6 [] [1, 3, 4, 5] (x72_6_0) L (f72_1_c x732 x733 x735 x736) = f72_1_s c lf x732 x733 (fun x735 x736 => L (f72_1_c x732 x733 x735 x736)) x735 x736 := by kernel_rfl
def f72_1 (c : Orc) (lf : Nat) (x732 : Int) (x733 : List T) : Nat → Int → Int → Option (List T)
 | 0 => fun _ _ => none
 | n + 1 => fun x735 x736 => f72_1_s c lf x732 x733 (f72_1 c lf x732 x733 n) x735 x736
theorem f72_1_u (c : Orc) (lf : Nat) (x732 : Int) (x733 : List T) (n : Nat) (x735 x736 : Int) : f72_1 c lf x732 x733 (n + 1) x735 x736 = f72_1_s c lf x732 x733 (f72_1 c lf x732 x733 n) x735 x736 := rfl
theorem f72_1_eq (c : Orc) (lf : Nat) (x732 : Int) (x733 : List T) (n : Nat) (x735 x736 : Int) :
 lpK c env lf 6 fi72 1 6 [] [1, 3, 4, 5] (x72_6_0) n (f72_1_c x732 x733 x735 x736) = f72_1 c lf x732 x733 n x735 x736 := by
 induction n generalizing x735 x736 with
 | zero => rfl
 | succ n ih =>
  refine (f72_1_round c lf x732 x733 _ x735 x736).trans ?_
  have e : (fun x735 x736 => lpK c env lf 6 fi72 1 6 [] [1, 3, 4, 5] (x72_6_0) n (f72_1_c x732 x733 x735 x736)) = f72_1 c lf x732 x733 n := by funext x735 x736; exact ih x735 x736
  show f72_1_s c lf x732 x733 (fun x735 x736 => lpK c env lf 6 fi72 1 6 [] [1, 3, 4, 5] (x72_6_0) n (f72_1_c x732 x733 x735 x736)) x735 x736 = _
  rw [e]; rfl
def f72_0_s (c : Orc) (lf : Nat) (L : Int → Int → List T → Option (List T)) (lp0 : Int → List T → Int → Int → Option (List T)) (x731 x732 : Int) (x733 : List T) : Option (List T) :=
 bif iLt x732 (x733.length : Int) then
  (lp0 x732 x733 x731 0).bind fun r738 =>
  L (asI (nth r738 1)) (IntKind.wrap .i64 ((asI (nth r738 2)) + 1)) (asL (nth r738 3))
 else
  some [T.i .i64 0, T.i .i64 x731]
def f72_0_c (x731 x732 : Int) (x733 : List T) : CSt := ⟨[.bp 1 0, .i .i64 x731, .i .i64 x732], [.dead, .box [.ro 0 true [.sl true [.b, .sl false [.i .u8]], .i .i64, .b] x733]]⟩
theorem f72_0_round (c : Orc) (lf : Nat) (L : CSt → Option (List T)) (x731 x732 : Int) (x733 : List T) :
 roundK c env lf 6 fi72 1 3 [] [1, 3, 4] (x72_3_0) L (f72_0_c x731 x732 x733) = f72_0_s c lf (fun x731 x732 x733 => L (f72_0_c x731 x732 x733)) (fun (x732 : Int) (x733 : List T) (x735 x736 : Int) => lpK c env lf 6 fi72 1 6 [] [1, 3, 4, 5] (x72_6_0) lf (f72_1_c x732 x733 x735 x736)) x731 x732 x733 := by kernel_rfl
def f72_0 (c : Orc) (lf : Nat) : Nat → Int → Int → List T → Option (List T)
 | 0 => fun _ _ _ => none
 | n + 1 => fun x731 x732 x733 => f72_0_s c lf (f72_0 c lf n) (fun (x732 : Int) (x733 : List T) (x735 x736 : Int) => f72_1 c lf x732 x733 lf x735 x736) x731 x732 x733
theorem f72_0_u (c : Orc) (lf n : Nat) (x731 x732 : Int) (x733 : List T) : f72_0 c lf (n + 1) x731 x732 x733 = f72_0_s c lf (f72_0 c lf n) (fun (x732 : Int) (x733 : List T) (x735 x736 : Int) => f72_1 c lf x732 x733 lf x735 x736) x731 x732 x733 := rfl
theorem f72_0_eq (c : Orc) (lf n : Nat) (x731 x732 : Int) (x733 : List T) :
 lpK c env lf 6 fi72 1 3 [] [1, 3, 4] (x72_3_0) n (f72_0_c x731 x732 x733) = f72_0 c lf n x731 x732 x733 := by
 induction n generalizing x731 x732 x733 with
 | zero => rfl
 | succ n ih =>
  refine (f72_0_round c lf _ x731 x732 x733).trans ?_
  have e : (fun x731 x732 x733 => lpK c env lf 6 fi72 1 3 [] [1, 3, 4] (x72_3_0) n (f72_0_c x731 x732 x733)) = f72_0 c lf n := by funext x731 x732 x733; exact ih x731 x732 x733
  have e0 : (fun (x732 : Int) (x733 : List T) (x735 x736 : Int) => lpK c env lf 6 fi72 1 6 [] [1, 3, 4, 5] (x72_6_0) lf (f72_1_c x732 x733 x735 x736)) = (fun (x732 : Int) (x733 : List T) (x735 x736 : Int) => f72_1 c lf x732 x733 lf x735 x736) := by funext x732 x733 x735 x736; exact f72_1_eq c lf x732 x733 lf x735 x736
  show f72_0_s c lf (fun x731 x732 x733 => lpK c env lf 6 fi72 1 3 [] [1, 3, 4] (x72_3_0) n (f72_0_c x731 x732 x733)) (fun (x732 : Int) (x733 : List T) (x735 x736 : Int) => lpK c env lf 6 fi72 1 6 [] [1, 3, 4, 5] (x72_6_0) lf (f72_1_c x732 x733 x735 x736)) x731 x732 x733 = _
  rw [e, e0]; rfl
def f72_t (c : Orc) (lf : Nat) (lp0 : Int → Int → List T → Option (List T)) (l0_0 : List T) : Option (List T) :=
 (lp0 0 0 l0_0).bind fun r739 =>
 some [T.i .i64 (asI (nth r739 1))]
def f72 (c : Orc) (lf : Nat) (l0_0 : List T) : Option (List T) := f72_t c lf (fun (x731 x732 : Int) (x733 : List T) => f72_0 c lf lf x731 x732 x733) l0_0
theorem f72_raw (c : Orc) (lf : Nat) (l0_0 : List T) : funK c env lf 6 fi72 [.st [.sl l0_0]] = f72_t c lf (fun (x731 x732 : Int) (x733 : List T) => lpK c env lf 6 fi72 1 3 [] [1, 3, 4] (x72_3_0) lf (f72_0_c x731 x732 x733)) l0_0 := by kernel_rfl
theorem f72_eq (c : Orc) (lf : Nat) (l0_0 : List T) : funK c env lf 6 fi72 [.st [.sl l0_0]] = f72 c lf l0_0 := by
 refine (f72_raw c lf l0_0).trans ?_
 have e0 : (fun (x731 x732 : Int) (x733 : List T) => lpK c env lf 6 fi72 1 3 [] [1, 3, 4] (x72_3_0) lf (f72_0_c x731 x732 x733)) = (fun (x731 x732 : Int) (x733 : List T) => f72_0 c lf lf x731 x732 x733) := by funext x731 x732 x733; exact f72_0_eq c lf lf x731 x732 x733
 rw [e0]; rfl
def f19_t (c : Orc) (lf : Nat) (l0_0 : List T) (n0_1 : Int) (l0_2 : List T) (b0_3 : Bool) (n0_4 : Int) : Option (List T) :=
 (c 70 [T.st [T.sl l0_0, T.i .i64 n0_1, T.sl l0_2, T.b b0_3]]).bind fun r740 =>
 bif asB (nth r740 0) then
  (c 71 [T.i .i64 n0_4, T.i .i64 0, T.i .i64 1000000]).bind fun r741 =>
  bif asB (nth r741 0) then
   (c 72 [T.st [T.sl l0_0]]).bind fun r742 =>
   some [T.b (iLe (asI (nth r742 0)) n0_4)]
  else
   some [T.b false]
 else
  some [T.b false]
def f19 (c : Orc) (lf : Nat) (l0_0 : List T) (n0_1 : Int) (l0_2 : List T) (b0_3 : Bool) (n0_4 : Int) : Option (List T) := f19_t c lf l0_0 n0_1 l0_2 b0_3 n0_4
theorem f19_eq (c : Orc) (lf : Nat) (l0_0 : List T) (n0_1 : Int) (l0_2 : List T) (b0_3 : Bool) (n0_4 : Int) : funK c env lf 6 fi19 [.st [.sl l0_0, .i .i64 n0_1, .sl l0_2, .b b0_3, .i .i64 n0_4]] = f19 c lf l0_0 n0_1 l0_2 b0_3 n0_4 := by kernel_rfl
def f21_0_s (c : Orc) (lf : Nat) (b0_3 : Bool) (l0_0 l0_2 : List T) (n0_1 n0_4 : Int) (L : Int → Bool → Option (List T)) (x757 : Int) (x758 : Bool) : Option (List T) :=
 bif iLt x757 (IntKind.wrap .i64 ((l0_0.length : Int) * 8)) then
  (c 81 [T.st [T.sl l0_0, T.i .i64 n0_1, T.sl l0_2, T.b b0_3, T.i .i64 n0_4], T.i .i64 x757]).bind fun r759 =>
  bif asB (nth r759 1) then
   bif x758 then
    L (IntKind.wrap .i64 (x757 + 1)) (iLt (asI (T.cell (nth r759 0) 1)) n0_4)
   else
    L (IntKind.wrap .i64 (x757 + 1)) false
  else
   L (IntKind.wrap .i64 (x757 + 1)) x758
 else
  some [T.i .i64 0, T.b x758, T.sl l0_0, T.i .i64 n0_1, T.sl l0_2, T.b b0_3, T.i .i64 n0_4]
def f21_0_c (b0_3 : Bool) (l0_0 l0_2 : List T) (n0_1 n0_4 x757 : Int) (x758 : Bool) : CSt := ⟨[.fn 77 [.bp 0 0, .bp 1 0], .bp 2 0, .i .i64 (IntKind.wrap .i64 ((l0_0.length : Int) * 8)), .i .i64 x757], [.box [.b x758], .box [.ro 0 true [.sl true [.b, .sl false [.i .u8]], .i .i64, .b] l0_0, .i .i64 n0_1, .ro 0 true [.i .i64, .i .i64, .i .i64] l0_2, .b b0_3, .i .i64 n0_4], .box [.ro 0 true [.sl true [.b, .sl false [.i .u8]], .i .i64, .b] l0_0, .i .i64 n0_1, .ro 0 true [.i .i64, .i .i64, .i .i64] l0_2, .b b0_3, .i .i64 n0_4]]⟩
theorem f21_0_round (c : Orc) (lf : Nat) (b0_3 : Bool) (l0_0 l0_2 : List T) (n0_1 n0_4 : Int) (L : CSt → Option (List T)) (x757 : Int) (x758 : Bool) :
 roundK c env lf 5 fi76 2 2 [] [1, 2, 12, 13] (x76_2_0) L (f21_0_c b0_3 l0_0 l0_2 n0_1 n0_4 x757 x758) = f21_0_s c lf b0_3 l0_0 l0_2 n0_1 n0_4 (fun x757 x758 => L (f21_0_c b0_3 l0_0 l0_2 n0_1 n0_4 x757 x758)) x757 x758 := by kernel_rfl
def f21_0 (c : Orc) (lf : Nat) (b0_3 : Bool) (l0_0 l0_2 : List T) (n0_1 n0_4 : Int) : Nat → Int → Bool → Option (List T)
 | 0 => fun _ _ => none
 | n + 1 => fun x757 x758 => f21_0_s c lf b0_3 l0_0 l0_2 n0_1 n0_4 (f21_0 c lf b0_3 l0_0 l0_2 n0_1 n0_4 n) x757 x758
theorem f21_0_u (c : Orc) (lf : Nat) (b0_3 : Bool) (l0_0 l0_2 : List T) (n0_1 n0_4 : Int) (n : Nat) (x757 : Int) (x758 : Bool) : f21_0 c lf b0_3 l0_0 l0_2 n0_1 n0_4 (n + 1) x757 x758 = f21_0_s c lf b0_3 l0_0 l0_2 n0_1 n0_4 (f21_0 c lf b0_3 l0_0 l0_2 n0_1 n0_4 n) x757 x758 := rfl
theorem f21_0_eq (c : Orc) (lf : Nat) (b0_3 : Bool) (l0_0 l0_2 : List T) (n0_1 n0_4 : Int) (n : Nat) (x757 : Int) (x758 : Bool) :
 lpK c env lf 5 fi76 2 2 [] [1, 2, 12, 13] (x76_2_0) n (f21_0_c b0_3 l0_0 l0_2 n0_1 n0_4 x757 x758) = f21_0 c lf b0_3 l0_0 l0_2 n0_1 n0_4 n x757 x758 := by
 induction n generalizing x757 x758 with
 | zero => rfl
 | succ n ih =>
  refine (f21_0_round c lf b0_3 l0_0 l0_2 n0_1 n0_4 _ x757 x758).trans ?_
  have e : (fun x757 x758 => lpK c env lf 5 fi76 2 2 [] [1, 2, 12, 13] (x76_2_0) n (f21_0_c b0_3 l0_0 l0_2 n0_1 n0_4 x757 x758)) = f21_0 c lf b0_3 l0_0 l0_2 n0_1 n0_4 n := by funext x757 x758; exact ih x757 x758
  show f21_0_s c lf b0_3 l0_0 l0_2 n0_1 n0_4 (fun x757 x758 => lpK c env lf 5 fi76 2 2 [] [1, 2, 12, 13] (x76_2_0) n (f21_0_c b0_3 l0_0 l0_2 n0_1 n0_4 x757 x758)) x757 x758 = _
  rw [e]; rfl
def f21_1_s (c : Orc) (lf : Nat) (b0_3 : Bool) (l0_0 l0_2 : List T) (n0_1 n0_4 : Int) (L : Int → Option (List T)) (x762 : Int) : Option (List T) :=
 bif iLt x762 (IntKind.wrap .i64 ((l0_0.length : Int) * 8)) then
  (c 81 [T.st [T.sl l0_0, T.i .i64 n0_1, T.sl l0_2, T.b b0_3, T.i .i64 n0_4], T.i .i64 x762]).bind fun r763 =>
  bif asB (nth r763 1) then
   L (IntKind.wrap .i64 (x762 + 1))
  else
   L (IntKind.wrap .i64 (x762 + 1))
 else
  some [T.i .i64 0, T.b false, T.sl l0_0, T.i .i64 n0_1, T.sl l0_2, T.b b0_3, T.i .i64 n0_4]
def f21_1_c (b0_3 : Bool) (l0_0 l0_2 : List T) (n0_1 n0_4 x762 : Int) : CSt := ⟨[.fn 77 [.bp 0 0, .bp 1 0], .bp 2 0, .i .i64 (IntKind.wrap .i64 ((l0_0.length : Int) * 8)), .i .i64 x762], [.box [.b false], .box [.ro 0 true [.sl true [.b, .sl false [.i .u8]], .i .i64, .b] l0_0, .i .i64 n0_1, .ro 0 true [.i .i64, .i .i64, .i .i64] l0_2, .b b0_3, .i .i64 n0_4], .box [.ro 0 true [.sl true [.b, .sl false [.i .u8]], .i .i64, .b] l0_0, .i .i64 n0_1, .ro 0 true [.i .i64, .i .i64, .i .i64] l0_2, .b b0_3, .i .i64 n0_4]]⟩
theorem f21_1_round (c : Orc) (lf : Nat) (b0_3 : Bool) (l0_0 l0_2 : List T) (n0_1 n0_4 : Int) (L : CSt → Option (List T)) (x762 : Int) :
 roundK c env lf 5 fi76 2 2 [] [1, 2, 12, 13] (x76_2_0) L (f21_1_c b0_3 l0_0 l0_2 n0_1 n0_4 x762) = f21_1_s c lf b0_3 l0_0 l0_2 n0_1 n0_4 (fun x762 => L (f21_1_c b0_3 l0_0 l0_2 n0_1 n0_4 x762)) x762 := by kernel_rfl
def f21_1 (c : Orc) (lf : Nat) (b0_3 : Bool) (l0_0 l0_2 : List T) (n0_1 n0_4 : Int) : Nat → Int → Option (List T)
 | 0 => fun _ => none
 | n + 1 => fun x762 => f21_1_s c lf b0_3 l0_0 l0_2 n0_1 n0_4 (f21_1 c lf b0_3 l0_0 l0_2 n0_1 n0_4 n) x762
theorem f21_1_u (c : Orc) (lf : Nat) (b0_3 : Bool) (l0_0 l0_2 : List T) (n0_1 n0_4 : Int) (n : Nat) (x762 : Int) : f21_1 c lf b0_3 l0_0 l0_2 n0_1 n0_4 (n + 1) x762 = f21_1_s c lf b0_3 l0_0 l0_2 n0_1 n0_4 (f21_1 c lf b0_3 l0_0 l0_2 n0_1 n0_4 n) x762 := rfl
theorem f21_1_eq (c : Orc) (lf : Nat) (b0_3 : Bool) (l0_0 l0_2 : List T) (n0_1 n0_4 : Int) (n : Nat) (x762 : Int) :
 lpK c env lf 5 fi76 2 2 [] [1, 2, 12, 13] (x76_2_0) n (f21_1_c b0_3 l0_0 l0_2 n0_1 n0_4 x762) = f21_1 c lf b0_3 l0_0 l0_2 n0_1 n0_4 n x762 := by
 induction n generalizing x762 with
 | zero => rfl
 | succ n ih =>
  refine (f21_1_round c lf b0_3 l0_0 l0_2 n0_1 n0_4 _ x762).trans ?_
  have e : (fun x762 => lpK c env lf 5 fi76 2 2 [] [1, 2, 12, 13] (x76_2_0) n (f21_1_c b0_3 l0_0 l0_2 n0_1 n0_4 x762)) = f21_1 c lf b0_3 l0_0 l0_2 n0_1 n0_4 n := by funext x762; exact ih x762
  show f21_1_s c lf b0_3 l0_0 l0_2 n0_1 n0_4 (fun x762 => lpK c env lf 5 fi76 2 2 [] [1, 2, 12, 13] (x76_2_0) n (f21_1_c b0_3 l0_0 l0_2 n0_1 n0_4 x762)) x762 = _
  rw [e]; rfl
def f21_t (c : Orc) (lf : Nat) (lp0 : Bool → List T → List T → Int → Int → Int → Bool → Option (List T)) (lp1 : Bool → List T → List T → Int → Int → Int → Option (List T)) (l0_0 : List T) (n0_1 : Int) (l0_2 : List T) (b0_3 : Bool) (n0_4 : Int) : Option (List T) :=
 (c 74 [T.st [T.sl l0_0, T.i .i64 n0_1, T.sl l0_2, T.b b0_3]]).bind fun r754 =>
 bif asB (nth r754 0) then
  (c 75 [T.i .i64 n0_4, T.i .i64 0, T.i .i64 1000000]).bind fun r755 =>
  (lp0 b0_3 l0_0 l0_2 n0_1 n0_4 0 (asB (nth r755 0))).bind fun r760 =>
  some [T.b (asB (nth r760 1))]
 else
  (lp1 b0_3 l0_0 l0_2 n0_1 n0_4 0).bind fun r764 =>
  some [T.b (asB (nth r764 1))]
def f21 (c : Orc) (lf : Nat) (l0_0 : List T) (n0_1 : Int) (l0_2 : List T) (b0_3 : Bool) (n0_4 : Int) : Option (List T) := f21_t c lf (fun (b0_3 : Bool) (l0_0 l0_2 : List T) (n0_1 n0_4 x757 : Int) (x758 : Bool) => f21_0 c lf b0_3 l0_0 l0_2 n0_1 n0_4 lf x757 x758) (fun (b0_3 : Bool) (l0_0 l0_2 : List T) (n0_1 n0_4 x762 : Int) => f21_1 c lf b0_3 l0_0 l0_2 n0_1 n0_4 lf x762) l0_0 n0_1 l0_2 b0_3 n0_4
theorem f21_raw (c : Orc) (lf : Nat) (l0_0 : List T) (n0_1 : Int) (l0_2 : List T) (b0_3 : Bool) (n0_4 : Int) : funK c env lf 6 fi21 [.st [.sl l0_0, .i .i64 n0_1, .sl l0_2, .b b0_3, .i .i64 n0_4]] = f21_t c lf (fun (b0_3 : Bool) (l0_0 l0_2 : List T) (n0_1 n0_4 x757 : Int) (x758 : Bool) => lpK c env lf 5 fi76 2 2 [] [1, 2, 12, 13] (x76_2_0) lf (f21_0_c b0_3 l0_0 l0_2 n0_1 n0_4 x757 x758)) (fun (b0_3 : Bool) (l0_0 l0_2 : List T) (n0_1 n0_4 x762 : Int) => lpK c env lf 5 fi76 2 2 [] [1, 2, 12, 13] (x76_2_0) lf (f21_1_c b0_3 l0_0 l0_2 n0_1 n0_4 x762)) l0_0 n0_1 l0_2 b0_3 n0_4 := by kernel_rfl
theorem f21_eq (c : Orc) (lf : Nat) (l0_0 : List T) (n0_1 : Int) (l0_2 : List T) (b0_3 : Bool) (n0_4 : Int) : funK c env lf 6 fi21 [.st [.sl l0_0, .i .i64 n0_1, .sl l0_2, .b b0_3, .i .i64 n0_4]] = f21 c lf l0_0 n0_1 l0_2 b0_3 n0_4 := by
 refine (f21_raw c lf l0_0 n0_1 l0_2 b0_3 n0_4).trans ?_
 have e0 : (fun (b0_3 : Bool) (l0_0 l0_2 : List T) (n0_1 n0_4 x757 : Int) (x758 : Bool) => lpK c env lf 5 fi76 2 2 [] [1, 2, 12, 13] (x76_2_0) lf (f21_0_c b0_3 l0_0 l0_2 n0_1 n0_4 x757 x758)) = (fun (b0_3 : Bool) (l0_0 l0_2 : List T) (n0_1 n0_4 x757 : Int) (x758 : Bool) => f21_0 c lf b0_3 l0_0 l0_2 n0_1 n0_4 lf x757 x758) := by funext b0_3 l0_0 l0_2 n0_1 n0_4 x757 x758; exact f21_0_eq c lf b0_3 l0_0 l0_2 n0_1 n0_4 lf x757 x758
 have e1 : (fun (b0_3 : Bool) (l0_0 l0_2 : List T) (n0_1 n0_4 x762 : Int) => lpK c env lf 5 fi76 2 2 [] [1, 2, 12, 13] (x76_2_0) lf (f21_1_c b0_3 l0_0 l0_2 n0_1 n0_4 x762)) = (fun (b0_3 : Bool) (l0_0 l0_2 : List T) (n0_1 n0_4 x762 : Int) => f21_1 c lf b0_3 l0_0 l0_2 n0_1 n0_4 lf x762) := by funext b0_3 l0_0 l0_2 n0_1 n0_4 x762; exact f21_1_eq c lf b0_3 l0_0 l0_2 n0_1 n0_4 lf x762
 rw [e0, e1]; rfl
def f11_1_s (c : Orc) (lf : Nat) (x819 x820 : Int) (x821 x822 x823 : Int) (x824 : Bool) (x825 : Int) (x826 x827 x828 : List T) (x829 : Int) (x830 : Bool) (x831 : Int) (x832 x833 : List T) (L : Int → Option (List T)) (x837 : Int) : Option (List T) :=
 bif iLt x837 5 then
  (c 24 [T.st [T.sl x826, T.i .i64 x823, T.sl x827, T.b x824, T.i .i64 x825], T.i .i64 x822, T.i .i64 x837]).bind fun r838 =>
  (c 24 [T.st [T.sl x832, T.i .i64 x829, T.sl x833, T.b x830, T.i .i64 x831], T.i .i64 x822, T.i .i64 x837]).bind fun r839 =>
  bif asB (nth r838 1) then
   bif !(asB (nth r839 1)) then
    some [T.i .i64 0, T.b false]
   else
    bif (asI (T.cell (nth r838 0) 1)) != (asI (T.cell (nth r839 0) 1)) then
     some [T.i .i64 0, T.b false]
    else
     (c 33 [T.sl (asL (T.cell (nth r838 0) 2)), T.sl (asL (T.cell (nth r839 0) 2))]).bind fun r840 =>
     bif !(asB (nth r840 0)) then
      some [T.i .i64 0, T.b false]
     else
      L (IntKind.wrap .i64 (x837 + 1))
  else
   L (IntKind.wrap .i64 (x837 + 1))
 else
  some [T.i .i64 1, T.i .i64 x819, T.i .i64 x820, T.i .i64 x821, T.i .i64 x822, T.i .i64 x823, T.b x824, T.i .i64 x825, T.sl x826, T.sl x827, T.sl x828, T.i .i64 x829, T.b x830, T.i .i64 x831, T.sl x832, T.sl x833]
def f11_1_c (x819 x820 : Int) (x821 x822 x823 : Int) (x824 : Bool) (x825 : Int) (x826 x827 x828 : List T) (x829 : Int) (x830 : Bool) (x831 : Int) (x832 x833 : List T) (x837 : Int) : CSt := ⟨[.bp 1 0, .i .i64 x819, .rf 4 [] 0 none, .bp 5 0, .i .i64 x820, .i .i64 x821, .i .i64 x822, .i .i64 x837], [.dead, .box [.rf 2 [] 0 none, .i .i64 x823, .rf 3 [] 0 none, .b x824, .i .i64 x825], .row true [.sl true [.b, .sl false [.i .u8]], .i .i64, .b] x826 0 false, .row true [.i .i64, .i .i64, .i .i64] x827 0 false, .row false [.i .u8] x828 0 false, .box [.rf 6 [] 0 none, .i .i64 x829, .rf 7 [] 0 none, .b x830, .i .i64 x831], .row true [.sl true [.b, .sl false [.i .u8]], .i .i64, .b] x832 0 false, .row true [.i .i64, .i .i64, .i .i64] x833 0 false]⟩
theorem f11_1_round (c : Orc) (lf : Nat) (x819 x820 : Int) (x821 x822 x823 : Int) (x824 : Bool) (x825 : Int) (x826 x827 x828 : List T) (x829 : Int) (x830 : Bool) (x831 : Int) (x832 x833 : List T) (L : CSt → Option (List T)) (x837 : Int) :
 roundK c env lf 6 fi11 1 12 [] [3, 4, 5, 7, 8, 9, 13, 14] (x11_12_0) L (f11_1_c x819 x820 x821 x822 x823 x824 x825 x826 x827 x828 x829 x830 x831 x832 x833 x837) = f11_1_s c lf x819 x820 x821 x822 x823 x824 x825 x826 x827 x828 x829 x830 x831 x832 x833 (fun x837 => L (f11_1_c x819 x820 x821 x822 x823 x824 x825 x826 x827 x828 x829 x830 x831 x832 x833 x837)) x837 := by kernel_rfl
def f11_1 (c : Orc) (lf : Nat) (x819 x820 : Int) (x821 x822 x823 : Int) (x824 : Bool) (x825 : Int) (x826 x827 x828 : List T) (x829 : Int) (x830 : Bool) (x831 : Int) (x832 x833 : List T) : Nat → Int → Option (List T)
 | 0 => fun _ => none
 | n + 1 => fun x837 => f11_1_s c lf x819 x820 x821 x822 x823 x824 x825 x826 x827 x828 x829 x830 x831 x832 x833 (f11_1 c lf x819 x820 x821 x822 x823 x824 x825 x826 x827 x828 x829 x830 x831 x832 x833 n) x837
theorem f11_1_u (c : Orc) (lf : Nat) (x819 x820 : Int) (x821 x822 x823 : Int) (x824 : Bool) (x825 : Int) (x826 x827 x828 : List T) (x829 : Int) (x830 : Bool) (x831 : Int) (x832 x833 : List T) (n : Nat) (x837 : Int) : f11_1 c lf x819 x820 x821 x822 x823 x824 x825 x826 x827 x828 x829 x830 x831 x832 x833 (n + 1) x837 = f11_1_s c lf x819 x820 x821 x822 x823 x824 x825 x826 x827 x828 x829 x830 x831 x832 x833 (f11_1 c lf x819 x820 x821 x822 x823 x824 x825 x826 x827 x828 x829 x830 x831 x832 x833 n) x837 := rfl
theorem f11_1_eq (c : Orc) (lf : Nat) (x819 x820 : Int) (x821 x822 x823 : Int) (x824 : Bool) (x825 : Int) (x826 x827 x828 : List T) (x829 : Int) (x830 : Bool) (x831 : Int) (x832 x833 : List T) (n : Nat) (x837 : Int) :
 lpK c env lf 6 fi11 1 12 [] [3, 4, 5, 7, 8, 9, 13, 14] (x11_12_0) n (f11_1_c x819 x820 x821 x822 x823 x824 x825 x826 x827 x828 x829 x830 x831 x832 x833 x837) = f11_1 c lf x819 x820 x821 x822 x823 x824 x825 x826 x827 x828 x829 x830 x831 x832 x833 n x837 := by
 induction n generalizing x837 with
 | zero => rfl
 | succ n ih =>
  refine (f11_1_round c lf x819 x820 x821 x822 x823 x824 x825 x826 x827 x828 x829 x830 x831 x832 x833 _ x837).trans ?_
  have e : (fun x837 => lpK c env lf 6 fi11 1 12 [] [3, 4, 5, 7, 8, 9, 13, 14] (x11_12_0) n (f11_1_c x819 x820 x821 x822 x823 x824 x825 x826 x827 x828 x829 x830 x831 x832 x833 x837)) = f11_1 c lf x819 x820 x821 x822 x823 x824 x825 x826 x827 x828 x829 x830 x831 x832 x833 n := by funext x837; exact ih x837
  show f11_1_s c lf x819 x820 x821 x822 x823 x824 x825 x826 x827 x828 x829 x830 x831 x832 x833 (fun x837 => lpK c env lf 6 fi11 1 12 [] [3, 4, 5, 7, 8, 9, 13, 14] (x11_12_0) n (f11_1_c x819 x820 x821 x822 x823 x824 x825 x826 x827 x828 x829 x830 x831 x832 x833 x837)) x837 = _
  rw [e]; rfl
def f11_0_s (c : Orc) (lf : Nat) (L : Int → Int → Int → Int → Int → Bool → Int → List T → List T → List T → Int → Bool → Int → List T → List T → Option (List T)) (lp0 : Int → Int → Int → Int → Int → Bool → Int → List T → List T → List T → Int → Bool → Int → List T → List T → Int → Option (List T)) (x819 x820 : Int) (x821 x822 x823 : Int) (x824 : Bool) (x825 : Int) (x826 x827 x828 : List T) (x829 : Int) (x830 : Bool) (x831 : Int) (x832 x833 : List T) : Option (List T) :=
 bif iLt x822 (IntKind.wrap .i64 ((x826.length : Int) * 8)) then
  (lp0 x819 x820 x821 x822 x823 x824 x825 x826 x827 x828 x829 x830 x831 x832 x833 1).bind fun r841 =>
  bif asI (nth r841 0) == 0 then
   some [T.i .i64 0, T.b (asB (nth r841 1))]
  else
   L (asI (nth r841 1)) (asI (nth r841 2)) (asI (nth r841 3)) (IntKind.wrap .i64 ((asI (nth r841 4)) + 1)) (asI (nth r841 5)) (asB (nth r841 6)) (asI (nth r841 7)) (asL (nth r841 8)) (asL (nth r841 9)) (asL (nth r841 10)) (asI (nth r841 11)) (asB (nth r841 12)) (asI (nth r841 13)) (asL (nth r841 14)) (asL (nth r841 15))
 else
  some [T.i .i64 1, T.i .i64 x819, T.i .i64 x820, T.i .i64 x821, T.i .i64 x823, T.b x824, T.i .i64 x825, T.sl x826, T.sl x827, T.sl x828, T.i .i64 x829, T.b x830, T.i .i64 x831, T.sl x832, T.sl x833]
def f11_0_c (x819 x820 : Int) (x821 x822 x823 : Int) (x824 : Bool) (x825 : Int) (x826 x827 x828 : List T) (x829 : Int) (x830 : Bool) (x831 : Int) (x832 x833 : List T) : CSt := ⟨[.bp 1 0, .i .i64 x819, .rf 4 [] 0 none, .bp 5 0, .i .i64 x820, .i .i64 x821, .i .i64 x822], [.dead, .box [.rf 2 [] 0 none, .i .i64 x823, .rf 3 [] 0 none, .b x824, .i .i64 x825], .row true [.sl true [.b, .sl false [.i .u8]], .i .i64, .b] x826 0 false, .row true [.i .i64, .i .i64, .i .i64] x827 0 false, .row false [.i .u8] x828 0 false, .box [.rf 6 [] 0 none, .i .i64 x829, .rf 7 [] 0 none, .b x830, .i .i64 x831], .row true [.sl true [.b, .sl false [.i .u8]], .i .i64, .b] x832 0 false, .row true [.i .i64, .i .i64, .i .i64] x833 0 false]⟩
theorem f11_0_round (c : Orc) (lf : Nat) (L : CSt → Option (List T)) (x819 x820 : Int) (x821 x822 x823 : Int) (x824 : Bool) (x825 : Int) (x826 x827 x828 : List T) (x829 : Int) (x830 : Bool) (x831 : Int) (x832 x833 : List T) :
 roundK c env lf 6 fi11 1 9 [] [3, 4, 5, 7, 8, 9, 13] (x11_9_0) L (f11_0_c x819 x820 x821 x822 x823 x824 x825 x826 x827 x828 x829 x830 x831 x832 x833) = f11_0_s c lf (fun x819 x820 x821 x822 x823 x824 x825 x826 x827 x828 x829 x830 x831 x832 x833 => L (f11_0_c x819 x820 x821 x822 x823 x824 x825 x826 x827 x828 x829 x830 x831 x832 x833)) (fun (x819 x820 : Int) (x821 x822 x823 : Int) (x824 : Bool) (x825 : Int) (x826 x827 x828 : List T) (x829 : Int) (x830 : Bool) (x831 : Int) (x832 x833 : List T) (x837 : Int) => lpK c env lf 6 fi11 1 12 [] [3, 4, 5, 7, 8, 9, 13, 14] (x11_12_0) lf (f11_1_c x819 x820 x821 x822 x823 x824 x825 x826 x827 x828 x829 x830 x831 x832 x833 x837)) x819 x820 x821 x822 x823 x824 x825 x826 x827 x828 x829 x830 x831 x832 x833 := by kernel_rfl
def f11_0 (c : Orc) (lf : Nat) : Nat → Int → Int → Int → Int → Int → Bool → Int → List T → List T → List T → Int → Bool → Int → List T → List T → Option (List T)
 | 0 => fun _ _ _ _ _ _ _ _ _ _ _ _ _ _ _ => none
 | n + 1 => fun x819 x820 x821 x822 x823 x824 x825 x826 x827 x828 x829 x830 x831 x832 x833 => f11_0_s c lf (f11_0 c lf n) (fun (x819 x820 : Int) (x821 x822 x823 : Int) (x824 : Bool) (x825 : Int) (x826 x827 x828 : List T) (x829 : Int) (x830 : Bool) (x831 : Int) (x832 x833 : List T) (x837 : Int) => f11_1 c lf x819 x820 x821 x822 x823 x824 x825 x826 x827 x828 x829 x830 x831 x832 x833 lf x837) x819 x820 x821 x822 x823 x824 x825 x826 x827 x828 x829 x830 x831 x832 x833
theorem f11_0_u (c : Orc) (lf n : Nat) (x819 x820 : Int) (x821 x822 x823 : Int) (x824 : Bool) (x825 : Int) (x826 x827 x828 : List T) (x829 : Int) (x830 : Bool) (x831 : Int) (x832 x833 : List T) : f11_0 c lf (n + 1) x819 x820 x821 x822 x823 x824 x825 x826 x827 x828 x829 x830 x831 x832 x833 = f11_0_s c lf (f11_0 c lf n) (fun (x819 x820 : Int) (x821 x822 x823 : Int) (x824 : Bool) (x825 : Int) (x826 x827 x828 : List T) (x829 : Int) (x830 : Bool) (x831 : Int) (x832 x833 : List T) (x837 : Int) => f11_1 c lf x819 x820 x821 x822 x823 x824 x825 x826 x827 x828 x829 x830 x831 x832 x833 lf x837) x819 x820 x821 x822 x823 x824 x825 x826 x827 x828 x829 x830 x831 x832 x833 := rfl
theorem f11_0_eq (c : Orc) (lf n : Nat) (x819 x820 : Int) (x821 x822 x823 : Int) (x824 : Bool) (x825 : Int) (x826 x827 x828 : List T) (x829 : Int) (x830 : Bool) (x831 : Int) (x832 x833 : List T) :
 lpK c env lf 6 fi11 1 9 [] [3, 4, 5, 7, 8, 9, 13] (x11_9_0) n (f11_0_c x819 x820 x821 x822 x823 x824 x825 x826 x827 x828 x829 x830 x831 x832 x833) = f11_0 c lf n x819 x820 x821 x822 x823 x824 x825 x826 x827 x828 x829 x830 x831 x832 x833 := by
 induction n generalizing x819 x820 x821 x822 x823 x824 x825 x826 x827 x828 x829 x830 x831 x832 x833 with
 | zero => rfl
 | succ n ih =>
  refine (f11_0_round c lf _ x819 x820 x821 x822 x823 x824 x825 x826 x827 x828 x829 x830 x831 x832 x833).trans ?_
  have e : (fun x819 x820 x821 x822 x823 x824 x825 x826 x827 x828 x829 x830 x831 x832 x833 => lpK c env lf 6 fi11 1 9 [] [3, 4, 5, 7, 8, 9, 13] (x11_9_0) n (f11_0_c x819 x820 x821 x822 x823 x824 x825 x826 x827 x828 x829 x830 x831 x832 x833)) = f11_0 c lf n := by funext x819 x820 x821 x822 x823 x824 x825 x826 x827 x828 x829 x830 x831 x832 x833; exact ih x819 x820 x821 x822 x823 x824 x825 x826 x827 x828 x829 x830 x831 x832 x833
  have e0 : (fun (x819 x820 : Int) (x821 x822 x823 : Int) (x824 : Bool) (x825 : Int) (x826 x827 x828 : List T) (x829 : Int) (x830 : Bool) (x831 : Int) (x832 x833 : List T) (x837 : Int) => lpK c env lf 6 fi11 1 12 [] [3, 4, 5, 7, 8, 9, 13, 14] (x11_12_0) lf (f11_1_c x819 x820 x821 x822 x823 x824 x825 x826 x827 x828 x829 x830 x831 x832 x833 x837)) = (fun (x819 x820 : Int) (x821 x822 x823 : Int) (x824 : Bool) (x825 : Int) (x826 x827 x828 : List T) (x829 : Int) (x830 : Bool) (x831 : Int) (x832 x833 : List T) (x837 : Int) => f11_1 c lf x819 x820 x821 x822 x823 x824 x825 x826 x827 x828 x829 x830 x831 x832 x833 lf x837) := by funext x819 x820 x821 x822 x823 x824 x825 x826 x827 x828 x829 x830 x831 x832 x833 x837; exact f11_1_eq c lf x819 x820 x821 x822 x823 x824 x825 x826 x827 x828 x829 x830 x831 x832 x833 lf x837
  show f11_0_s c lf (fun x819 x820 x821 x822 x823 x824 x825 x826 x827 x828 x829 x830 x831 x832 x833 => lpK c env lf 6 fi11 1 9 [] [3, 4, 5, 7, 8, 9, 13] (x11_9_0) n (f11_0_c x819 x820 x821 x822 x823 x824 x825 x826 x827 x828 x829 x830 x831 x832 x833)) (fun (x819 x820 : Int) (x821 x822 x823 : Int) (x824 : Bool) (x825 : Int) (x826 x827 x828 : List T) (x829 : Int) (x830 : Bool) (x831 : Int) (x832 x833 : List T) (x837 : Int) => lpK c env lf 6 fi11 1 12 [] [3, 4, 5, 7, 8, 9, 13, 14] (x11_12_0) lf (f11_1_c x819 x820 x821 x822 x823 x824 x825 x826 x827 x828 x829 x830 x831 x832 x833 x837)) x819 x820 x821 x822 x823 x824 x825 x826 x827 x828 x829 x830 x831 x832 x833 = _
  rw [e, e0]; rfl
def f11_t (c : Orc) (lf : Nat) (lp0 : Int → Int → Int → Int → Int → Bool → Int → List T → List T → List T → Int → Bool → Int → List T → List T → Option (List T)) (l0 : List T) : Option (List T) :=
 (c 29 [T.sl l0]).bind fun r806 =>
 bif asB (nth r806 0) then
  some [T.b true]
 else
  (c 51 [T.sl l0]).bind fun r807 =>
  (c 32 [T.st [T.sl (asL (T.cell (nth r807 0) 0)), T.i .i64 (asI (T.cell (nth r807 0) 1)), T.sl (asL (T.cell (nth r807 0) 2)), T.b (asB (T.cell (nth r807 0) 3)), T.i .i64 (asI (T.cell (nth r807 0) 4))], T.i .i64 (asI (nth r807 1)), T.sl (asL (nth r807 2)), T.i .i64 (asI (nth r807 3))]).bind fun r808 =>
  (c 46 [T.st [T.sl (asL (T.cell (nth r807 0) 0)), T.i .i64 (asI (T.cell (nth r807 0) 1)), T.sl (asL (T.cell (nth r807 0) 2)), T.b (asB (T.cell (nth r807 0) 3)), T.i .i64 (asI (T.cell (nth r807 0) 4))], T.i .i64 (asI (nth r807 1)), T.sl (asL (nth r807 2)), T.i .i64 (asI (nth r807 3))]).bind fun r809 =>
  bif (asI (nth r808 2)) != (asI (nth r809 2)) then
   some [T.b false]
  else
   bif (asI (nth r808 1)) != (asI (nth r809 1)) then
    some [T.b false]
   else
    bif (asI (T.cell (nth r808 0) 4)) != (asI (T.cell (nth r809 0) 4)) then
     some [T.b false]
    else
     (c 52 [T.st [T.sl (asL (T.cell (nth r808 0) 0))], T.st [T.sl (asL (T.cell (nth r809 0) 0))]]).bind fun r810 =>
     bif !(asB (nth r810 0)) then
      some [T.b false]
     else
      (lp0 (asI (nth r807 1)) (asI (nth r808 1)) (asI (nth r808 2)) 0 (asI (T.cell (nth r807 0) 1)) (asB (T.cell (nth r807 0) 3)) (asI (T.cell (nth r807 0) 4)) (asL (T.cell (nth r807 0) 0)) (asL (T.cell (nth r807 0) 2)) (asL (nth r807 2)) (asI (T.cell (nth r808 0) 1)) (asB (T.cell (nth r808 0) 3)) (asI (T.cell (nth r808 0) 4)) (asL (T.cell (nth r808 0) 0)) (asL (T.cell (nth r808 0) 2))).bind fun r842 =>
      bif asI (nth r842 0) == 0 then
       some [T.b (asB (nth r842 1))]
      else
       bif (asI (nth r842 3)) != 0 then
        some [T.b ((asI (nth r842 2)) == (-1))]
       else
        (c 24 [T.st [T.sl (asL (nth r842 13)), T.i .i64 (asI (nth r842 10)), T.sl (asL (nth r842 14)), T.b (asB (nth r842 11)), T.i .i64 (asI (nth r842 12))], T.i .i64 (asI (nth r842 2)), T.i .i64 (asI (nth r842 1))]).bind fun r843 =>
        bif asB (nth r843 1) then
         bif (asI (T.cell (nth r843 0) 1)) == (asI (nth r842 6)) then
          (c 33 [T.sl (asL (T.cell (nth r843 0) 2)), T.sl (asL (nth r842 9))]).bind fun r844 =>
          bif asB (nth r844 0) then
           bif (asI (nth r842 12)) == (IntKind.wrap .i64 ((asI (nth r842 6)) + 1)) then
            (c 19 [T.st [T.sl (asL (nth r842 7)), T.i .i64 (asI (nth r842 4)), T.sl (asL (nth r842 8)), T.b (asB (nth r842 5)), T.i .i64 (asI (nth r842 6))]]).bind fun r845 =>
            bif !(asB (nth r845 0)) then
             some [T.b true]
            else
             (c 21 [T.st [T.sl (asL (nth r842 13)), T.i .i64 (asI (nth r842 10)), T.sl (asL (nth r842 14)), T.b (asB (nth r842 11)), T.i .i64 (asI (nth r842 12))]]).bind fun r846 =>
             some [T.b (asB (nth r846 0))]
           else
            some [T.b false]
          else
           some [T.b false]
         else
          some [T.b false]
        else
         some [T.b false]
def f11 (c : Orc) (lf : Nat) (l0 : List T) : Option (List T) := f11_t c lf (fun (x819 x820 : Int) (x821 x822 x823 : Int) (x824 : Bool) (x825 : Int) (x826 x827 x828 : List T) (x829 : Int) (x830 : Bool) (x831 : Int) (x832 x833 : List T) => f11_0 c lf lf x819 x820 x821 x822 x823 x824 x825 x826 x827 x828 x829 x830 x831 x832 x833) l0
theorem f11_raw (c : Orc) (lf : Nat) (l0 : List T) : funK c env lf 6 fi11 [.sl l0] = f11_t c lf (fun (x819 x820 : Int) (x821 x822 x823 : Int) (x824 : Bool) (x825 : Int) (x826 x827 x828 : List T) (x829 : Int) (x830 : Bool) (x831 : Int) (x832 x833 : List T) => lpK c env lf 6 fi11 1 9 [] [3, 4, 5, 7, 8, 9, 13] (x11_9_0) lf (f11_0_c x819 x820 x821 x822 x823 x824 x825 x826 x827 x828 x829 x830 x831 x832 x833)) l0 := by kernel_rfl
theorem f11_eq (c : Orc) (lf : Nat) (l0 : List T) : funK c env lf 6 fi11 [.sl l0] = f11 c lf l0 := by
 refine (f11_raw c lf l0).trans ?_
 have e0 : (fun (x819 x820 : Int) (x821 x822 x823 : Int) (x824 : Bool) (x825 : Int) (x826 x827 x828 : List T) (x829 : Int) (x830 : Bool) (x831 : Int) (x832 x833 : List T) => lpK c env lf 6 fi11 1 9 [] [3, 4, 5, 7, 8, 9, 13] (x11_9_0) lf (f11_0_c x819 x820 x821 x822 x823 x824 x825 x826 x827 x828 x829 x830 x831 x832 x833)) = (fun (x819 x820 : Int) (x821 x822 x823 : Int) (x824 : Bool) (x825 : Int) (x826 x827 x828 : List T) (x829 : Int) (x830 : Bool) (x831 : Int) (x832 x833 : List T) => f11_0 c lf lf x819 x820 x821 x822 x823 x824 x825 x826 x827 x828 x829 x830 x831 x832 x833) := by funext x819 x820 x821 x822 x823 x824 x825 x826 x827 x828 x829 x830 x831 x832 x833; exact f11_0_eq c lf lf x819 x820 x821 x822 x823 x824 x825 x826 x827 x828 x829 x830 x831 x832 x833
 rw [e0]; rfl
end Go.Proofs.Ytdclnhlpifahpaa.T
