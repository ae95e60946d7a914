/- What functions of the law FnExactSameTree come to, in trees; no condition. -/
import Derived.Test.YtncfoonahkieoaaGreatDoorRows
import Derived.Test.YtncfoonahkieoaaGreatDoorX0
import Derived.KernelRfl
set_option linter.unusedVariables false
set_option linter.constructorNameAsVariable false
set_option linter.unusedSimpArgs false
set_option linter.unnecessarySimpa false
namespace Go.Proofs.YtncfoonahkieoaaGreatDoor.T
open Go Go.Proofs.YtncfoonahkieoaaGreatDoorV
theorem f11_0_eq (c : Orc) (lf n : Nat) (x690 x691 : Int) (x692 : List T) (x693 : Int) (x694 x695 : List T) :
 lpK c env lf 6 fi11 2 3 [] [1, 3, 15, 16, 17] (x11_3_0) n (f11_0_c x690 x691 x692 x693 x694 x695) = f11_0 c lf n x690 x691 x692 x693 x694 x695 := by
 induction n generalizing x690 x691 x692 x693 x694 x695 with
 | zero => rfl
 | succ n ih =>
  refine (f11_0_round c lf _ x690 x691 x692 x693 x694 x695).trans ?_
  have e : (fun x690 x691 x692 x693 x694 x695 => lpK c env lf 6 fi11 2 3 [] [1, 3, 15, 16, 17] (x11_3_0) n (f11_0_c x690 x691 x692 x693 x694 x695)) = f11_0 c lf n := by funext x690 x691 x692 x693 x694 x695; exact ih x690 x691 x692 x693 x694 x695
  have e0 : (fun (r696 : List T) (x690 x691 : Int) (x692 : List T) (x693 : Int) (x694 x695 : List T) (x698 : Int) => lpK c env lf 6 fi11 2 8 [] [1, 3, 5, 6, 8, 15, 16, 17, 28, 29, 30] (x11_8_0) lf (f11_1_c r696 x690 x691 x692 x693 x694 x695 x698)) = (fun (r696 : List T) (x690 x691 : Int) (x692 : List T) (x693 : Int) (x694 x695 : List T) (x698 : Int) => f11_1 c lf r696 x690 x691 x692 x693 x694 x695 lf x698) := by funext r696 x690 x691 x692 x693 x694 x695 x698; exact f11_1_eq c lf r696 x690 x691 x692 x693 x694 x695 lf x698
  show f11_0_s c lf (fun x690 x691 x692 x693 x694 x695 => lpK c env lf 6 fi11 2 3 [] [1, 3, 15, 16, 17] (x11_3_0) n (f11_0_c x690 x691 x692 x693 x694 x695)) (fun (r696 : List T) (x690 x691 : Int) (x692 : List T) (x693 : Int) (x694 x695 : List T) (x698 : Int) => lpK c env lf 6 fi11 2 8 [] [1, 3, 5, 6, 8, 15, 16, 17, 28, 29, 30] (x11_8_0) lf (f11_1_c r696 x690 x691 x692 x693 x694 x695 x698)) x690 x691 x692 x693 x694 x695 = _
  rw [e, e0]; rfl
def f11_t (c : Orc) (lf : Nat) (lp0 : Int → Int → List T → Int → List T → List T → Option (List T)) (l0_0 : List T) (n0_1 : Int) : Option (List T) :=
 (c 31 [T.st [T.sl l0_0, T.i .i64 n0_1]]).bind fun r684 =>
 (lp0 ((asL (nth r684 0)).length : Int) 0 l0_0 n0_1 ([] : List T) (asL (nth r684 0))).bind fun r701 =>
 some [T.sl (asL (nth r701 1))]
def f11 (c : Orc) (lf : Nat) (l0_0 : List T) (n0_1 : Int) : Option (List T) := f11_t c lf (fun (x690 x691 : Int) (x692 : List T) (x693 : Int) (x694 x695 : List T) => f11_0 c lf lf x690 x691 x692 x693 x694 x695) l0_0 n0_1
theorem f11_raw (c : Orc) (lf : Nat) (l0_0 : List T) (n0_1 : Int) : funK c env lf 6 fi11 [.st [.sl l0_0, .i .i64 n0_1]] = f11_t c lf (fun (x690 x691 : Int) (x692 : List T) (x693 : Int) (x694 x695 : List T) => lpK c env lf 6 fi11 2 3 [] [1, 3, 15, 16, 17] (x11_3_0) lf (f11_0_c x690 x691 x692 x693 x694 x695)) l0_0 n0_1 := by kernel_rfl
theorem f11_eq (c : Orc) (lf : Nat) (l0_0 : List T) (n0_1 : Int) : funK c env lf 6 fi11 [.st [.sl l0_0, .i .i64 n0_1]] = f11 c lf l0_0 n0_1 := by
 refine (f11_raw c lf l0_0 n0_1).trans ?_
 have e0 : (fun (x690 x691 : Int) (x692 : List T) (x693 : Int) (x694 x695 : List T) => lpK c env lf 6 fi11 2 3 [] [1, 3, 15, 16, 17] (x11_3_0) lf (f11_0_c x690 x691 x692 x693 x694 x695)) = (fun (x690 x691 : Int) (x692 : List T) (x693 : Int) (x694 x695 : List T) => f11_0 c lf lf x690 x691 x692 x693 x694 x695) := by funext x690 x691 x692 x693 x694 x695; exact f11_0_eq c lf lf x690 x691 x692 x693 x694 x695
 rw [e0]; rfl
def f25_0_s (c : Orc) (lf : Nat) (l0 l1 : List T) (L : Int → Option (List T)) (x713 : Int) : Option (List T) :=
 bif iLt x713 (l0.length : Int) then
  bif inR x713 l0.length then
  bif inR x713 l1.length then
  (c 26 [T.st [T.s (asS (T.cell (l0.getD x713.toNat T.u) 0)), T.i .i64 (asI (T.cell (l0.getD x713.toNat T.u) 1)), T.sl (asL (T.cell (l0.getD x713.toNat T.u) 2)), T.sl (asL (T.cell (l0.getD x713.toNat T.u) 3)), T.s (asS (T.cell (l0.getD x713.toNat T.u) 4))], T.st [T.s (asS (T.cell (l1.getD x713.toNat T.u) 0)), T.i .i64 (asI (T.cell (l1.getD x713.toNat T.u) 1)), T.sl (asL (T.cell (l1.getD x713.toNat T.u) 2)), T.sl (asL (T.cell (l1.getD x713.toNat T.u) 3)), T.s (asS (T.cell (l1.getD x713.toNat T.u) 4))]]).bind fun r714 =>
  bif !(asB (nth r714 0)) then
   some [T.i .i64 0, T.b false]
  else
   L (IntKind.wrap .i64 (x713 + 1))
  else none
  else none
 else
  some [T.i .i64 1]
def f25_0_c (l0 l1 : List T) (x713 : Int) : CSt := ⟨[.ro 0 true [.s, .i .i64, .sl false [.i .u8], .sl true [.s, .s], .s] l1, .fn 26 [], .ro 0 true [.s, .i .i64, .sl false [.i .u8], .sl true [.s, .s], .s] l0, .i .i64 (l0.length : Int), .i .i64 x713], [.dead, .dead, .dead]⟩
theorem f25_0_round (c : Orc) (lf : Nat) (l0 l1 : List T) (L : CSt → Option (List T)) (x713 : Int) :
 qa8 c env lf 6 fi25 3 4 [] [1, 2, 15, 16, 17] (x25_4_0) L (f25_0_c l0 l1 x713) = f25_0_s c lf l0 l1 (fun x713 => L (f25_0_c l0 l1 x713)) x713 := by kernel_rfl
def f25_0 (c : Orc) (lf : Nat) (l0 l1 : List T) : Nat → Int → Option (List T)
 | 0 => fun _ => none
 | n + 1 => fun x713 => f25_0_s c lf l0 l1 (f25_0 c lf l0 l1 n) x713
theorem f25_0_u (c : Orc) (lf : Nat) (l0 l1 : List T) (n : Nat) (x713 : Int) : f25_0 c lf l0 l1 (n + 1) x713 = f25_0_s c lf l0 l1 (f25_0 c lf l0 l1 n) x713 := rfl
theorem f25_0_eq (c : Orc) (lf : Nat) (l0 l1 : List T) (n : Nat) (x713 : Int) :
 lpK c env lf 6 fi25 3 4 [] [1, 2, 15, 16, 17] (x25_4_0) n (f25_0_c l0 l1 x713) = f25_0 c lf l0 l1 n x713 := by
 induction n generalizing x713 with
 | zero => rfl
 | succ n ih =>
  refine (f25_0_round c lf l0 l1 _ x713).trans ?_
  have e : (fun x713 => lpK c env lf 6 fi25 3 4 [] [1, 2, 15, 16, 17] (x25_4_0) n (f25_0_c l0 l1 x713)) = f25_0 c lf l0 l1 n := by funext x713; exact ih x713
  show f25_0_s c lf l0 l1 (fun x713 => lpK c env lf 6 fi25 3 4 [] [1, 2, 15, 16, 17] (x25_4_0) n (f25_0_c l0 l1 x713)) x713 = _
  rw [e]; rfl
def f25_t (c : Orc) (lf : Nat) (lp0 : List T → List T → Int → Option (List T)) (l0 : List T) (l1 : List T) : Option (List T) :=
 bif (l0.length : Int) != (l1.length : Int) then
  some [T.b false]
 else
  (lp0 l0 l1 0).bind fun r715 =>
  bif asI (nth r715 0) == 0 then
   some [T.b (asB (nth r715 1))]
  else
   some [T.b true]
def f25 (c : Orc) (lf : Nat) (l0 l1 : List T) : Option (List T) := f25_t c lf (fun (l0 l1 : List T) (x713 : Int) => f25_0 c lf l0 l1 lf x713) l0 l1
theorem f25_raw (c : Orc) (lf : Nat) (l0 l1 : List T) : funK c env lf 6 fi25 [.sl l0, .sl l1, .u] = f25_t c lf (fun (l0 l1 : List T) (x713 : Int) => lpK c env lf 6 fi25 3 4 [] [1, 2, 15, 16, 17] (x25_4_0) lf (f25_0_c l0 l1 x713)) l0 l1 := by kernel_rfl
theorem f25_eq (c : Orc) (lf : Nat) (l0 l1 : List T) : funK c env lf 6 fi25 [.sl l0, .sl l1, .u] = f25 c lf l0 l1 := by
 refine (f25_raw c lf l0 l1).trans ?_
 have e0 : (fun (l0 l1 : List T) (x713 : Int) => lpK c env lf 6 fi25 3 4 [] [1, 2, 15, 16, 17] (x25_4_0) lf (f25_0_c l0 l1 x713)) = (fun (l0 l1 : List T) (x713 : Int) => f25_0 c lf l0 l1 lf x713) := by funext l0 l1 x713; exact f25_0_eq c lf l0 l1 lf x713
 rw [e0]; rfl
def f54_0_s (c : Orc) (lf : Nat) (l0 l1 : List T) (L : Int → Option (List T)) (x704 : Int) : Option (List T) :=
 bif iLt x704 (l0.length : Int) then
  bif inR x704 l0.length then
  bif inR x704 l1.length then
  bif (asI (l0.getD x704.toNat T.u)) != (asI (l1.getD x704.toNat T.u)) then
   some [T.i .i64 0, T.b false]
  else
   L (IntKind.wrap .i64 (x704 + 1))
  else none
  else none
 else
  some [T.i .i64 1]
def f54_0_c (l0 l1 : List T) (x704 : Int) : CSt := ⟨[.ro 0 false [.i .u8] l0, .ro 0 false [.i .u8] l1, .i .i64 (l0.length : Int), .i .i64 x704], [.dead, .dead]⟩
theorem f54_0_round (c : Orc) (lf : Nat) (l0 l1 : List T) (L : CSt → Option (List T)) (x704 : Int) :
 qa8 c env lf 6 fi54 2 4 [] [0, 1, 12, 13] (x54_4_0) L (f54_0_c l0 l1 x704) = f54_0_s c lf l0 l1 (fun x704 => L (f54_0_c l0 l1 x704)) x704 := by kernel_rfl
def f54_0 (c : Orc) (lf : Nat) (l0 l1 : List T) : Nat → Int → Option (List T)
 | 0 => fun _ => none
 | n + 1 => fun x704 => f54_0_s c lf l0 l1 (f54_0 c lf l0 l1 n) x704
theorem f54_0_u (c : Orc) (lf : Nat) (l0 l1 : List T) (n : Nat) (x704 : Int) : f54_0 c lf l0 l1 (n + 1) x704 = f54_0_s c lf l0 l1 (f54_0 c lf l0 l1 n) x704 := rfl
theorem f54_0_eq (c : Orc) (lf : Nat) (l0 l1 : List T) (n : Nat) (x704 : Int) :
 lpK c env lf 6 fi54 2 4 [] [0, 1, 12, 13] (x54_4_0) n (f54_0_c l0 l1 x704) = f54_0 c lf l0 l1 n x704 := by
 induction n generalizing x704 with
 | zero => rfl
 | succ n ih =>
  refine (f54_0_round c lf l0 l1 _ x704).trans ?_
  have e : (fun x704 => lpK c env lf 6 fi54 2 4 [] [0, 1, 12, 13] (x54_4_0) n (f54_0_c l0 l1 x704)) = f54_0 c lf l0 l1 n := by funext x704; exact ih x704
  show f54_0_s c lf l0 l1 (fun x704 => lpK c env lf 6 fi54 2 4 [] [0, 1, 12, 13] (x54_4_0) n (f54_0_c l0 l1 x704)) x704 = _
  rw [e]; rfl
def f54_t (c : Orc) (lf : Nat) (lp0 : List T → List T → Int → Option (List T)) (l0 : List T) (l1 : List T) : Option (List T) :=
 bif (l0.length : Int) != (l1.length : Int) then
  some [T.b false]
 else
  (lp0 l0 l1 0).bind fun r705 =>
  bif asI (nth r705 0) == 0 then
   some [T.b (asB (nth r705 1))]
  else
   some [T.b true]
def f54 (c : Orc) (lf : Nat) (l0 l1 : List T) : Option (List T) := f54_t c lf (fun (l0 l1 : List T) (x704 : Int) => f54_0 c lf l0 l1 lf x704) l0 l1
theorem f54_raw (c : Orc) (lf : Nat) (l0 l1 : List T) : funK c env lf 6 fi54 [.sl l0, .sl l1] = f54_t c lf (fun (l0 l1 : List T) (x704 : Int) => lpK c env lf 6 fi54 2 4 [] [0, 1, 12, 13] (x54_4_0) lf (f54_0_c l0 l1 x704)) l0 l1 := by kernel_rfl
theorem f54_eq (c : Orc) (lf : Nat) (l0 l1 : List T) : funK c env lf 6 fi54 [.sl l0, .sl l1] = f54 c lf l0 l1 := by
 refine (f54_raw c lf l0 l1).trans ?_
 have e0 : (fun (l0 l1 : List T) (x704 : Int) => lpK c env lf 6 fi54 2 4 [] [0, 1, 12, 13] (x54_4_0) lf (f54_0_c l0 l1 x704)) = (fun (l0 l1 : List T) (x704 : Int) => f54_0 c lf l0 l1 lf x704) := by funext l0 l1 x704; exact f54_0_eq c lf l0 l1 lf x704
 rw [e0]; rfl
def f26_t (c : Orc) (lf : Nat) (s0_0 : ByteArray) (n0_1 : Int) (l0_2 l0_3 : List T) (s0_4 s1_0 : ByteArray) (n1_1 : Int) (l1_2 l1_3 : List T) (s1_4 : ByteArray) : Option (List T) :=
 bif s0_0.toList == s1_0.toList then
  bif s0_4.toList == s1_4.toList then
   bif n0_1 == n1_1 then
    (c 54 [T.sl l0_2, T.sl l1_2]).bind fun r706 =>
    bif asB (nth r706 0) then
     (c 24 [T.sl l0_3, T.sl l1_3]).bind fun r707 =>
     some [T.b (asB (nth r707 0))]
    else
     some [T.b false]
   else
    some [T.b false]
  else
   some [T.b false]
 else
  some [T.b false]
def f26 (c : Orc) (lf : Nat) (s0_0 : ByteArray) (n0_1 : Int) (l0_2 l0_3 : List T) (s0_4 s1_0 : ByteArray) (n1_1 : Int) (l1_2 l1_3 : List T) (s1_4 : ByteArray) : Option (List T) := f26_t c lf s0_0 n0_1 l0_2 l0_3 s0_4 s1_0 n1_1 l1_2 l1_3 s1_4
theorem f26_eq (c : Orc) (lf : Nat) (s0_0 : ByteArray) (n0_1 : Int) (l0_2 l0_3 : List T) (s0_4 s1_0 : ByteArray) (n1_1 : Int) (l1_2 l1_3 : List T) (s1_4 : ByteArray) : funK c env lf 6 fi26 [.st [.s s0_0, .i .i64 n0_1, .sl l0_2, .sl l0_3, .s s0_4], .st [.s s1_0, .i .i64 n1_1, .sl l1_2, .sl l1_3, .s s1_4]] = f26 c lf s0_0 n0_1 l0_2 l0_3 s0_4 s1_0 n1_1 l1_2 l1_3 s1_4 := by kernel_rfl
def f8_t (c : Orc) (lf : Nat) (l0_0 : List T) (n0_1 : Int) (l1_0 : List T) (n1_1 : Int) : Option (List T) :=
 (c 22 [T.st [T.sl l0_0, T.i .i64 n0_1]]).bind fun r716 =>
 bif !(asB (nth r716 0)) then
  some [T.b false]
 else
  (c 22 [T.st [T.sl l1_0, T.i .i64 n1_1]]).bind fun r717 =>
  bif !(asB (nth r717 0)) then
   some [T.b false]
  else
   (c 23 [T.st [T.sl l0_0, T.i .i64 n0_1], T.i .i64 1]).bind fun r718 =>
   (c 23 [T.st [T.sl l1_0, T.i .i64 n1_1], T.i .i64 1]).bind fun r719 =>
   (c 24 [T.sl (asL (T.cell (nth r718 0) 5)), T.sl (asL (T.cell (nth r719 0) 5))]).bind fun r720 =>
   bif asB (nth r720 0) then
    (c 11 [T.st [T.sl l0_0, T.i .i64 n0_1]]).bind fun r721 =>
    (c 11 [T.st [T.sl l1_0, T.i .i64 n1_1]]).bind fun r722 =>
    (c 25 [T.sl (asL (nth r721 0)), T.sl (asL (nth r722 0)), T.u]).bind fun r723 =>
    some [T.b (asB (nth r723 0))]
   else
    some [T.b false]
def f8 (c : Orc) (lf : Nat) (l0_0 : List T) (n0_1 : Int) (l1_0 : List T) (n1_1 : Int) : Option (List T) := f8_t c lf l0_0 n0_1 l1_0 n1_1
theorem f8_eq (c : Orc) (lf : Nat) (l0_0 : List T) (n0_1 : Int) (l1_0 : List T) (n1_1 : Int) : funK c env lf 6 fi8 [.st [.sl l0_0, .i .i64 n0_1], .st [.sl l1_0, .i .i64 n1_1]] = f8 c lf l0_0 n0_1 l1_0 n1_1 := by kernel_rfl
def f63_0_s (c : Orc) (lf : Nat) (l0 l1 : List T) (L : Int → Option (List T)) (x726 : Int) : Option (List T) :=
 bif iLt x726 (l0.length : Int) then
  bif inR x726 l0.length then
  bif inR x726 l1.length then
  bif (asI (l0.getD x726.toNat T.u)) != (asI (l1.getD x726.toNat T.u)) then
   some [T.i .i64 0, T.b false]
  else
   L (IntKind.wrap .i64 (x726 + 1))
  else none
  else none
 else
  some [T.i .i64 1]
def f63_0_c (l0 l1 : List T) (x726 : Int) : CSt := ⟨[.ro 0 false [.i .u8] l0, .ro 0 false [.i .u8] l1, .i .i64 x726], [.dead, .dead]⟩
theorem f63_0_round (c : Orc) (lf : Nat) (l0 l1 : List T) (L : CSt → Option (List T)) (x726 : Int) :
 qa8 c env lf 6 fi63 2 4 [] [0, 1, 5] (x63_4_0) L (f63_0_c l0 l1 x726) = f63_0_s c lf l0 l1 (fun x726 => L (f63_0_c l0 l1 x726)) x726 := by kernel_rfl
def f63_0 (c : Orc) (lf : Nat) (l0 l1 : List T) : Nat → Int → Option (List T)
 | 0 => fun _ => none
 | n + 1 => fun x726 => f63_0_s c lf l0 l1 (f63_0 c lf l0 l1 n) x726
theorem f63_0_eq (c : Orc) (lf : Nat) (l0 l1 : List T) (n : Nat) (x726 : Int) :
 lpK c env lf 6 fi63 2 4 [] [0, 1, 5] (x63_4_0) n (f63_0_c l0 l1 x726) = f63_0 c lf l0 l1 n x726 := by
 induction n generalizing x726 with
 | zero => rfl
 | succ n ih =>
  refine (f63_0_round c lf l0 l1 _ x726).trans ?_
  have e : (fun x726 => lpK c env lf 6 fi63 2 4 [] [0, 1, 5] (x63_4_0) n (f63_0_c l0 l1 x726)) = f63_0 c lf l0 l1 n := by funext x726; exact ih x726
  show f63_0_s c lf l0 l1 (fun x726 => lpK c env lf 6 fi63 2 4 [] [0, 1, 5] (x63_4_0) n (f63_0_c l0 l1 x726)) x726 = _
  rw [e]; rfl
def f63_t (c : Orc) (lf : Nat) (lp0 : List T → List T → Int → Option (List T)) (l0 : List T) (l1 : List T) : Option (List T) :=
 bif (l0.length : Int) != (l1.length : Int) then
  some [T.b false]
 else
  (lp0 l0 l1 0).bind fun r727 =>
  bif asI (nth r727 0) == 0 then
   some [T.b (asB (nth r727 1))]
  else
   some [T.b true]
def f63 (c : Orc) (lf : Nat) (l0 l1 : List T) : Option (List T) := f63_t c lf (fun (l0 l1 : List T) (x726 : Int) => f63_0 c lf l0 l1 lf x726) l0 l1
theorem f63_raw (c : Orc) (lf : Nat) (l0 l1 : List T) : funK c env lf 6 fi63 [.sl l0, .sl l1] = f63_t c lf (fun (l0 l1 : List T) (x726 : Int) => lpK c env lf 6 fi63 2 4 [] [0, 1, 5] (x63_4_0) lf (f63_0_c l0 l1 x726)) l0 l1 := by kernel_rfl
theorem f63_eq (c : Orc) (lf : Nat) (l0 l1 : List T) : funK c env lf 6 fi63 [.sl l0, .sl l1] = f63 c lf l0 l1 := by
 refine (f63_raw c lf l0 l1).trans ?_
 have e0 : (fun (l0 l1 : List T) (x726 : Int) => lpK c env lf 6 fi63 2 4 [] [0, 1, 5] (x63_4_0) lf (f63_0_c l0 l1 x726)) = (fun (l0 l1 : List T) (x726 : Int) => f63_0 c lf l0 l1 lf x726) := by funext l0 l1 x726; exact f63_0_eq c lf l0 l1 lf x726
 rw [e0]; rfl
def f104_t (c : Orc) (lf : Nat) (s0_0 : ByteArray) (n0_1 : Int) (s1_0 : ByteArray) (n1_1 : Int) : Option (List T) :=
 bif !(s0_0.toList == s1_0.toList) then
  some [T.b false]
 else
  bif n0_1 != n1_1 then
   some [T.b false]
  else
   some [T.b true]
def f104 (c : Orc) (lf : Nat) (s0_0 : ByteArray) (n0_1 : Int) (s1_0 : ByteArray) (n1_1 : Int) : Option (List T) := f104_t c lf s0_0 n0_1 s1_0 n1_1
theorem f104_eq (c : Orc) (lf : Nat) (s0_0 : ByteArray) (n0_1 : Int) (s1_0 : ByteArray) (n1_1 : Int) : funK c env lf 6 fi104 [.st [.s s0_0, .i .i64 n0_1], .st [.s s1_0, .i .i64 n1_1]] = f104 c lf s0_0 n0_1 s1_0 n1_1 := by kernel_rfl
def f85_0_s (c : Orc) (lf : Nat) (l0 l1 : List T) (L : Int → Option (List T)) (x733 : Int) : Option (List T) :=
 bif iLt x733 (l0.length : Int) then
  bif inR x733 l0.length then
  bif inR x733 l1.length then
  (c 104 [T.st [T.s (asS (T.cell (l0.getD x733.toNat T.u) 0)), T.i .i64 (asI (T.cell (l0.getD x733.toNat T.u) 1))], T.st [T.s (asS (T.cell (l1.getD x733.toNat T.u) 0)), T.i .i64 (asI (T.cell (l1.getD x733.toNat T.u) 1))]]).bind fun r734 =>
  bif !(asB (nth r734 0)) then
   some [T.i .i64 0, T.b false]
  else
   L (IntKind.wrap .i64 (x733 + 1))
  else none
  else none
 else
  some [T.i .i64 1]
def f85_0_c (l0 l1 : List T) (x733 : Int) : CSt := ⟨[.ro 0 true [.s, .i .i64] l0, .ro 0 true [.s, .i .i64] l1, .i .i64 x733], [.dead, .dead]⟩
theorem f85_0_round (c : Orc) (lf : Nat) (l0 l1 : List T) (L : CSt → Option (List T)) (x733 : Int) :
 qa8 c env lf 6 fi85 2 4 [] [0, 1, 5] (x85_4_0) L (f85_0_c l0 l1 x733) = f85_0_s c lf l0 l1 (fun x733 => L (f85_0_c l0 l1 x733)) x733 := by kernel_rfl
def f85_0 (c : Orc) (lf : Nat) (l0 l1 : List T) : Nat → Int → Option (List T)
 | 0 => fun _ => none
 | n + 1 => fun x733 => f85_0_s c lf l0 l1 (f85_0 c lf l0 l1 n) x733
theorem f85_0_eq (c : Orc) (lf : Nat) (l0 l1 : List T) (n : Nat) (x733 : Int) :
 lpK c env lf 6 fi85 2 4 [] [0, 1, 5] (x85_4_0) n (f85_0_c l0 l1 x733) = f85_0 c lf l0 l1 n x733 := by
 induction n generalizing x733 with
 | zero => rfl
 | succ n ih =>
  refine (f85_0_round c lf l0 l1 _ x733).trans ?_
  have e : (fun x733 => lpK c env lf 6 fi85 2 4 [] [0, 1, 5] (x85_4_0) n (f85_0_c l0 l1 x733)) = f85_0 c lf l0 l1 n := by funext x733; exact ih x733
  show f85_0_s c lf l0 l1 (fun x733 => lpK c env lf 6 fi85 2 4 [] [0, 1, 5] (x85_4_0) n (f85_0_c l0 l1 x733)) x733 = _
  rw [e]; rfl
def f85_t (c : Orc) (lf : Nat) (lp0 : List T → List T → Int → Option (List T)) (l0 : List T) (l1 : List T) : Option (List T) :=
 bif (l0.length : Int) != (l1.length : Int) then
  some [T.b false]
 else
  (lp0 l0 l1 0).bind fun r735 =>
  bif asI (nth r735 0) == 0 then
   some [T.b (asB (nth r735 1))]
  else
   some [T.b true]
def f85 (c : Orc) (lf : Nat) (l0 l1 : List T) : Option (List T) := f85_t c lf (fun (l0 l1 : List T) (x733 : Int) => f85_0 c lf l0 l1 lf x733) l0 l1
theorem f85_raw (c : Orc) (lf : Nat) (l0 l1 : List T) : funK c env lf 6 fi85 [.sl l0, .sl l1] = f85_t c lf (fun (l0 l1 : List T) (x733 : Int) => lpK c env lf 6 fi85 2 4 [] [0, 1, 5] (x85_4_0) lf (f85_0_c l0 l1 x733)) l0 l1 := by kernel_rfl
theorem f85_eq (c : Orc) (lf : Nat) (l0 l1 : List T) : funK c env lf 6 fi85 [.sl l0, .sl l1] = f85 c lf l0 l1 := by
 refine (f85_raw c lf l0 l1).trans ?_
 have e0 : (fun (l0 l1 : List T) (x733 : Int) => lpK c env lf 6 fi85 2 4 [] [0, 1, 5] (x85_4_0) lf (f85_0_c l0 l1 x733)) = (fun (l0 l1 : List T) (x733 : Int) => f85_0 c lf l0 l1 lf x733) := by funext l0 l1 x733; exact f85_0_eq c lf l0 l1 lf x733
 rw [e0]; rfl
def f92_t (c : Orc) (lf : Nat) (s0_0 s0_1 : ByteArray) (s1_0 s1_1 : ByteArray) : Option (List T) :=
 bif !(s0_0.toList == s1_0.toList) then
  some [T.b false]
 else
  bif !(s0_1.toList == s1_1.toList) then
   some [T.b false]
  else
   some [T.b true]
def f92 (c : Orc) (lf : Nat) (s0_0 s0_1 : ByteArray) (s1_0 s1_1 : ByteArray) : Option (List T) := f92_t c lf s0_0 s0_1 s1_0 s1_1
theorem f92_eq (c : Orc) (lf : Nat) (s0_0 s0_1 : ByteArray) (s1_0 s1_1 : ByteArray) : funK c env lf 6 fi92 [.st [.s s0_0, .s s0_1], .st [.s s1_0, .s s1_1]] = f92 c lf s0_0 s0_1 s1_0 s1_1 := by kernel_rfl
def f64_0_s (c : Orc) (lf : Nat) (l0 l1 : List T) (L : Int → Option (List T)) (x741 : Int) : Option (List T) :=
 bif iLt x741 (l0.length : Int) then
  bif inR x741 l0.length then
  bif inR x741 l1.length then
  (c 92 [T.st [T.s (asS (T.cell (l0.getD x741.toNat T.u) 0)), T.s (asS (T.cell (l0.getD x741.toNat T.u) 1))], T.st [T.s (asS (T.cell (l1.getD x741.toNat T.u) 0)), T.s (asS (T.cell (l1.getD x741.toNat T.u) 1))]]).bind fun r742 =>
  bif !(asB (nth r742 0)) then
   some [T.i .i64 0, T.b false]
  else
   L (IntKind.wrap .i64 (x741 + 1))
  else none
  else none
 else
  some [T.i .i64 1]
def f64_0_c (l0 l1 : List T) (x741 : Int) : CSt := ⟨[.ro 0 true [.s, .s] l0, .ro 0 true [.s, .s] l1, .i .i64 x741], [.dead, .dead]⟩
theorem f64_0_round (c : Orc) (lf : Nat) (l0 l1 : List T) (L : CSt → Option (List T)) (x741 : Int) :
 qa8 c env lf 6 fi64 2 4 [] [0, 1, 5] (x64_4_0) L (f64_0_c l0 l1 x741) = f64_0_s c lf l0 l1 (fun x741 => L (f64_0_c l0 l1 x741)) x741 := by kernel_rfl
def f64_0 (c : Orc) (lf : Nat) (l0 l1 : List T) : Nat → Int → Option (List T)
 | 0 => fun _ => none
 | n + 1 => fun x741 => f64_0_s c lf l0 l1 (f64_0 c lf l0 l1 n) x741
theorem f64_0_eq (c : Orc) (lf : Nat) (l0 l1 : List T) (n : Nat) (x741 : Int) :
 lpK c env lf 6 fi64 2 4 [] [0, 1, 5] (x64_4_0) n (f64_0_c l0 l1 x741) = f64_0 c lf l0 l1 n x741 := by
 induction n generalizing x741 with
 | zero => rfl
 | succ n ih =>
  refine (f64_0_round c lf l0 l1 _ x741).trans ?_
  have e : (fun x741 => lpK c env lf 6 fi64 2 4 [] [0, 1, 5] (x64_4_0) n (f64_0_c l0 l1 x741)) = f64_0 c lf l0 l1 n := by funext x741; exact ih x741
  show f64_0_s c lf l0 l1 (fun x741 => lpK c env lf 6 fi64 2 4 [] [0, 1, 5] (x64_4_0) n (f64_0_c l0 l1 x741)) x741 = _
  rw [e]; rfl
def f64_t (c : Orc) (lf : Nat) (lp0 : List T → List T → Int → Option (List T)) (l0 : List T) (l1 : List T) : Option (List T) :=
 bif (l0.length : Int) != (l1.length : Int) then
  some [T.b false]
 else
  (lp0 l0 l1 0).bind fun r743 =>
  bif asI (nth r743 0) == 0 then
   some [T.b (asB (nth r743 1))]
  else
   some [T.b true]
def f64 (c : Orc) (lf : Nat) (l0 l1 : List T) : Option (List T) := f64_t c lf (fun (l0 l1 : List T) (x741 : Int) => f64_0 c lf l0 l1 lf x741) l0 l1
theorem f64_raw (c : Orc) (lf : Nat) (l0 l1 : List T) : funK c env lf 6 fi64 [.sl l0, .sl l1] = f64_t c lf (fun (l0 l1 : List T) (x741 : Int) => lpK c env lf 6 fi64 2 4 [] [0, 1, 5] (x64_4_0) lf (f64_0_c l0 l1 x741)) l0 l1 := by kernel_rfl
theorem f64_eq (c : Orc) (lf : Nat) (l0 l1 : List T) : funK c env lf 6 fi64 [.sl l0, .sl l1] = f64 c lf l0 l1 := by
 refine (f64_raw c lf l0 l1).trans ?_
 have e0 : (fun (l0 l1 : List T) (x741 : Int) => lpK c env lf 6 fi64 2 4 [] [0, 1, 5] (x64_4_0) lf (f64_0_c l0 l1 x741)) = (fun (l0 l1 : List T) (x741 : Int) => f64_0 c lf l0 l1 lf x741) := by funext l0 l1 x741; exact f64_0_eq c lf l0 l1 lf x741
 rw [e0]; rfl
def f55_t (c : Orc) (lf : Nat) (n0_0 n0_1 n0_2 : Int) (l0_3 l0_4 l0_5 : List T) (n1_0 n1_1 n1_2 : Int) (l1_3 l1_4 l1_5 : List T) : Option (List T) :=
 bif n0_0 != n1_0 then
  some [T.b false]
 else
  bif n0_1 != n1_1 then
   some [T.b false]
  else
   bif n0_2 != n1_2 then
    some [T.b false]
   else
    (c 63 [T.sl l0_3, T.sl l1_3]).bind fun r744 =>
    bif !(asB (nth r744 0)) then
     some [T.b false]
    else
     (c 85 [T.sl l0_4, T.sl l1_4]).bind fun r745 =>
     bif !(asB (nth r745 0)) then
      some [T.b false]
     else
      (c 64 [T.sl l0_5, T.sl l1_5]).bind fun r746 =>
      bif !(asB (nth r746 0)) then
       some [T.b false]
      else
       some [T.b true]
def f55 (c : Orc) (lf : Nat) (n0_0 n0_1 n0_2 : Int) (l0_3 l0_4 l0_5 : List T) (n1_0 n1_1 n1_2 : Int) (l1_3 l1_4 l1_5 : List T) : Option (List T) := f55_t c lf n0_0 n0_1 n0_2 l0_3 l0_4 l0_5 n1_0 n1_1 n1_2 l1_3 l1_4 l1_5
theorem f55_eq (c : Orc) (lf : Nat) (n0_0 n0_1 n0_2 : Int) (l0_3 l0_4 l0_5 : List T) (n1_0 n1_1 n1_2 : Int) (l1_3 l1_4 l1_5 : List T) : funK c env lf 6 fi55 [.st [.i .i64 n0_0, .i .i64 n0_1, .i .i64 n0_2, .sl l0_3, .sl l0_4, .sl l0_5], .st [.i .i64 n1_0, .i .i64 n1_1, .i .i64 n1_2, .sl l1_3, .sl l1_4, .sl l1_5]] = f55 c lf n0_0 n0_1 n0_2 l0_3 l0_4 l0_5 n1_0 n1_1 n1_2 l1_3 l1_4 l1_5 := by kernel_rfl
def f27_0_s (c : Orc) (lf : Nat) (l0 l1 : List T) (L : Int → Option (List T)) (x752 : Int) : Option (List T) :=
 bif iLt x752 (l0.length : Int) then
  bif inR x752 l0.length then
  bif inR x752 l1.length then
  (c 55 [T.st [T.i .i64 (asI (T.cell (l0.getD x752.toNat T.u) 0)), T.i .i64 (asI (T.cell (l0.getD x752.toNat T.u) 1)), T.i .i64 (asI (T.cell (l0.getD x752.toNat T.u) 2)), T.sl (asL (T.cell (l0.getD x752.toNat T.u) 3)), T.sl (asL (T.cell (l0.getD x752.toNat T.u) 4)), T.sl (asL (T.cell (l0.getD x752.toNat T.u) 5))], T.st [T.i .i64 (asI (T.cell (l1.getD x752.toNat T.u) 0)), T.i .i64 (asI (T.cell (l1.getD x752.toNat T.u) 1)), T.i .i64 (asI (T.cell (l1.getD x752.toNat T.u) 2)), T.sl (asL (T.cell (l1.getD x752.toNat T.u) 3)), T.sl (asL (T.cell (l1.getD x752.toNat T.u) 4)), T.sl (asL (T.cell (l1.getD x752.toNat T.u) 5))]]).bind fun r753 =>
  bif !(asB (nth r753 0)) then
   some [T.i .i64 0, T.b false]
  else
   L (IntKind.wrap .i64 (x752 + 1))
  else none
  else none
 else
  some [T.i .i64 1]
def f27_0_c (l0 l1 : List T) (x752 : Int) : CSt := ⟨[.ro 0 true [.i .i64, .i .i64, .i .i64, .sl false [.i .u8], .sl true [.s, .i .i64], .sl true [.s, .s]] l0, .ro 0 true [.i .i64, .i .i64, .i .i64, .sl false [.i .u8], .sl true [.s, .i .i64], .sl true [.s, .s]] l1, .i .i64 x752], [.dead, .dead]⟩
theorem f27_0_round (c : Orc) (lf : Nat) (l0 l1 : List T) (L : CSt → Option (List T)) (x752 : Int) :
 qa8 c env lf 6 fi27 2 4 [] [0, 1, 5] (x27_4_0) L (f27_0_c l0 l1 x752) = f27_0_s c lf l0 l1 (fun x752 => L (f27_0_c l0 l1 x752)) x752 := by kernel_rfl
def f27_0 (c : Orc) (lf : Nat) (l0 l1 : List T) : Nat → Int → Option (List T)
 | 0 => fun _ => none
 | n + 1 => fun x752 => f27_0_s c lf l0 l1 (f27_0 c lf l0 l1 n) x752
theorem f27_0_eq (c : Orc) (lf : Nat) (l0 l1 : List T) (n : Nat) (x752 : Int) :
 lpK c env lf 6 fi27 2 4 [] [0, 1, 5] (x27_4_0) n (f27_0_c l0 l1 x752) = f27_0 c lf l0 l1 n x752 := by
 induction n generalizing x752 with
 | zero => rfl
 | succ n ih =>
  refine (f27_0_round c lf l0 l1 _ x752).trans ?_
  have e : (fun x752 => lpK c env lf 6 fi27 2 4 [] [0, 1, 5] (x27_4_0) n (f27_0_c l0 l1 x752)) = f27_0 c lf l0 l1 n := by funext x752; exact ih x752
  show f27_0_s c lf l0 l1 (fun x752 => lpK c env lf 6 fi27 2 4 [] [0, 1, 5] (x27_4_0) n (f27_0_c l0 l1 x752)) x752 = _
  rw [e]; rfl
def f27_t (c : Orc) (lf : Nat) (lp0 : List T → List T → Int → Option (List T)) (l0 : List T) (l1 : List T) : Option (List T) :=
 bif (l0.length : Int) != (l1.length : Int) then
  some [T.b false]
 else
  (lp0 l0 l1 0).bind fun r754 =>
  bif asI (nth r754 0) == 0 then
   some [T.b (asB (nth r754 1))]
  else
   some [T.b true]
def f27 (c : Orc) (lf : Nat) (l0 l1 : List T) : Option (List T) := f27_t c lf (fun (l0 l1 : List T) (x752 : Int) => f27_0 c lf l0 l1 lf x752) l0 l1
theorem f27_raw (c : Orc) (lf : Nat) (l0 l1 : List T) : funK c env lf 6 fi27 [.sl l0, .sl l1] = f27_t c lf (fun (l0 l1 : List T) (x752 : Int) => lpK c env lf 6 fi27 2 4 [] [0, 1, 5] (x27_4_0) lf (f27_0_c l0 l1 x752)) l0 l1 := by kernel_rfl
theorem f27_eq (c : Orc) (lf : Nat) (l0 l1 : List T) : funK c env lf 6 fi27 [.sl l0, .sl l1] = f27 c lf l0 l1 := by
 refine (f27_raw c lf l0 l1).trans ?_
 have e0 : (fun (l0 l1 : List T) (x752 : Int) => lpK c env lf 6 fi27 2 4 [] [0, 1, 5] (x27_4_0) lf (f27_0_c l0 l1 x752)) = (fun (l0 l1 : List T) (x752 : Int) => f27_0 c lf l0 l1 lf x752) := by funext l0 l1 x752; exact f27_0_eq c lf l0 l1 lf x752
 rw [e0]; rfl
def f9_t (c : Orc) (lf : Nat) (l0_0 : List T) (n0_1 : Int) (l1_0 : List T) (n1_1 : Int) : Option (List T) :=
 (c 27 [T.sl l0_0, T.sl l1_0]).bind fun r755 =>
 bif !(asB (nth r755 0)) then
  some [T.b false]
 else
  bif n0_1 != n1_1 then
   some [T.b false]
  else
   some [T.b true]
def f9 (c : Orc) (lf : Nat) (l0_0 : List T) (n0_1 : Int) (l1_0 : List T) (n1_1 : Int) : Option (List T) := f9_t c lf l0_0 n0_1 l1_0 n1_1
theorem f9_eq (c : Orc) (lf : Nat) (l0_0 : List T) (n0_1 : Int) (l1_0 : List T) (n1_1 : Int) : funK c env lf 6 fi9 [.st [.sl l0_0, .i .i64 n0_1], .st [.sl l1_0, .i .i64 n1_1]] = f9 c lf l0_0 n0_1 l1_0 n1_1 := by kernel_rfl
def f3_t (c : Orc) (lf : Nat) (l0_0 : List T) (n0_1 : Int) (l1_0 : List T) (n1_1 : Int) : Option (List T) :=
 (c 5 [T.st [T.sl l0_0, T.i .i64 n0_1], T.i .i64 1048576]).bind fun r756 =>
 bif iLt (asI (nth r756 0)) 0 then
  some [T.b true]
 else
  (c 5 [T.st [T.sl l1_0, T.i .i64 n1_1], T.i .i64 (asI (nth r756 0))]).bind fun r757 =>
  bif iLt (asI (nth r757 0)) 0 then
   some [T.b true]
  else
   (c 7 [T.st [T.sl l0_0, T.i .i64 n0_1]]).bind fun r758 =>
   (c 7 [T.st [T.sl l1_0, T.i .i64 n1_1]]).bind fun r759 =>
   (c 6 [T.st [T.sl (asL (T.cell (nth r758 0) 0)), T.i .i64 (asI (T.cell (nth r758 0) 1))], T.st [T.sl (asL (T.cell (nth r759 0) 0)), T.i .i64 (asI (T.cell (nth r759 0) 1))]]).bind fun r760 =>
   (c 7 [T.st [T.sl l0_0, T.i .i64 n0_1]]).bind fun r761 =>
   (c 7 [T.st [T.sl l1_0, T.i .i64 n1_1]]).bind fun r762 =>
   (c 8 [T.st [T.sl (asL (T.cell (nth r761 0) 0)), T.i .i64 (asI (T.cell (nth r761 0) 1))], T.st [T.sl (asL (T.cell (nth r762 0) 0)), T.i .i64 (asI (T.cell (nth r762 0) 1))]]).bind fun r763 =>
   bif !((asB (nth r763 0)) == (asB (nth r760 0))) then
    some [T.b false]
   else
    (c 7 [T.st [T.sl l0_0, T.i .i64 n0_1]]).bind fun r764 =>
    (c 9 [T.st [T.sl (asL (T.cell (nth r761 0) 0)), T.i .i64 (asI (T.cell (nth r761 0) 1))], T.st [T.sl (asL (T.cell (nth r764 0) 0)), T.i .i64 (asI (T.cell (nth r764 0) 1))]]).bind fun r765 =>
    bif !(asB (nth r765 0)) then
     some [T.b false]
    else
     (c 7 [T.st [T.sl l1_0, T.i .i64 n1_1]]).bind fun r766 =>
     (c 9 [T.st [T.sl (asL (T.cell (nth r762 0) 0)), T.i .i64 (asI (T.cell (nth r762 0) 1))], T.st [T.sl (asL (T.cell (nth r766 0) 0)), T.i .i64 (asI (T.cell (nth r766 0) 1))]]).bind fun r767 =>
     bif !(asB (nth r767 0)) then
      some [T.b false]
     else
      some [T.b true]
def f3 (c : Orc) (lf : Nat) (l0_0 : List T) (n0_1 : Int) (l1_0 : List T) (n1_1 : Int) : Option (List T) := f3_t c lf l0_0 n0_1 l1_0 n1_1
theorem f3_eq (c : Orc) (lf : Nat) (l0_0 : List T) (n0_1 : Int) (l1_0 : List T) (n1_1 : Int) : funK c env lf 6 fi3 [.st [.sl l0_0, .i .i64 n0_1], .st [.sl l1_0, .i .i64 n1_1]] = f3 c lf l0_0 n0_1 l1_0 n1_1 := by kernel_rfl
end Go.Proofs.YtncfoonahkieoaaGreatDoor.T
