/- What functions of the law FnExactDump come to, in trees; no condition. -/
import Derived.Test.YtncfoonahkieoaaGreatDoorRows
import Derived.Test.YtncfoonahkieoaaGreatDoorX0
import Derived.KernelRfl
set_option linter.unusedVariables false
set_option linter.constructorNameAsVariable false
set_option linter.unusedSimpArgs false
set_option linter.unnecessarySimpa false
namespace Go.Proofs.YtncfoonahkieoaaGreatDoor.T
open Go Go.Proofs.YtncfoonahkieoaaGreatDoorV
def f85_0_c (l0 l1 : List T) (x692 : Int) : CSt := ⟨[.ro 0 true [.s, .i .i64] l0, .ro 0 true [.s, .i .i64] l1, .i .i64 x692], [.dead, .dead]⟩
theorem f85_0_round (c : Orc) (lf : Nat) (l0 l1 : List T) (L : CSt → Option (List T)) (x692 : Int) :
 qa7 c env lf 6 fi85 2 4 [] [0, 1, 5] (x85_4_0) L (f85_0_c l0 l1 x692) = f85_0_s c lf l0 l1 (fun x692 => L (f85_0_c l0 l1 x692)) x692 := by kernel_rfl
def f85_0 (c : Orc) (lf : Nat) (l0 l1 : List T) : Nat → Int → Option (List T)
 | 0 => fun _ => none
 | n + 1 => fun x692 => f85_0_s c lf l0 l1 (f85_0 c lf l0 l1 n) x692
theorem f85_0_eq (c : Orc) (lf : Nat) (l0 l1 : List T) (n : Nat) (x692 : Int) :
 lpK c env lf 6 fi85 2 4 [] [0, 1, 5] (x85_4_0) n (f85_0_c l0 l1 x692) = f85_0 c lf l0 l1 n x692 := by
 induction n generalizing x692 with
 | zero => rfl
 | succ n ih =>
  refine (f85_0_round c lf l0 l1 _ x692).trans ?_
  have e : (fun x692 => lpK c env lf 6 fi85 2 4 [] [0, 1, 5] (x85_4_0) n (f85_0_c l0 l1 x692)) = f85_0 c lf l0 l1 n := by funext x692; exact ih x692
  show f85_0_s c lf l0 l1 (fun x692 => lpK c env lf 6 fi85 2 4 [] [0, 1, 5] (x85_4_0) n (f85_0_c l0 l1 x692)) x692 = _
  rw [e]; rfl
def f85_t (c : Orc) (lf : Nat) (lp0 : List T → List T → Int → Option (List T)) (l0 : List T) (l1 : List T) : Option (List T) :=
 bif (l0.length : Int) != (l1.length : Int) then
  some [T.b false]
 else
  (lp0 l0 l1 0).bind fun r694 =>
  bif asI (nth r694 0) == 0 then
   some [T.b (asB (nth r694 1))]
  else
   some [T.b true]
def f85 (c : Orc) (lf : Nat) (l0 l1 : List T) : Option (List T) := f85_t c lf (fun (l0 l1 : List T) (x692 : Int) => f85_0 c lf l0 l1 lf x692) l0 l1
theorem f85_raw (c : Orc) (lf : Nat) (l0 l1 : List T) : funK c env lf 6 fi85 [.sl l0, .sl l1] = f85_t c lf (fun (l0 l1 : List T) (x692 : Int) => lpK c env lf 6 fi85 2 4 [] [0, 1, 5] (x85_4_0) lf (f85_0_c l0 l1 x692)) l0 l1 := by kernel_rfl
theorem f85_eq (c : Orc) (lf : Nat) (l0 l1 : List T) : funK c env lf 6 fi85 [.sl l0, .sl l1] = f85 c lf l0 l1 := by
 refine (f85_raw c lf l0 l1).trans ?_
 have e0 : (fun (l0 l1 : List T) (x692 : Int) => lpK c env lf 6 fi85 2 4 [] [0, 1, 5] (x85_4_0) lf (f85_0_c l0 l1 x692)) = (fun (l0 l1 : List T) (x692 : Int) => f85_0 c lf l0 l1 lf x692) := by funext l0 l1 x692; exact f85_0_eq c lf l0 l1 lf x692
 rw [e0]; rfl
def f55_t (c : Orc) (lf : Nat) (n0_0 n0_1 n0_2 : Int) (l0_3 l0_4 l0_5 : List T) (n1_0 n1_1 n1_2 : Int) (l1_3 l1_4 l1_5 : List T) : Option (List T) :=
 bif n0_0 != n1_0 then
  some [T.b false]
 else
  bif n0_1 != n1_1 then
   some [T.b false]
  else
   bif n0_2 != n1_2 then
    some [T.b false]
   else
    (c 63 [T.sl l0_3, T.sl l1_3]).bind fun r695 =>
    bif !(asB (nth r695 0)) then
     some [T.b false]
    else
     (c 85 [T.sl l0_4, T.sl l1_4]).bind fun r696 =>
     bif !(asB (nth r696 0)) then
      some [T.b false]
     else
      (c 64 [T.sl l0_5, T.sl l1_5]).bind fun r697 =>
      bif !(asB (nth r697 0)) then
       some [T.b false]
      else
       some [T.b true]
def f55 (c : Orc) (lf : Nat) (n0_0 n0_1 n0_2 : Int) (l0_3 l0_4 l0_5 : List T) (n1_0 n1_1 n1_2 : Int) (l1_3 l1_4 l1_5 : List T) : Option (List T) := f55_t c lf n0_0 n0_1 n0_2 l0_3 l0_4 l0_5 n1_0 n1_1 n1_2 l1_3 l1_4 l1_5
theorem f55_eq (c : Orc) (lf : Nat) (n0_0 n0_1 n0_2 : Int) (l0_3 l0_4 l0_5 : List T) (n1_0 n1_1 n1_2 : Int) (l1_3 l1_4 l1_5 : List T) : funK c env lf 6 fi55 [.st [.i .i64 n0_0, .i .i64 n0_1, .i .i64 n0_2, .sl l0_3, .sl l0_4, .sl l0_5], .st [.i .i64 n1_0, .i .i64 n1_1, .i .i64 n1_2, .sl l1_3, .sl l1_4, .sl l1_5]] = f55 c lf n0_0 n0_1 n0_2 l0_3 l0_4 l0_5 n1_0 n1_1 n1_2 l1_3 l1_4 l1_5 := by kernel_rfl
def f27_0_s (c : Orc) (lf : Nat) (l0 l1 : List T) (L : Int → Option (List T)) (x703 : Int) : Option (List T) :=
 bif iLt x703 (l0.length : Int) then
  bif inR x703 l0.length then
  bif inR x703 l1.length then
  (c 55 [T.st [T.i .i64 (asI (T.cell (l0.getD x703.toNat T.u) 0)), T.i .i64 (asI (T.cell (l0.getD x703.toNat T.u) 1)), T.i .i64 (asI (T.cell (l0.getD x703.toNat T.u) 2)), T.sl (asL (T.cell (l0.getD x703.toNat T.u) 3)), T.sl (asL (T.cell (l0.getD x703.toNat T.u) 4)), T.sl (asL (T.cell (l0.getD x703.toNat T.u) 5))], T.st [T.i .i64 (asI (T.cell (l1.getD x703.toNat T.u) 0)), T.i .i64 (asI (T.cell (l1.getD x703.toNat T.u) 1)), T.i .i64 (asI (T.cell (l1.getD x703.toNat T.u) 2)), T.sl (asL (T.cell (l1.getD x703.toNat T.u) 3)), T.sl (asL (T.cell (l1.getD x703.toNat T.u) 4)), T.sl (asL (T.cell (l1.getD x703.toNat T.u) 5))]]).bind fun r704 =>
  bif !(asB (nth r704 0)) then
   some [T.i .i64 0, T.b false]
  else
   L (IntKind.wrap .i64 (x703 + 1))
  else none
  else none
 else
  some [T.i .i64 1]
def f27_0_c (l0 l1 : List T) (x703 : Int) : CSt := ⟨[.ro 0 true [.i .i64, .i .i64, .i .i64, .sl false [.i .u8], .sl true [.s, .i .i64], .sl true [.s, .s]] l0, .ro 0 true [.i .i64, .i .i64, .i .i64, .sl false [.i .u8], .sl true [.s, .i .i64], .sl true [.s, .s]] l1, .i .i64 x703], [.dead, .dead]⟩
theorem f27_0_round (c : Orc) (lf : Nat) (l0 l1 : List T) (L : CSt → Option (List T)) (x703 : Int) :
 qa7 c env lf 6 fi27 2 4 [] [0, 1, 5] (x27_4_0) L (f27_0_c l0 l1 x703) = f27_0_s c lf l0 l1 (fun x703 => L (f27_0_c l0 l1 x703)) x703 := by kernel_rfl
def f27_0 (c : Orc) (lf : Nat) (l0 l1 : List T) : Nat → Int → Option (List T)
 | 0 => fun _ => none
 | n + 1 => fun x703 => f27_0_s c lf l0 l1 (f27_0 c lf l0 l1 n) x703
theorem f27_0_eq (c : Orc) (lf : Nat) (l0 l1 : List T) (n : Nat) (x703 : Int) :
 lpK c env lf 6 fi27 2 4 [] [0, 1, 5] (x27_4_0) n (f27_0_c l0 l1 x703) = f27_0 c lf l0 l1 n x703 := by
 induction n generalizing x703 with
 | zero => rfl
 | succ n ih =>
  refine (f27_0_round c lf l0 l1 _ x703).trans ?_
  have e : (fun x703 => lpK c env lf 6 fi27 2 4 [] [0, 1, 5] (x27_4_0) n (f27_0_c l0 l1 x703)) = f27_0 c lf l0 l1 n := by funext x703; exact ih x703
  show f27_0_s c lf l0 l1 (fun x703 => lpK c env lf 6 fi27 2 4 [] [0, 1, 5] (x27_4_0) n (f27_0_c l0 l1 x703)) x703 = _
  rw [e]; rfl
def f27_t (c : Orc) (lf : Nat) (lp0 : List T → List T → Int → Option (List T)) (l0 : List T) (l1 : List T) : Option (List T) :=
 bif (l0.length : Int) != (l1.length : Int) then
  some [T.b false]
 else
  (lp0 l0 l1 0).bind fun r705 =>
  bif asI (nth r705 0) == 0 then
   some [T.b (asB (nth r705 1))]
  else
   some [T.b true]
def f27 (c : Orc) (lf : Nat) (l0 l1 : List T) : Option (List T) := f27_t c lf (fun (l0 l1 : List T) (x703 : Int) => f27_0 c lf l0 l1 lf x703) l0 l1
theorem f27_raw (c : Orc) (lf : Nat) (l0 l1 : List T) : funK c env lf 6 fi27 [.sl l0, .sl l1] = f27_t c lf (fun (l0 l1 : List T) (x703 : Int) => lpK c env lf 6 fi27 2 4 [] [0, 1, 5] (x27_4_0) lf (f27_0_c l0 l1 x703)) l0 l1 := by kernel_rfl
theorem f27_eq (c : Orc) (lf : Nat) (l0 l1 : List T) : funK c env lf 6 fi27 [.sl l0, .sl l1] = f27 c lf l0 l1 := by
 refine (f27_raw c lf l0 l1).trans ?_
 have e0 : (fun (l0 l1 : List T) (x703 : Int) => lpK c env lf 6 fi27 2 4 [] [0, 1, 5] (x27_4_0) lf (f27_0_c l0 l1 x703)) = (fun (l0 l1 : List T) (x703 : Int) => f27_0 c lf l0 l1 lf x703) := by funext l0 l1 x703; exact f27_0_eq c lf l0 l1 lf x703
 rw [e0]; rfl
def f9_t (c : Orc) (lf : Nat) (l0_0 : List T) (n0_1 : Int) (l1_0 : List T) (n1_1 : Int) : Option (List T) :=
 (c 27 [T.sl l0_0, T.sl l1_0]).bind fun r706 =>
 bif !(asB (nth r706 0)) then
  some [T.b false]
 else
  bif n0_1 != n1_1 then
   some [T.b false]
  else
   some [T.b true]
def f9 (c : Orc) (lf : Nat) (l0_0 : List T) (n0_1 : Int) (l1_0 : List T) (n1_1 : Int) : Option (List T) := f9_t c lf l0_0 n0_1 l1_0 n1_1
theorem f9_eq (c : Orc) (lf : Nat) (l0_0 : List T) (n0_1 : Int) (l1_0 : List T) (n1_1 : Int) : funK c env lf 6 fi9 [.st [.sl l0_0, .i .i64 n0_1], .st [.sl l1_0, .i .i64 n1_1]] = f9 c lf l0_0 n0_1 l1_0 n1_1 := by kernel_rfl
def f37_0_s (c : Orc) (lf : Nat) (L : Int → Int → List T → Option (List T)) (x711 : Int) (x712 : Int) (x713 : List T) : Option (List T) :=
 bif iLt x712 (x713.length : Int) then
  bif inR x712 x713.length then
  L (IntKind.wrap .i64 (x711 + 1)) (IntKind.wrap .i64 (x712 + 1)) (x713.set x712.toNat (T.i .u8 (IntKind.wrap .u8 x711)))
  else none
 else
  some [T.i .i64 0, T.i .i64 x711, T.sl x713]
def f37_0_c (x711 x712 : Int) (x713 : List T) : CSt := ⟨[.rf 0 [] 0 none, .i .i64 x711, .i .i64 x712], [.row false [.i .u8] x713 0 false, .dead]⟩
theorem f37_0_round (c : Orc) (lf : Nat) (L : CSt → Option (List T)) (x711 : Int) (x712 : Int) (x713 : List T) :
 qa7 c env lf 6 fi37 2 2 [] [0, 1, 5] (x37_2_0) L (f37_0_c x711 x712 x713) = f37_0_s c lf (fun x711 x712 x713 => L (f37_0_c x711 x712 x713)) x711 x712 x713 := by kernel_rfl
def f37_0 (c : Orc) (lf : Nat) : Nat → Int → Int → List T → Option (List T)
 | 0 => fun _ _ _ => none
 | n + 1 => fun x711 x712 x713 => f37_0_s c lf (f37_0 c lf n) x711 x712 x713
theorem f37_0_eq (c : Orc) (lf n : Nat) (x711 x712 : Int) (x713 : List T) :
 lpK c env lf 6 fi37 2 2 [] [0, 1, 5] (x37_2_0) n (f37_0_c x711 x712 x713) = f37_0 c lf n x711 x712 x713 := by
 induction n generalizing x711 x712 x713 with
 | zero => rfl
 | succ n ih =>
  refine (f37_0_round c lf _ x711 x712 x713).trans ?_
  have e : (fun x711 x712 x713 => lpK c env lf 6 fi37 2 2 [] [0, 1, 5] (x37_2_0) n (f37_0_c x711 x712 x713)) = f37_0 c lf n := by funext x711 x712 x713; exact ih x711 x712 x713
  show f37_0_s c lf (fun x711 x712 x713 => lpK c env lf 6 fi37 2 2 [] [0, 1, 5] (x37_2_0) n (f37_0_c x711 x712 x713)) x711 x712 x713 = _
  rw [e]; rfl
def f37_t (c : Orc) (lf : Nat) (lp0 : Int → Int → List T → Option (List T)) (l0 : List T) (n1 : Int) : Option (List T) :=
 (lp0 n1 0 l0).bind fun r714 =>
 some [T.i .i64 (asI (nth r714 1)), T.sl (asL (nth r714 2))]
def f37 (c : Orc) (lf : Nat) (l0 : List T) (n1 : Int) : Option (List T) := f37_t c lf (fun (x711 x712 : Int) (x713 : List T) => f37_0 c lf lf x711 x712 x713) l0 n1
theorem f37_raw (c : Orc) (lf : Nat) (l0 : List T) (n1 : Int) : funK c env lf 6 fi37 [.sl l0, .i .i64 n1] = f37_t c lf (fun (x711 x712 : Int) (x713 : List T) => lpK c env lf 6 fi37 2 2 [] [0, 1, 5] (x37_2_0) lf (f37_0_c x711 x712 x713)) l0 n1 := by kernel_rfl
theorem f37_eq (c : Orc) (lf : Nat) (l0 : List T) (n1 : Int) : funK c env lf 6 fi37 [.sl l0, .i .i64 n1] = f37 c lf l0 n1 := by
 refine (f37_raw c lf l0 n1).trans ?_
 have e0 : (fun (x711 x712 : Int) (x713 : List T) => lpK c env lf 6 fi37 2 2 [] [0, 1, 5] (x37_2_0) lf (f37_0_c x711 x712 x713)) = (fun (x711 x712 : Int) (x713 : List T) => f37_0 c lf lf x711 x712 x713) := by funext x711 x712 x713; exact f37_0_eq c lf lf x711 x712 x713
 rw [e0]; rfl
def f36_0_s (c : Orc) (lf : Nat) (L : Int → ByteArray → Option (List T)) (x718 : Int) (x719 : ByteArray) : Option (List T) :=
 bif iLt 0 x718 then
  bif nLe ((bytesOf ([T.i .u8 (IntKind.wrap .u8 (IntKind.wrap .i64 (48 + (x718.tmod 10))))] : List T)).size + x719.size) LIM then
  L (IntKind.wrap .i64 (x718.tdiv 10)) ((bytesOf ([T.i .u8 (IntKind.wrap .u8 (IntKind.wrap .i64 (48 + (x718.tmod 10))))] : List T)) ++ x719)
  else none
 else
  some [T.i .i64 0, T.s x719]
def f36_0_c (x718 : Int) (x719 : ByteArray) : CSt := ⟨[.i .i64 x718, .s x719], [.dead]⟩
theorem f36_0_round (c : Orc) (lf : Nat) (L : CSt → Option (List T)) (x718 : Int) (x719 : ByteArray) :
 qa7 c env lf 6 fi36 1 4 [] [0, 3] (x36_4_0) L (f36_0_c x718 x719) = f36_0_s c lf (fun x718 x719 => L (f36_0_c x718 x719)) x718 x719 := by kernel_rfl
def f36_0 (c : Orc) (lf : Nat) : Nat → Int → ByteArray → Option (List T)
 | 0 => fun _ _ => none
 | n + 1 => fun x718 x719 => f36_0_s c lf (f36_0 c lf n) x718 x719
theorem f36_0_eq (c : Orc) (lf n : Nat) (x718 : Int) (x719 : ByteArray) :
 lpK c env lf 6 fi36 1 4 [] [0, 3] (x36_4_0) n (f36_0_c x718 x719) = f36_0 c lf n x718 x719 := by
 induction n generalizing x718 x719 with
 | zero => rfl
 | succ n ih =>
  refine (f36_0_round c lf _ x718 x719).trans ?_
  have e : (fun x718 x719 => lpK c env lf 6 fi36 1 4 [] [0, 3] (x36_4_0) n (f36_0_c x718 x719)) = f36_0 c lf n := by funext x718 x719; exact ih x718 x719
  show f36_0_s c lf (fun x718 x719 => lpK c env lf 6 fi36 1 4 [] [0, 3] (x36_4_0) n (f36_0_c x718 x719)) x718 x719 = _
  rw [e]; rfl
def f36_t (c : Orc) (lf : Nat) (lp0 : Int → ByteArray → Option (List T)) (n0 : Int) : Option (List T) :=
 bif iLe n0 0 then
  some [T.s (⟨#[109, 48]⟩ : ByteArray)]
 else
  (lp0 n0 (⟨#[]⟩ : ByteArray)).bind fun r720 =>
  bif nLe ((⟨#[109]⟩ : ByteArray).size + (asS (nth r720 1)).size) LIM then
  some [T.s ((⟨#[109]⟩ : ByteArray) ++ (asS (nth r720 1)))]
  else none
def f36 (c : Orc) (lf : Nat) (n0 : Int) : Option (List T) := f36_t c lf (fun (x718 : Int) (x719 : ByteArray) => f36_0 c lf lf x718 x719) n0
theorem f36_raw (c : Orc) (lf : Nat) (n0 : Int) : funK c env lf 6 fi36 [.i .i64 n0] = f36_t c lf (fun (x718 : Int) (x719 : ByteArray) => lpK c env lf 6 fi36 1 4 [] [0, 3] (x36_4_0) lf (f36_0_c x718 x719)) n0 := by kernel_rfl
theorem f36_eq (c : Orc) (lf : Nat) (n0 : Int) : funK c env lf 6 fi36 [.i .i64 n0] = f36 c lf n0 := by
 refine (f36_raw c lf n0).trans ?_
 have e0 : (fun (x718 : Int) (x719 : ByteArray) => lpK c env lf 6 fi36 1 4 [] [0, 3] (x36_4_0) lf (f36_0_c x718 x719)) = (fun (x718 : Int) (x719 : ByteArray) => f36_0 c lf lf x718 x719) := by funext x718 x719; exact f36_0_eq c lf lf x718 x719
 rw [e0]; rfl
def f65_0_s (c : Orc) (lf : Nat) (L : Int → Int → List T → Option (List T)) (x728 : Int) (x729 : Int) (x730 : List T) : Option (List T) :=
 bif iLt x729 (x730.length : Int) then
  (c 36 [T.i .i64 x728]).bind fun r731 =>
  bif inR x729 x730.length then
  bif inR x729 ((x730.set x729.toNat (T.setc (x730.getD x729.toNat T.u) 0 (T.s (asS (nth r731 0))))).length) then
  L (IntKind.wrap .i64 ((IntKind.wrap .i64 (x728 + 1)) + 1)) (IntKind.wrap .i64 (x729 + 1)) ((x730.set x729.toNat (T.setc (x730.getD x729.toNat T.u) 0 (T.s (asS (nth r731 0))))).set x729.toNat (T.setc ((x730.set x729.toNat (T.setc (x730.getD x729.toNat T.u) 0 (T.s (asS (nth r731 0))))).getD x729.toNat T.u) 1 (T.i .i64 (IntKind.wrap .i64 (x728 + 1)))))
  else none
  else none
 else
  some [T.i .i64 0, T.i .i64 x728, T.sl x730]
def f65_0_c (x728 x729 : Int) (x730 : List T) : CSt := ⟨[.rf 0 [] 0 none, .i .i64 x728, .i .i64 x729], [.row true [.s, .i .i64] x730 0 false, .dead]⟩
theorem f65_0_round (c : Orc) (lf : Nat) (L : CSt → Option (List T)) (x728 : Int) (x729 : Int) (x730 : List T) :
 qa7 c env lf 6 fi65 2 2 [] [0, 1, 5] (x65_2_0) L (f65_0_c x728 x729 x730) = f65_0_s c lf (fun x728 x729 x730 => L (f65_0_c x728 x729 x730)) x728 x729 x730 := by kernel_rfl
def f65_0 (c : Orc) (lf : Nat) : Nat → Int → Int → List T → Option (List T)
 | 0 => fun _ _ _ => none
 | n + 1 => fun x728 x729 x730 => f65_0_s c lf (f65_0 c lf n) x728 x729 x730
theorem f65_0_u (c : Orc) (lf n : Nat) (x728 x729 : Int) (x730 : List T) : f65_0 c lf (n + 1) x728 x729 x730 = f65_0_s c lf (f65_0 c lf n) x728 x729 x730 := rfl
theorem f65_0_eq (c : Orc) (lf n : Nat) (x728 x729 : Int) (x730 : List T) :
 lpK c env lf 6 fi65 2 2 [] [0, 1, 5] (x65_2_0) n (f65_0_c x728 x729 x730) = f65_0 c lf n x728 x729 x730 := by
 induction n generalizing x728 x729 x730 with
 | zero => rfl
 | succ n ih =>
  refine (f65_0_round c lf _ x728 x729 x730).trans ?_
  have e : (fun x728 x729 x730 => lpK c env lf 6 fi65 2 2 [] [0, 1, 5] (x65_2_0) n (f65_0_c x728 x729 x730)) = f65_0 c lf n := by funext x728 x729 x730; exact ih x728 x729 x730
  show f65_0_s c lf (fun x728 x729 x730 => lpK c env lf 6 fi65 2 2 [] [0, 1, 5] (x65_2_0) n (f65_0_c x728 x729 x730)) x728 x729 x730 = _
  rw [e]; rfl
def f65_t (c : Orc) (lf : Nat) (lp0 : Int → Int → List T → Option (List T)) (l0 : List T) (n1 : Int) : Option (List T) :=
 (lp0 n1 0 l0).bind fun r732 =>
 some [T.i .i64 (asI (nth r732 1)), T.sl (asL (nth r732 2))]
def f65 (c : Orc) (lf : Nat) (l0 : List T) (n1 : Int) : Option (List T) := f65_t c lf (fun (x728 x729 : Int) (x730 : List T) => f65_0 c lf lf x728 x729 x730) l0 n1
theorem f65_raw (c : Orc) (lf : Nat) (l0 : List T) (n1 : Int) : funK c env lf 6 fi65 [.sl l0, .i .i64 n1] = f65_t c lf (fun (x728 x729 : Int) (x730 : List T) => lpK c env lf 6 fi65 2 2 [] [0, 1, 5] (x65_2_0) lf (f65_0_c x728 x729 x730)) l0 n1 := by kernel_rfl
theorem f65_eq (c : Orc) (lf : Nat) (l0 : List T) (n1 : Int) : funK c env lf 6 fi65 [.sl l0, .i .i64 n1] = f65 c lf l0 n1 := by
 refine (f65_raw c lf l0 n1).trans ?_
 have e0 : (fun (x728 x729 : Int) (x730 : List T) => lpK c env lf 6 fi65 2 2 [] [0, 1, 5] (x65_2_0) lf (f65_0_c x728 x729 x730)) = (fun (x728 x729 : Int) (x730 : List T) => f65_0 c lf lf x728 x729 x730) := by funext x728 x729 x730; exact f65_0_eq c lf lf x728 x729 x730
 rw [e0]; rfl
def f38_0_s (c : Orc) (lf : Nat) (L : Int → Int → List T → Option (List T)) (x743 : Int) (x744 : Int) (x745 : List T) : Option (List T) :=
 bif iLt x744 (x745.length : Int) then
  (c 36 [T.i .i64 x743]).bind fun r746 =>
  bif inR x744 x745.length then
  (c 36 [T.i .i64 (IntKind.wrap .i64 (x743 + 1))]).bind fun r747 =>
  bif inR x744 ((x745.set x744.toNat (T.setc (x745.getD x744.toNat T.u) 0 (T.s (asS (nth r746 0))))).length) then
  L (IntKind.wrap .i64 ((IntKind.wrap .i64 (x743 + 1)) + 1)) (IntKind.wrap .i64 (x744 + 1)) ((x745.set x744.toNat (T.setc (x745.getD x744.toNat T.u) 0 (T.s (asS (nth r746 0))))).set x744.toNat (T.setc ((x745.set x744.toNat (T.setc (x745.getD x744.toNat T.u) 0 (T.s (asS (nth r746 0))))).getD x744.toNat T.u) 1 (T.s (asS (nth r747 0)))))
  else none
  else none
 else
  some [T.i .i64 0, T.i .i64 x743, T.sl x745]
def f38_0_c (x743 x744 : Int) (x745 : List T) : CSt := ⟨[.rf 0 [] 0 none, .i .i64 x743, .i .i64 x744], [.row true [.s, .s] x745 0 false, .dead]⟩
theorem f38_0_round (c : Orc) (lf : Nat) (L : CSt → Option (List T)) (x743 : Int) (x744 : Int) (x745 : List T) :
 qa7 c env lf 6 fi38 2 2 [] [0, 1, 5] (x38_2_0) L (f38_0_c x743 x744 x745) = f38_0_s c lf (fun x743 x744 x745 => L (f38_0_c x743 x744 x745)) x743 x744 x745 := by kernel_rfl
def f38_0 (c : Orc) (lf : Nat) : Nat → Int → Int → List T → Option (List T)
 | 0 => fun _ _ _ => none
 | n + 1 => fun x743 x744 x745 => f38_0_s c lf (f38_0 c lf n) x743 x744 x745
theorem f38_0_eq (c : Orc) (lf n : Nat) (x743 x744 : Int) (x745 : List T) :
 lpK c env lf 6 fi38 2 2 [] [0, 1, 5] (x38_2_0) n (f38_0_c x743 x744 x745) = f38_0 c lf n x743 x744 x745 := by
 induction n generalizing x743 x744 x745 with
 | zero => rfl
 | succ n ih =>
  refine (f38_0_round c lf _ x743 x744 x745).trans ?_
  have e : (fun x743 x744 x745 => lpK c env lf 6 fi38 2 2 [] [0, 1, 5] (x38_2_0) n (f38_0_c x743 x744 x745)) = f38_0 c lf n := by funext x743 x744 x745; exact ih x743 x744 x745
  show f38_0_s c lf (fun x743 x744 x745 => lpK c env lf 6 fi38 2 2 [] [0, 1, 5] (x38_2_0) n (f38_0_c x743 x744 x745)) x743 x744 x745 = _
  rw [e]; rfl
def f38_t (c : Orc) (lf : Nat) (lp0 : Int → Int → List T → Option (List T)) (l0 : List T) (n1 : Int) : Option (List T) :=
 (lp0 n1 0 l0).bind fun r748 =>
 some [T.i .i64 (asI (nth r748 1)), T.sl (asL (nth r748 2))]
def f38 (c : Orc) (lf : Nat) (l0 : List T) (n1 : Int) : Option (List T) := f38_t c lf (fun (x743 x744 : Int) (x745 : List T) => f38_0 c lf lf x743 x744 x745) l0 n1
theorem f38_raw (c : Orc) (lf : Nat) (l0 : List T) (n1 : Int) : funK c env lf 6 fi38 [.sl l0, .i .i64 n1] = f38_t c lf (fun (x743 x744 : Int) (x745 : List T) => lpK c env lf 6 fi38 2 2 [] [0, 1, 5] (x38_2_0) lf (f38_0_c x743 x744 x745)) l0 n1 := by kernel_rfl
theorem f38_eq (c : Orc) (lf : Nat) (l0 : List T) (n1 : Int) : funK c env lf 6 fi38 [.sl l0, .i .i64 n1] = f38 c lf l0 n1 := by
 refine (f38_raw c lf l0 n1).trans ?_
 have e0 : (fun (x743 x744 : Int) (x745 : List T) => lpK c env lf 6 fi38 2 2 [] [0, 1, 5] (x38_2_0) lf (f38_0_c x743 x744 x745)) = (fun (x743 x744 : Int) (x745 : List T) => f38_0 c lf lf x743 x744 x745) := by funext x743 x744 x745; exact f38_0_eq c lf lf x743 x744 x745
 rw [e0]; rfl
def f35_0_s (c : Orc) (lf : Nat) (L : Int → Int → List T → Option (List T)) (x762 : Int) (x763 : Int) (x764 : List T) : Option (List T) :=
 bif iLt x763 (x764.length : Int) then
  bif inR x763 x764.length then
  bif inR x763 ((x764.set x763.toNat (T.setc (x764.getD x763.toNat T.u) 0 (T.i .i64 x762))).length) then
  bif inR x763 (((x764.set x763.toNat (T.setc (x764.getD x763.toNat T.u) 0 (T.i .i64 x762))).set x763.toNat (T.setc ((x764.set x763.toNat (T.setc (x764.getD x763.toNat T.u) 0 (T.i .i64 x762))).getD x763.toNat T.u) 1 (T.i .i64 (IntKind.wrap .i64 (x762 + 1))))).length) then
  bif inR x763 ((((x764.set x763.toNat (T.setc (x764.getD x763.toNat T.u) 0 (T.i .i64 x762))).set x763.toNat (T.setc ((x764.set x763.toNat (T.setc (x764.getD x763.toNat T.u) 0 (T.i .i64 x762))).getD x763.toNat T.u) 1 (T.i .i64 (IntKind.wrap .i64 (x762 + 1))))).set x763.toNat (T.setc (((x764.set x763.toNat (T.setc (x764.getD x763.toNat T.u) 0 (T.i .i64 x762))).set x763.toNat (T.setc ((x764.set x763.toNat (T.setc (x764.getD x763.toNat T.u) 0 (T.i .i64 x762))).getD x763.toNat T.u) 1 (T.i .i64 (IntKind.wrap .i64 (x762 + 1))))).getD x763.toNat T.u) 2 (T.i .i64 (IntKind.wrap .i64 ((IntKind.wrap .i64 (x762 + 1)) + 1))))).length) then
  (c 37 [T.sl (asL (T.cell ((((x764.set x763.toNat (T.setc (x764.getD x763.toNat T.u) 0 (T.i .i64 x762))).set x763.toNat (T.setc ((x764.set x763.toNat (T.setc (x764.getD x763.toNat T.u) 0 (T.i .i64 x762))).getD x763.toNat T.u) 1 (T.i .i64 (IntKind.wrap .i64 (x762 + 1))))).set x763.toNat (T.setc (((x764.set x763.toNat (T.setc (x764.getD x763.toNat T.u) 0 (T.i .i64 x762))).set x763.toNat (T.setc ((x764.set x763.toNat (T.setc (x764.getD x763.toNat T.u) 0 (T.i .i64 x762))).getD x763.toNat T.u) 1 (T.i .i64 (IntKind.wrap .i64 (x762 + 1))))).getD x763.toNat T.u) 2 (T.i .i64 (IntKind.wrap .i64 ((IntKind.wrap .i64 (x762 + 1)) + 1))))).getD x763.toNat T.u) 3)), T.i .i64 (IntKind.wrap .i64 ((IntKind.wrap .i64 ((IntKind.wrap .i64 (x762 + 1)) + 1)) + 1))]).bind fun r765 =>
  bif inR x763 (((((x764.set x763.toNat (T.setc (x764.getD x763.toNat T.u) 0 (T.i .i64 x762))).set x763.toNat (T.setc ((x764.set x763.toNat (T.setc (x764.getD x763.toNat T.u) 0 (T.i .i64 x762))).getD x763.toNat T.u) 1 (T.i .i64 (IntKind.wrap .i64 (x762 + 1))))).set x763.toNat (T.setc (((x764.set x763.toNat (T.setc (x764.getD x763.toNat T.u) 0 (T.i .i64 x762))).set x763.toNat (T.setc ((x764.set x763.toNat (T.setc (x764.getD x763.toNat T.u) 0 (T.i .i64 x762))).getD x763.toNat T.u) 1 (T.i .i64 (IntKind.wrap .i64 (x762 + 1))))).getD x763.toNat T.u) 2 (T.i .i64 (IntKind.wrap .i64 ((IntKind.wrap .i64 (x762 + 1)) + 1))))).set x763.toNat (T.setc ((((x764.set x763.toNat (T.setc (x764.getD x763.toNat T.u) 0 (T.i .i64 x762))).set x763.toNat (T.setc ((x764.set x763.toNat (T.setc (x764.getD x763.toNat T.u) 0 (T.i .i64 x762))).getD x763.toNat T.u) 1 (T.i .i64 (IntKind.wrap .i64 (x762 + 1))))).set x763.toNat (T.setc (((x764.set x763.toNat (T.setc (x764.getD x763.toNat T.u) 0 (T.i .i64 x762))).set x763.toNat (T.setc ((x764.set x763.toNat (T.setc (x764.getD x763.toNat T.u) 0 (T.i .i64 x762))).getD x763.toNat T.u) 1 (T.i .i64 (IntKind.wrap .i64 (x762 + 1))))).getD x763.toNat T.u) 2 (T.i .i64 (IntKind.wrap .i64 ((IntKind.wrap .i64 (x762 + 1)) + 1))))).getD x763.toNat T.u) 3 (T.sl (asL (nth r765 1))))).length) then
  (c 65 [T.sl (asL (T.cell (((((x764.set x763.toNat (T.setc (x764.getD x763.toNat T.u) 0 (T.i .i64 x762))).set x763.toNat (T.setc ((x764.set x763.toNat (T.setc (x764.getD x763.toNat T.u) 0 (T.i .i64 x762))).getD x763.toNat T.u) 1 (T.i .i64 (IntKind.wrap .i64 (x762 + 1))))).set x763.toNat (T.setc (((x764.set x763.toNat (T.setc (x764.getD x763.toNat T.u) 0 (T.i .i64 x762))).set x763.toNat (T.setc ((x764.set x763.toNat (T.setc (x764.getD x763.toNat T.u) 0 (T.i .i64 x762))).getD x763.toNat T.u) 1 (T.i .i64 (IntKind.wrap .i64 (x762 + 1))))).getD x763.toNat T.u) 2 (T.i .i64 (IntKind.wrap .i64 ((IntKind.wrap .i64 (x762 + 1)) + 1))))).set x763.toNat (T.setc ((((x764.set x763.toNat (T.setc (x764.getD x763.toNat T.u) 0 (T.i .i64 x762))).set x763.toNat (T.setc ((x764.set x763.toNat (T.setc (x764.getD x763.toNat T.u) 0 (T.i .i64 x762))).getD x763.toNat T.u) 1 (T.i .i64 (IntKind.wrap .i64 (x762 + 1))))).set x763.toNat (T.setc (((x764.set x763.toNat (T.setc (x764.getD x763.toNat T.u) 0 (T.i .i64 x762))).set x763.toNat (T.setc ((x764.set x763.toNat (T.setc (x764.getD x763.toNat T.u) 0 (T.i .i64 x762))).getD x763.toNat T.u) 1 (T.i .i64 (IntKind.wrap .i64 (x762 + 1))))).getD x763.toNat T.u) 2 (T.i .i64 (IntKind.wrap .i64 ((IntKind.wrap .i64 (x762 + 1)) + 1))))).getD x763.toNat T.u) 3 (T.sl (asL (nth r765 1))))).getD x763.toNat T.u) 4)), T.i .i64 (asI (nth r765 0))]).bind fun r766 =>
  bif inR x763 ((((((x764.set x763.toNat (T.setc (x764.getD x763.toNat T.u) 0 (T.i .i64 x762))).set x763.toNat (T.setc ((x764.set x763.toNat (T.setc (x764.getD x763.toNat T.u) 0 (T.i .i64 x762))).getD x763.toNat T.u) 1 (T.i .i64 (IntKind.wrap .i64 (x762 + 1))))).set x763.toNat (T.setc (((x764.set x763.toNat (T.setc (x764.getD x763.toNat T.u) 0 (T.i .i64 x762))).set x763.toNat (T.setc ((x764.set x763.toNat (T.setc (x764.getD x763.toNat T.u) 0 (T.i .i64 x762))).getD x763.toNat T.u) 1 (T.i .i64 (IntKind.wrap .i64 (x762 + 1))))).getD x763.toNat T.u) 2 (T.i .i64 (IntKind.wrap .i64 ((IntKind.wrap .i64 (x762 + 1)) + 1))))).set x763.toNat (T.setc ((((x764.set x763.toNat (T.setc (x764.getD x763.toNat T.u) 0 (T.i .i64 x762))).set x763.toNat (T.setc ((x764.set x763.toNat (T.setc (x764.getD x763.toNat T.u) 0 (T.i .i64 x762))).getD x763.toNat T.u) 1 (T.i .i64 (IntKind.wrap .i64 (x762 + 1))))).set x763.toNat (T.setc (((x764.set x763.toNat (T.setc (x764.getD x763.toNat T.u) 0 (T.i .i64 x762))).set x763.toNat (T.setc ((x764.set x763.toNat (T.setc (x764.getD x763.toNat T.u) 0 (T.i .i64 x762))).getD x763.toNat T.u) 1 (T.i .i64 (IntKind.wrap .i64 (x762 + 1))))).getD x763.toNat T.u) 2 (T.i .i64 (IntKind.wrap .i64 ((IntKind.wrap .i64 (x762 + 1)) + 1))))).getD x763.toNat T.u) 3 (T.sl (asL (nth r765 1))))).set x763.toNat (T.setc (((((x764.set x763.toNat (T.setc (x764.getD x763.toNat T.u) 0 (T.i .i64 x762))).set x763.toNat (T.setc ((x764.set x763.toNat (T.setc (x764.getD x763.toNat T.u) 0 (T.i .i64 x762))).getD x763.toNat T.u) 1 (T.i .i64 (IntKind.wrap .i64 (x762 + 1))))).set x763.toNat (T.setc (((x764.set x763.toNat (T.setc (x764.getD x763.toNat T.u) 0 (T.i .i64 x762))).set x763.toNat (T.setc ((x764.set x763.toNat (T.setc (x764.getD x763.toNat T.u) 0 (T.i .i64 x762))).getD x763.toNat T.u) 1 (T.i .i64 (IntKind.wrap .i64 (x762 + 1))))).getD x763.toNat T.u) 2 (T.i .i64 (IntKind.wrap .i64 ((IntKind.wrap .i64 (x762 + 1)) + 1))))).set x763.toNat (T.setc ((((x764.set x763.toNat (T.setc (x764.getD x763.toNat T.u) 0 (T.i .i64 x762))).set x763.toNat (T.setc ((x764.set x763.toNat (T.setc (x764.getD x763.toNat T.u) 0 (T.i .i64 x762))).getD x763.toNat T.u) 1 (T.i .i64 (IntKind.wrap .i64 (x762 + 1))))).set x763.toNat (T.setc (((x764.set x763.toNat (T.setc (x764.getD x763.toNat T.u) 0 (T.i .i64 x762))).set x763.toNat (T.setc ((x764.set x763.toNat (T.setc (x764.getD x763.toNat T.u) 0 (T.i .i64 x762))).getD x763.toNat T.u) 1 (T.i .i64 (IntKind.wrap .i64 (x762 + 1))))).getD x763.toNat T.u) 2 (T.i .i64 (IntKind.wrap .i64 ((IntKind.wrap .i64 (x762 + 1)) + 1))))).getD x763.toNat T.u) 3 (T.sl (asL (nth r765 1))))).getD x763.toNat T.u) 4 (T.sl (asL (nth r766 1))))).length) then
  (c 38 [T.sl (asL (T.cell ((((((x764.set x763.toNat (T.setc (x764.getD x763.toNat T.u) 0 (T.i .i64 x762))).set x763.toNat (T.setc ((x764.set x763.toNat (T.setc (x764.getD x763.toNat T.u) 0 (T.i .i64 x762))).getD x763.toNat T.u) 1 (T.i .i64 (IntKind.wrap .i64 (x762 + 1))))).set x763.toNat (T.setc (((x764.set x763.toNat (T.setc (x764.getD x763.toNat T.u) 0 (T.i .i64 x762))).set x763.toNat (T.setc ((x764.set x763.toNat (T.setc (x764.getD x763.toNat T.u) 0 (T.i .i64 x762))).getD x763.toNat T.u) 1 (T.i .i64 (IntKind.wrap .i64 (x762 + 1))))).getD x763.toNat T.u) 2 (T.i .i64 (IntKind.wrap .i64 ((IntKind.wrap .i64 (x762 + 1)) + 1))))).set x763.toNat (T.setc ((((x764.set x763.toNat (T.setc (x764.getD x763.toNat T.u) 0 (T.i .i64 x762))).set x763.toNat (T.setc ((x764.set x763.toNat (T.setc (x764.getD x763.toNat T.u) 0 (T.i .i64 x762))).getD x763.toNat T.u) 1 (T.i .i64 (IntKind.wrap .i64 (x762 + 1))))).set x763.toNat (T.setc (((x764.set x763.toNat (T.setc (x764.getD x763.toNat T.u) 0 (T.i .i64 x762))).set x763.toNat (T.setc ((x764.set x763.toNat (T.setc (x764.getD x763.toNat T.u) 0 (T.i .i64 x762))).getD x763.toNat T.u) 1 (T.i .i64 (IntKind.wrap .i64 (x762 + 1))))).getD x763.toNat T.u) 2 (T.i .i64 (IntKind.wrap .i64 ((IntKind.wrap .i64 (x762 + 1)) + 1))))).getD x763.toNat T.u) 3 (T.sl (asL (nth r765 1))))).set x763.toNat (T.setc (((((x764.set x763.toNat (T.setc (x764.getD x763.toNat T.u) 0 (T.i .i64 x762))).set x763.toNat (T.setc ((x764.set x763.toNat (T.setc (x764.getD x763.toNat T.u) 0 (T.i .i64 x762))).getD x763.toNat T.u) 1 (T.i .i64 (IntKind.wrap .i64 (x762 + 1))))).set x763.toNat (T.setc (((x764.set x763.toNat (T.setc (x764.getD x763.toNat T.u) 0 (T.i .i64 x762))).set x763.toNat (T.setc ((x764.set x763.toNat (T.setc (x764.getD x763.toNat T.u) 0 (T.i .i64 x762))).getD x763.toNat T.u) 1 (T.i .i64 (IntKind.wrap .i64 (x762 + 1))))).getD x763.toNat T.u) 2 (T.i .i64 (IntKind.wrap .i64 ((IntKind.wrap .i64 (x762 + 1)) + 1))))).set x763.toNat (T.setc ((((x764.set x763.toNat (T.setc (x764.getD x763.toNat T.u) 0 (T.i .i64 x762))).set x763.toNat (T.setc ((x764.set x763.toNat (T.setc (x764.getD x763.toNat T.u) 0 (T.i .i64 x762))).getD x763.toNat T.u) 1 (T.i .i64 (IntKind.wrap .i64 (x762 + 1))))).set x763.toNat (T.setc (((x764.set x763.toNat (T.setc (x764.getD x763.toNat T.u) 0 (T.i .i64 x762))).set x763.toNat (T.setc ((x764.set x763.toNat (T.setc (x764.getD x763.toNat T.u) 0 (T.i .i64 x762))).getD x763.toNat T.u) 1 (T.i .i64 (IntKind.wrap .i64 (x762 + 1))))).getD x763.toNat T.u) 2 (T.i .i64 (IntKind.wrap .i64 ((IntKind.wrap .i64 (x762 + 1)) + 1))))).getD x763.toNat T.u) 3 (T.sl (asL (nth r765 1))))).getD x763.toNat T.u) 4 (T.sl (asL (nth r766 1))))).getD x763.toNat T.u) 5)), T.i .i64 (asI (nth r766 0))]).bind fun r767 =>
  L (asI (nth r767 0)) (IntKind.wrap .i64 (x763 + 1)) ((((((x764.set x763.toNat (T.setc (x764.getD x763.toNat T.u) 0 (T.i .i64 x762))).set x763.toNat (T.setc ((x764.set x763.toNat (T.setc (x764.getD x763.toNat T.u) 0 (T.i .i64 x762))).getD x763.toNat T.u) 1 (T.i .i64 (IntKind.wrap .i64 (x762 + 1))))).set x763.toNat (T.setc (((x764.set x763.toNat (T.setc (x764.getD x763.toNat T.u) 0 (T.i .i64 x762))).set x763.toNat (T.setc ((x764.set x763.toNat (T.setc (x764.getD x763.toNat T.u) 0 (T.i .i64 x762))).getD x763.toNat T.u) 1 (T.i .i64 (IntKind.wrap .i64 (x762 + 1))))).getD x763.toNat T.u) 2 (T.i .i64 (IntKind.wrap .i64 ((IntKind.wrap .i64 (x762 + 1)) + 1))))).set x763.toNat (T.setc ((((x764.set x763.toNat (T.setc (x764.getD x763.toNat T.u) 0 (T.i .i64 x762))).set x763.toNat (T.setc ((x764.set x763.toNat (T.setc (x764.getD x763.toNat T.u) 0 (T.i .i64 x762))).getD x763.toNat T.u) 1 (T.i .i64 (IntKind.wrap .i64 (x762 + 1))))).set x763.toNat (T.setc (((x764.set x763.toNat (T.setc (x764.getD x763.toNat T.u) 0 (T.i .i64 x762))).set x763.toNat (T.setc ((x764.set x763.toNat (T.setc (x764.getD x763.toNat T.u) 0 (T.i .i64 x762))).getD x763.toNat T.u) 1 (T.i .i64 (IntKind.wrap .i64 (x762 + 1))))).getD x763.toNat T.u) 2 (T.i .i64 (IntKind.wrap .i64 ((IntKind.wrap .i64 (x762 + 1)) + 1))))).getD x763.toNat T.u) 3 (T.sl (asL (nth r765 1))))).set x763.toNat (T.setc (((((x764.set x763.toNat (T.setc (x764.getD x763.toNat T.u) 0 (T.i .i64 x762))).set x763.toNat (T.setc ((x764.set x763.toNat (T.setc (x764.getD x763.toNat T.u) 0 (T.i .i64 x762))).getD x763.toNat T.u) 1 (T.i .i64 (IntKind.wrap .i64 (x762 + 1))))).set x763.toNat (T.setc (((x764.set x763.toNat (T.setc (x764.getD x763.toNat T.u) 0 (T.i .i64 x762))).set x763.toNat (T.setc ((x764.set x763.toNat (T.setc (x764.getD x763.toNat T.u) 0 (T.i .i64 x762))).getD x763.toNat T.u) 1 (T.i .i64 (IntKind.wrap .i64 (x762 + 1))))).getD x763.toNat T.u) 2 (T.i .i64 (IntKind.wrap .i64 ((IntKind.wrap .i64 (x762 + 1)) + 1))))).set x763.toNat (T.setc ((((x764.set x763.toNat (T.setc (x764.getD x763.toNat T.u) 0 (T.i .i64 x762))).set x763.toNat (T.setc ((x764.set x763.toNat (T.setc (x764.getD x763.toNat T.u) 0 (T.i .i64 x762))).getD x763.toNat T.u) 1 (T.i .i64 (IntKind.wrap .i64 (x762 + 1))))).set x763.toNat (T.setc (((x764.set x763.toNat (T.setc (x764.getD x763.toNat T.u) 0 (T.i .i64 x762))).set x763.toNat (T.setc ((x764.set x763.toNat (T.setc (x764.getD x763.toNat T.u) 0 (T.i .i64 x762))).getD x763.toNat T.u) 1 (T.i .i64 (IntKind.wrap .i64 (x762 + 1))))).getD x763.toNat T.u) 2 (T.i .i64 (IntKind.wrap .i64 ((IntKind.wrap .i64 (x762 + 1)) + 1))))).getD x763.toNat T.u) 3 (T.sl (asL (nth r765 1))))).getD x763.toNat T.u) 4 (T.sl (asL (nth r766 1))))).set x763.toNat (T.setc ((((((x764.set x763.toNat (T.setc (x764.getD x763.toNat T.u) 0 (T.i .i64 x762))).set x763.toNat (T.setc ((x764.set x763.toNat (T.setc (x764.getD x763.toNat T.u) 0 (T.i .i64 x762))).getD x763.toNat T.u) 1 (T.i .i64 (IntKind.wrap .i64 (x762 + 1))))).set x763.toNat (T.setc (((x764.set x763.toNat (T.setc (x764.getD x763.toNat T.u) 0 (T.i .i64 x762))).set x763.toNat (T.setc ((x764.set x763.toNat (T.setc (x764.getD x763.toNat T.u) 0 (T.i .i64 x762))).getD x763.toNat T.u) 1 (T.i .i64 (IntKind.wrap .i64 (x762 + 1))))).getD x763.toNat T.u) 2 (T.i .i64 (IntKind.wrap .i64 ((IntKind.wrap .i64 (x762 + 1)) + 1))))).set x763.toNat (T.setc ((((x764.set x763.toNat (T.setc (x764.getD x763.toNat T.u) 0 (T.i .i64 x762))).set x763.toNat (T.setc ((x764.set x763.toNat (T.setc (x764.getD x763.toNat T.u) 0 (T.i .i64 x762))).getD x763.toNat T.u) 1 (T.i .i64 (IntKind.wrap .i64 (x762 + 1))))).set x763.toNat (T.setc (((x764.set x763.toNat (T.setc (x764.getD x763.toNat T.u) 0 (T.i .i64 x762))).set x763.toNat (T.setc ((x764.set x763.toNat (T.setc (x764.getD x763.toNat T.u) 0 (T.i .i64 x762))).getD x763.toNat T.u) 1 (T.i .i64 (IntKind.wrap .i64 (x762 + 1))))).getD x763.toNat T.u) 2 (T.i .i64 (IntKind.wrap .i64 ((IntKind.wrap .i64 (x762 + 1)) + 1))))).getD x763.toNat T.u) 3 (T.sl (asL (nth r765 1))))).set x763.toNat (T.setc (((((x764.set x763.toNat (T.setc (x764.getD x763.toNat T.u) 0 (T.i .i64 x762))).set x763.toNat (T.setc ((x764.set x763.toNat (T.setc (x764.getD x763.toNat T.u) 0 (T.i .i64 x762))).getD x763.toNat T.u) 1 (T.i .i64 (IntKind.wrap .i64 (x762 + 1))))).set x763.toNat (T.setc (((x764.set x763.toNat (T.setc (x764.getD x763.toNat T.u) 0 (T.i .i64 x762))).set x763.toNat (T.setc ((x764.set x763.toNat (T.setc (x764.getD x763.toNat T.u) 0 (T.i .i64 x762))).getD x763.toNat T.u) 1 (T.i .i64 (IntKind.wrap .i64 (x762 + 1))))).getD x763.toNat T.u) 2 (T.i .i64 (IntKind.wrap .i64 ((IntKind.wrap .i64 (x762 + 1)) + 1))))).set x763.toNat (T.setc ((((x764.set x763.toNat (T.setc (x764.getD x763.toNat T.u) 0 (T.i .i64 x762))).set x763.toNat (T.setc ((x764.set x763.toNat (T.setc (x764.getD x763.toNat T.u) 0 (T.i .i64 x762))).getD x763.toNat T.u) 1 (T.i .i64 (IntKind.wrap .i64 (x762 + 1))))).set x763.toNat (T.setc (((x764.set x763.toNat (T.setc (x764.getD x763.toNat T.u) 0 (T.i .i64 x762))).set x763.toNat (T.setc ((x764.set x763.toNat (T.setc (x764.getD x763.toNat T.u) 0 (T.i .i64 x762))).getD x763.toNat T.u) 1 (T.i .i64 (IntKind.wrap .i64 (x762 + 1))))).getD x763.toNat T.u) 2 (T.i .i64 (IntKind.wrap .i64 ((IntKind.wrap .i64 (x762 + 1)) + 1))))).getD x763.toNat T.u) 3 (T.sl (asL (nth r765 1))))).getD x763.toNat T.u) 4 (T.sl (asL (nth r766 1))))).getD x763.toNat T.u) 5 (T.sl (asL (nth r767 1)))))
  else none
  else none
  else none
  else none
  else none
  else none
 else
  some [T.i .i64 0, T.i .i64 x762, T.sl x764]
def f35_0_c (x762 x763 : Int) (x764 : List T) : CSt := ⟨[.rf 0 [] 0 none, .i .i64 x762, .i .i64 x763], [.row true [.i .i64, .i .i64, .i .i64, .sl false [.i .u8], .sl true [.s, .i .i64], .sl true [.s, .s]] x764 0 false, .dead]⟩
theorem f35_0_round (c : Orc) (lf : Nat) (L : CSt → Option (List T)) (x762 : Int) (x763 : Int) (x764 : List T) :
 qa7 c env lf 6 fi35 2 2 [] [0, 1, 5] (x35_2_0) L (f35_0_c x762 x763 x764) = f35_0_s c lf (fun x762 x763 x764 => L (f35_0_c x762 x763 x764)) x762 x763 x764 := by kernel_rfl
def f35_0 (c : Orc) (lf : Nat) : Nat → Int → Int → List T → Option (List T)
 | 0 => fun _ _ _ => none
 | n + 1 => fun x762 x763 x764 => f35_0_s c lf (f35_0 c lf n) x762 x763 x764
theorem f35_0_u (c : Orc) (lf n : Nat) (x762 x763 : Int) (x764 : List T) : f35_0 c lf (n + 1) x762 x763 x764 = f35_0_s c lf (f35_0 c lf n) x762 x763 x764 := rfl
theorem f35_0_eq (c : Orc) (lf n : Nat) (x762 x763 : Int) (x764 : List T) :
 lpK c env lf 6 fi35 2 2 [] [0, 1, 5] (x35_2_0) n (f35_0_c x762 x763 x764) = f35_0 c lf n x762 x763 x764 := by
 induction n generalizing x762 x763 x764 with
 | zero => rfl
 | succ n ih =>
  refine (f35_0_round c lf _ x762 x763 x764).trans ?_
  have e : (fun x762 x763 x764 => lpK c env lf 6 fi35 2 2 [] [0, 1, 5] (x35_2_0) n (f35_0_c x762 x763 x764)) = f35_0 c lf n := by funext x762 x763 x764; exact ih x762 x763 x764
  show f35_0_s c lf (fun x762 x763 x764 => lpK c env lf 6 fi35 2 2 [] [0, 1, 5] (x35_2_0) n (f35_0_c x762 x763 x764)) x762 x763 x764 = _
  rw [e]; rfl
def f35_t (c : Orc) (lf : Nat) (lp0 : Int → Int → List T → Option (List T)) (l0 : List T) (n1 : Int) : Option (List T) :=
 (lp0 n1 0 l0).bind fun r768 =>
 some [T.i .i64 (asI (nth r768 1)), T.sl (asL (nth r768 2))]
def f35 (c : Orc) (lf : Nat) (l0 : List T) (n1 : Int) : Option (List T) := f35_t c lf (fun (x762 x763 : Int) (x764 : List T) => f35_0 c lf lf x762 x763 x764) l0 n1
theorem f35_raw (c : Orc) (lf : Nat) (l0 : List T) (n1 : Int) : funK c env lf 6 fi35 [.sl l0, .i .i64 n1] = f35_t c lf (fun (x762 x763 : Int) (x764 : List T) => lpK c env lf 6 fi35 2 2 [] [0, 1, 5] (x35_2_0) lf (f35_0_c x762 x763 x764)) l0 n1 := by kernel_rfl
theorem f35_eq (c : Orc) (lf : Nat) (l0 : List T) (n1 : Int) : funK c env lf 6 fi35 [.sl l0, .i .i64 n1] = f35 c lf l0 n1 := by
 refine (f35_raw c lf l0 n1).trans ?_
 have e0 : (fun (x762 x763 : Int) (x764 : List T) => lpK c env lf 6 fi35 2 2 [] [0, 1, 5] (x35_2_0) lf (f35_0_c x762 x763 x764)) = (fun (x762 x763 : Int) (x764 : List T) => f35_0 c lf lf x762 x763 x764) := by funext x762 x763 x764; exact f35_0_eq c lf lf x762 x763 x764
 rw [e0]; rfl
def f13_t (c : Orc) (lf : Nat) (l0_0 : List T) (n0_1 n1 : Int) : Option (List T) :=
 (c 35 [T.sl l0_0, T.i .i64 n1]).bind fun r769 =>
 some [T.i .i64 (asI (nth r769 0)), T.sl (asL (nth r769 1))]
def f13 (c : Orc) (lf : Nat) (l0_0 : List T) (n0_1 n1 : Int) : Option (List T) := f13_t c lf l0_0 n0_1 n1
theorem f13_eq (c : Orc) (lf : Nat) (l0_0 : List T) (n0_1 n1 : Int) : funK c env lf 6 fi13 [.st [.sl l0_0, .i .i64 n0_1], .i .i64 n1] = f13 c lf l0_0 n0_1 n1 := by kernel_rfl
def f14_0_s (c : Orc) (lf : Nat) (L : Int → Int → List T → Option (List T)) (x786 : Int) (x787 : Int) (x788 : List T) : Option (List T) :=
 bif iLt x787 (x788.length : Int) then
  (c 36 [T.i .i64 x786]).bind fun r789 =>
  bif inR x787 x788.length then
  bif inR x787 ((x788.set x787.toNat (T.setc (x788.getD x787.toNat T.u) 0 (T.s (asS (nth r789 0))))).length) then
  bif inR x787 (((x788.set x787.toNat (T.setc (x788.getD x787.toNat T.u) 0 (T.s (asS (nth r789 0))))).set x787.toNat (T.setc ((x788.set x787.toNat (T.setc (x788.getD x787.toNat T.u) 0 (T.s (asS (nth r789 0))))).getD x787.toNat T.u) 1 (T.i .i64 (IntKind.wrap .i64 (x786 + 1))))).length) then
  (c 37 [T.sl (asL (T.cell (((x788.set x787.toNat (T.setc (x788.getD x787.toNat T.u) 0 (T.s (asS (nth r789 0))))).set x787.toNat (T.setc ((x788.set x787.toNat (T.setc (x788.getD x787.toNat T.u) 0 (T.s (asS (nth r789 0))))).getD x787.toNat T.u) 1 (T.i .i64 (IntKind.wrap .i64 (x786 + 1))))).getD x787.toNat T.u) 2)), T.i .i64 (IntKind.wrap .i64 ((IntKind.wrap .i64 (x786 + 1)) + 1))]).bind fun r790 =>
  bif inR x787 ((((x788.set x787.toNat (T.setc (x788.getD x787.toNat T.u) 0 (T.s (asS (nth r789 0))))).set x787.toNat (T.setc ((x788.set x787.toNat (T.setc (x788.getD x787.toNat T.u) 0 (T.s (asS (nth r789 0))))).getD x787.toNat T.u) 1 (T.i .i64 (IntKind.wrap .i64 (x786 + 1))))).set x787.toNat (T.setc (((x788.set x787.toNat (T.setc (x788.getD x787.toNat T.u) 0 (T.s (asS (nth r789 0))))).set x787.toNat (T.setc ((x788.set x787.toNat (T.setc (x788.getD x787.toNat T.u) 0 (T.s (asS (nth r789 0))))).getD x787.toNat T.u) 1 (T.i .i64 (IntKind.wrap .i64 (x786 + 1))))).getD x787.toNat T.u) 2 (T.sl (asL (nth r790 1))))).length) then
  (c 38 [T.sl (asL (T.cell ((((x788.set x787.toNat (T.setc (x788.getD x787.toNat T.u) 0 (T.s (asS (nth r789 0))))).set x787.toNat (T.setc ((x788.set x787.toNat (T.setc (x788.getD x787.toNat T.u) 0 (T.s (asS (nth r789 0))))).getD x787.toNat T.u) 1 (T.i .i64 (IntKind.wrap .i64 (x786 + 1))))).set x787.toNat (T.setc (((x788.set x787.toNat (T.setc (x788.getD x787.toNat T.u) 0 (T.s (asS (nth r789 0))))).set x787.toNat (T.setc ((x788.set x787.toNat (T.setc (x788.getD x787.toNat T.u) 0 (T.s (asS (nth r789 0))))).getD x787.toNat T.u) 1 (T.i .i64 (IntKind.wrap .i64 (x786 + 1))))).getD x787.toNat T.u) 2 (T.sl (asL (nth r790 1))))).getD x787.toNat T.u) 3)), T.i .i64 (asI (nth r790 0))]).bind fun r791 =>
  (c 36 [T.i .i64 (asI (nth r791 0))]).bind fun r792 =>
  bif inR x787 (((((x788.set x787.toNat (T.setc (x788.getD x787.toNat T.u) 0 (T.s (asS (nth r789 0))))).set x787.toNat (T.setc ((x788.set x787.toNat (T.setc (x788.getD x787.toNat T.u) 0 (T.s (asS (nth r789 0))))).getD x787.toNat T.u) 1 (T.i .i64 (IntKind.wrap .i64 (x786 + 1))))).set x787.toNat (T.setc (((x788.set x787.toNat (T.setc (x788.getD x787.toNat T.u) 0 (T.s (asS (nth r789 0))))).set x787.toNat (T.setc ((x788.set x787.toNat (T.setc (x788.getD x787.toNat T.u) 0 (T.s (asS (nth r789 0))))).getD x787.toNat T.u) 1 (T.i .i64 (IntKind.wrap .i64 (x786 + 1))))).getD x787.toNat T.u) 2 (T.sl (asL (nth r790 1))))).set x787.toNat (T.setc ((((x788.set x787.toNat (T.setc (x788.getD x787.toNat T.u) 0 (T.s (asS (nth r789 0))))).set x787.toNat (T.setc ((x788.set x787.toNat (T.setc (x788.getD x787.toNat T.u) 0 (T.s (asS (nth r789 0))))).getD x787.toNat T.u) 1 (T.i .i64 (IntKind.wrap .i64 (x786 + 1))))).set x787.toNat (T.setc (((x788.set x787.toNat (T.setc (x788.getD x787.toNat T.u) 0 (T.s (asS (nth r789 0))))).set x787.toNat (T.setc ((x788.set x787.toNat (T.setc (x788.getD x787.toNat T.u) 0 (T.s (asS (nth r789 0))))).getD x787.toNat T.u) 1 (T.i .i64 (IntKind.wrap .i64 (x786 + 1))))).getD x787.toNat T.u) 2 (T.sl (asL (nth r790 1))))).getD x787.toNat T.u) 3 (T.sl (asL (nth r791 1))))).length) then
  L (IntKind.wrap .i64 ((asI (nth r791 0)) + 1)) (IntKind.wrap .i64 (x787 + 1)) (((((x788.set x787.toNat (T.setc (x788.getD x787.toNat T.u) 0 (T.s (asS (nth r789 0))))).set x787.toNat (T.setc ((x788.set x787.toNat (T.setc (x788.getD x787.toNat T.u) 0 (T.s (asS (nth r789 0))))).getD x787.toNat T.u) 1 (T.i .i64 (IntKind.wrap .i64 (x786 + 1))))).set x787.toNat (T.setc (((x788.set x787.toNat (T.setc (x788.getD x787.toNat T.u) 0 (T.s (asS (nth r789 0))))).set x787.toNat (T.setc ((x788.set x787.toNat (T.setc (x788.getD x787.toNat T.u) 0 (T.s (asS (nth r789 0))))).getD x787.toNat T.u) 1 (T.i .i64 (IntKind.wrap .i64 (x786 + 1))))).getD x787.toNat T.u) 2 (T.sl (asL (nth r790 1))))).set x787.toNat (T.setc ((((x788.set x787.toNat (T.setc (x788.getD x787.toNat T.u) 0 (T.s (asS (nth r789 0))))).set x787.toNat (T.setc ((x788.set x787.toNat (T.setc (x788.getD x787.toNat T.u) 0 (T.s (asS (nth r789 0))))).getD x787.toNat T.u) 1 (T.i .i64 (IntKind.wrap .i64 (x786 + 1))))).set x787.toNat (T.setc (((x788.set x787.toNat (T.setc (x788.getD x787.toNat T.u) 0 (T.s (asS (nth r789 0))))).set x787.toNat (T.setc ((x788.set x787.toNat (T.setc (x788.getD x787.toNat T.u) 0 (T.s (asS (nth r789 0))))).getD x787.toNat T.u) 1 (T.i .i64 (IntKind.wrap .i64 (x786 + 1))))).getD x787.toNat T.u) 2 (T.sl (asL (nth r790 1))))).getD x787.toNat T.u) 3 (T.sl (asL (nth r791 1))))).set x787.toNat (T.setc (((((x788.set x787.toNat (T.setc (x788.getD x787.toNat T.u) 0 (T.s (asS (nth r789 0))))).set x787.toNat (T.setc ((x788.set x787.toNat (T.setc (x788.getD x787.toNat T.u) 0 (T.s (asS (nth r789 0))))).getD x787.toNat T.u) 1 (T.i .i64 (IntKind.wrap .i64 (x786 + 1))))).set x787.toNat (T.setc (((x788.set x787.toNat (T.setc (x788.getD x787.toNat T.u) 0 (T.s (asS (nth r789 0))))).set x787.toNat (T.setc ((x788.set x787.toNat (T.setc (x788.getD x787.toNat T.u) 0 (T.s (asS (nth r789 0))))).getD x787.toNat T.u) 1 (T.i .i64 (IntKind.wrap .i64 (x786 + 1))))).getD x787.toNat T.u) 2 (T.sl (asL (nth r790 1))))).set x787.toNat (T.setc ((((x788.set x787.toNat (T.setc (x788.getD x787.toNat T.u) 0 (T.s (asS (nth r789 0))))).set x787.toNat (T.setc ((x788.set x787.toNat (T.setc (x788.getD x787.toNat T.u) 0 (T.s (asS (nth r789 0))))).getD x787.toNat T.u) 1 (T.i .i64 (IntKind.wrap .i64 (x786 + 1))))).set x787.toNat (T.setc (((x788.set x787.toNat (T.setc (x788.getD x787.toNat T.u) 0 (T.s (asS (nth r789 0))))).set x787.toNat (T.setc ((x788.set x787.toNat (T.setc (x788.getD x787.toNat T.u) 0 (T.s (asS (nth r789 0))))).getD x787.toNat T.u) 1 (T.i .i64 (IntKind.wrap .i64 (x786 + 1))))).getD x787.toNat T.u) 2 (T.sl (asL (nth r790 1))))).getD x787.toNat T.u) 3 (T.sl (asL (nth r791 1))))).getD x787.toNat T.u) 4 (T.s (asS (nth r792 0)))))
  else none
  else none
  else none
  else none
  else none
 else
  some [T.i .i64 0, T.i .i64 x786, T.sl x788]
def f14_0_c (x786 x787 : Int) (x788 : List T) : CSt := ⟨[.rf 0 [] 0 none, .i .i64 x786, .i .i64 x787], [.row true [.s, .i .i64, .sl false [.i .u8], .sl true [.s, .s], .s] x788 0 false, .dead]⟩
theorem f14_0_round (c : Orc) (lf : Nat) (L : CSt → Option (List T)) (x786 : Int) (x787 : Int) (x788 : List T) :
 qa7 c env lf 6 fi14 2 2 [] [0, 1, 5] (x14_2_0) L (f14_0_c x786 x787 x788) = f14_0_s c lf (fun x786 x787 x788 => L (f14_0_c x786 x787 x788)) x786 x787 x788 := by kernel_rfl
def f14_0 (c : Orc) (lf : Nat) : Nat → Int → Int → List T → Option (List T)
 | 0 => fun _ _ _ => none
 | n + 1 => fun x786 x787 x788 => f14_0_s c lf (f14_0 c lf n) x786 x787 x788
theorem f14_0_eq (c : Orc) (lf n : Nat) (x786 x787 : Int) (x788 : List T) :
 lpK c env lf 6 fi14 2 2 [] [0, 1, 5] (x14_2_0) n (f14_0_c x786 x787 x788) = f14_0 c lf n x786 x787 x788 := by
 induction n generalizing x786 x787 x788 with
 | zero => rfl
 | succ n ih =>
  refine (f14_0_round c lf _ x786 x787 x788).trans ?_
  have e : (fun x786 x787 x788 => lpK c env lf 6 fi14 2 2 [] [0, 1, 5] (x14_2_0) n (f14_0_c x786 x787 x788)) = f14_0 c lf n := by funext x786 x787 x788; exact ih x786 x787 x788
  show f14_0_s c lf (fun x786 x787 x788 => lpK c env lf 6 fi14 2 2 [] [0, 1, 5] (x14_2_0) n (f14_0_c x786 x787 x788)) x786 x787 x788 = _
  rw [e]; rfl
def f14_t (c : Orc) (lf : Nat) (lp0 : Int → Int → List T → Option (List T)) (l0 : List T) (n1 : Int) : Option (List T) :=
 (lp0 n1 0 l0).bind fun r793 =>
 some [T.i .i64 (asI (nth r793 1)), T.sl (asL (nth r793 2))]
def f14 (c : Orc) (lf : Nat) (l0 : List T) (n1 : Int) : Option (List T) := f14_t c lf (fun (x786 x787 : Int) (x788 : List T) => f14_0 c lf lf x786 x787 x788) l0 n1
theorem f14_raw (c : Orc) (lf : Nat) (l0 : List T) (n1 : Int) : funK c env lf 6 fi14 [.sl l0, .i .i64 n1] = f14_t c lf (fun (x786 x787 : Int) (x788 : List T) => lpK c env lf 6 fi14 2 2 [] [0, 1, 5] (x14_2_0) lf (f14_0_c x786 x787 x788)) l0 n1 := by kernel_rfl
theorem f14_eq (c : Orc) (lf : Nat) (l0 : List T) (n1 : Int) : funK c env lf 6 fi14 [.sl l0, .i .i64 n1] = f14 c lf l0 n1 := by
 refine (f14_raw c lf l0 n1).trans ?_
 have e0 : (fun (x786 x787 : Int) (x788 : List T) => lpK c env lf 6 fi14 2 2 [] [0, 1, 5] (x14_2_0) lf (f14_0_c x786 x787 x788)) = (fun (x786 x787 : Int) (x788 : List T) => f14_0 c lf lf x786 x787 x788) := by funext x786 x787 x788; exact f14_0_eq c lf lf x786 x787 x788
 rw [e0]; rfl
def f39_0_s (c : Orc) (lf : Nat) (l0 : List T) (L : Int → Int → Option (List T)) (x797 : Int) (x798 : Int) : Option (List T) :=
 bif iLt x798 (l0.length : Int) then
  bif inR x798 l0.length then
  bif (asI (l0.getD x798.toNat T.u)) != (IntKind.wrap .u8 x797) then
   some [T.i .i64 0, T.i .i64 (-1)]
  else
   L (IntKind.wrap .i64 (x797 + 1)) (IntKind.wrap .i64 (x798 + 1))
  else none
 else
  some [T.i .i64 1, T.i .i64 x797]
def f39_0_c (l0 : List T) (x797 x798 : Int) : CSt := ⟨[.ro 0 false [.i .u8] l0, .i .i64 x797, .i .i64 x798], [.dead, .dead]⟩
theorem f39_0_round (c : Orc) (lf : Nat) (l0 : List T) (L : CSt → Option (List T)) (x797 : Int) (x798 : Int) :
 qa7 c env lf 6 fi39 2 2 [] [0, 1, 5] (x39_2_0) L (f39_0_c l0 x797 x798) = f39_0_s c lf l0 (fun x797 x798 => L (f39_0_c l0 x797 x798)) x797 x798 := by kernel_rfl
def f39_0 (c : Orc) (lf : Nat) (l0 : List T) : Nat → Int → Int → Option (List T)
 | 0 => fun _ _ => none
 | n + 1 => fun x797 x798 => f39_0_s c lf l0 (f39_0 c lf l0 n) x797 x798
theorem f39_0_eq (c : Orc) (lf : Nat) (l0 : List T) (n : Nat) (x797 x798 : Int) :
 lpK c env lf 6 fi39 2 2 [] [0, 1, 5] (x39_2_0) n (f39_0_c l0 x797 x798) = f39_0 c lf l0 n x797 x798 := by
 induction n generalizing x797 x798 with
 | zero => rfl
 | succ n ih =>
  refine (f39_0_round c lf l0 _ x797 x798).trans ?_
  have e : (fun x797 x798 => lpK c env lf 6 fi39 2 2 [] [0, 1, 5] (x39_2_0) n (f39_0_c l0 x797 x798)) = f39_0 c lf l0 n := by funext x797 x798; exact ih x797 x798
  show f39_0_s c lf l0 (fun x797 x798 => lpK c env lf 6 fi39 2 2 [] [0, 1, 5] (x39_2_0) n (f39_0_c l0 x797 x798)) x797 x798 = _
  rw [e]; rfl
def f39_t (c : Orc) (lf : Nat) (lp0 : List T → Int → Int → Option (List T)) (l0 : List T) (n1 : Int) : Option (List T) :=
 (lp0 l0 n1 0).bind fun r799 =>
 bif asI (nth r799 0) == 0 then
  some [T.i .i64 (asI (nth r799 1))]
 else
  some [T.i .i64 (asI (nth r799 1))]
def f39 (c : Orc) (lf : Nat) (l0 : List T) (n1 : Int) : Option (List T) := f39_t c lf (fun (l0 : List T) (x797 x798 : Int) => f39_0 c lf l0 lf x797 x798) l0 n1
theorem f39_raw (c : Orc) (lf : Nat) (l0 : List T) (n1 : Int) : funK c env lf 6 fi39 [.sl l0, .i .i64 n1] = f39_t c lf (fun (l0 : List T) (x797 x798 : Int) => lpK c env lf 6 fi39 2 2 [] [0, 1, 5] (x39_2_0) lf (f39_0_c l0 x797 x798)) l0 n1 := by kernel_rfl
theorem f39_eq (c : Orc) (lf : Nat) (l0 : List T) (n1 : Int) : funK c env lf 6 fi39 [.sl l0, .i .i64 n1] = f39 c lf l0 n1 := by
 refine (f39_raw c lf l0 n1).trans ?_
 have e0 : (fun (l0 : List T) (x797 x798 : Int) => lpK c env lf 6 fi39 2 2 [] [0, 1, 5] (x39_2_0) lf (f39_0_c l0 x797 x798)) = (fun (l0 : List T) (x797 x798 : Int) => f39_0 c lf l0 lf x797 x798) := by funext l0 x797 x798; exact f39_0_eq c lf l0 lf x797 x798
 rw [e0]; rfl
def f40_0_s (c : Orc) (lf : Nat) (l0 : List T) (L : Int → Int → Option (List T)) (x809 : Int) (x810 : Int) : Option (List T) :=
 bif iLt x810 (l0.length : Int) then
  bif inR x810 l0.length then
  (c 36 [T.i .i64 x809]).bind fun r811 =>
  bif !((asS (T.cell (l0.getD x810.toNat T.u) 0)).toList == (asS (nth r811 0)).toList) then
   some [T.i .i64 0, T.i .i64 (-1)]
  else
   bif inR x810 l0.length then
   (c 36 [T.i .i64 (IntKind.wrap .i64 (x809 + 1))]).bind fun r812 =>
   bif !((asS (T.cell (l0.getD x810.toNat T.u) 1)).toList == (asS (nth r812 0)).toList) then
    some [T.i .i64 0, T.i .i64 (-1)]
   else
    L (IntKind.wrap .i64 ((IntKind.wrap .i64 (x809 + 1)) + 1)) (IntKind.wrap .i64 (x810 + 1))
   else none
  else none
 else
  some [T.i .i64 1, T.i .i64 x809]
def f40_0_c (l0 : List T) (x809 x810 : Int) : CSt := ⟨[.ro 0 true [.s, .s] l0, .i .i64 x809, .i .i64 x810], [.dead, .dead]⟩
theorem f40_0_round (c : Orc) (lf : Nat) (l0 : List T) (L : CSt → Option (List T)) (x809 : Int) (x810 : Int) :
 qa7 c env lf 6 fi40 2 2 [] [0, 1, 5] (x40_2_0) L (f40_0_c l0 x809 x810) = f40_0_s c lf l0 (fun x809 x810 => L (f40_0_c l0 x809 x810)) x809 x810 := by kernel_rfl
def f40_0 (c : Orc) (lf : Nat) (l0 : List T) : Nat → Int → Int → Option (List T)
 | 0 => fun _ _ => none
 | n + 1 => fun x809 x810 => f40_0_s c lf l0 (f40_0 c lf l0 n) x809 x810
theorem f40_0_eq (c : Orc) (lf : Nat) (l0 : List T) (n : Nat) (x809 x810 : Int) :
 lpK c env lf 6 fi40 2 2 [] [0, 1, 5] (x40_2_0) n (f40_0_c l0 x809 x810) = f40_0 c lf l0 n x809 x810 := by
 induction n generalizing x809 x810 with
 | zero => rfl
 | succ n ih =>
  refine (f40_0_round c lf l0 _ x809 x810).trans ?_
  have e : (fun x809 x810 => lpK c env lf 6 fi40 2 2 [] [0, 1, 5] (x40_2_0) n (f40_0_c l0 x809 x810)) = f40_0 c lf l0 n := by funext x809 x810; exact ih x809 x810
  show f40_0_s c lf l0 (fun x809 x810 => lpK c env lf 6 fi40 2 2 [] [0, 1, 5] (x40_2_0) n (f40_0_c l0 x809 x810)) x809 x810 = _
  rw [e]; rfl
def f40_t (c : Orc) (lf : Nat) (lp0 : List T → Int → Int → Option (List T)) (l0 : List T) (n1 : Int) : Option (List T) :=
 (lp0 l0 n1 0).bind fun r813 =>
 bif asI (nth r813 0) == 0 then
  some [T.i .i64 (asI (nth r813 1))]
 else
  some [T.i .i64 (asI (nth r813 1))]
def f40 (c : Orc) (lf : Nat) (l0 : List T) (n1 : Int) : Option (List T) := f40_t c lf (fun (l0 : List T) (x809 x810 : Int) => f40_0 c lf l0 lf x809 x810) l0 n1
theorem f40_raw (c : Orc) (lf : Nat) (l0 : List T) (n1 : Int) : funK c env lf 6 fi40 [.sl l0, .i .i64 n1] = f40_t c lf (fun (l0 : List T) (x809 x810 : Int) => lpK c env lf 6 fi40 2 2 [] [0, 1, 5] (x40_2_0) lf (f40_0_c l0 x809 x810)) l0 n1 := by kernel_rfl
theorem f40_eq (c : Orc) (lf : Nat) (l0 : List T) (n1 : Int) : funK c env lf 6 fi40 [.sl l0, .i .i64 n1] = f40 c lf l0 n1 := by
 refine (f40_raw c lf l0 n1).trans ?_
 have e0 : (fun (l0 : List T) (x809 x810 : Int) => lpK c env lf 6 fi40 2 2 [] [0, 1, 5] (x40_2_0) lf (f40_0_c l0 x809 x810)) = (fun (l0 : List T) (x809 x810 : Int) => f40_0 c lf l0 lf x809 x810) := by funext l0 x809 x810; exact f40_0_eq c lf l0 lf x809 x810
 rw [e0]; rfl
def f15_0_s (c : Orc) (lf : Nat) (l0 : List T) (L : Int → Int → Option (List T)) (x829 : Int) (x830 : Int) : Option (List T) :=
 bif iLt x830 (l0.length : Int) then
  bif inR x830 l0.length then
  (c 36 [T.i .i64 x829]).bind fun r831 =>
  bif !((asS (T.cell (l0.getD x830.toNat T.u) 0)).toList == (asS (nth r831 0)).toList) then
   some [T.i .i64 0, T.i .i64 (-1)]
  else
   bif inR x830 l0.length then
   bif (asI (T.cell (l0.getD x830.toNat T.u) 1)) != (IntKind.wrap .i64 (x829 + 1)) then
    some [T.i .i64 0, T.i .i64 (-1)]
   else
    bif inR x830 l0.length then
    (c 39 [T.sl (asL (T.cell (l0.getD x830.toNat T.u) 2)), T.i .i64 (IntKind.wrap .i64 ((IntKind.wrap .i64 (x829 + 1)) + 1))]).bind fun r832 =>
    bif iLt (asI (nth r832 0)) 0 then
     some [T.i .i64 0, T.i .i64 (-1)]
    else
     bif inR x830 l0.length then
     (c 40 [T.sl (asL (T.cell (l0.getD x830.toNat T.u) 3)), T.i .i64 (asI (nth r832 0))]).bind fun r833 =>
     bif iLt (asI (nth r833 0)) 0 then
      some [T.i .i64 0, T.i .i64 (-1)]
     else
      bif inR x830 l0.length then
      (c 36 [T.i .i64 (asI (nth r833 0))]).bind fun r834 =>
      bif !((asS (T.cell (l0.getD x830.toNat T.u) 4)).toList == (asS (nth r834 0)).toList) then
       some [T.i .i64 0, T.i .i64 (-1)]
      else
       L (IntKind.wrap .i64 ((asI (nth r833 0)) + 1)) (IntKind.wrap .i64 (x830 + 1))
      else none
     else none
    else none
   else none
  else none
 else
  some [T.i .i64 1, T.i .i64 x829]
def f15_0_c (l0 : List T) (x829 x830 : Int) : CSt := ⟨[.ro 0 true [.s, .i .i64, .sl false [.i .u8], .sl true [.s, .s], .s] l0, .i .i64 x829, .i .i64 x830], [.dead, .dead]⟩
theorem f15_0_round (c : Orc) (lf : Nat) (l0 : List T) (L : CSt → Option (List T)) (x829 : Int) (x830 : Int) :
 qa7 c env lf 6 fi15 2 2 [] [0, 1, 5] (x15_2_0) L (f15_0_c l0 x829 x830) = f15_0_s c lf l0 (fun x829 x830 => L (f15_0_c l0 x829 x830)) x829 x830 := by kernel_rfl
def f15_0 (c : Orc) (lf : Nat) (l0 : List T) : Nat → Int → Int → Option (List T)
 | 0 => fun _ _ => none
 | n + 1 => fun x829 x830 => f15_0_s c lf l0 (f15_0 c lf l0 n) x829 x830
theorem f15_0_eq (c : Orc) (lf : Nat) (l0 : List T) (n : Nat) (x829 x830 : Int) :
 lpK c env lf 6 fi15 2 2 [] [0, 1, 5] (x15_2_0) n (f15_0_c l0 x829 x830) = f15_0 c lf l0 n x829 x830 := by
 induction n generalizing x829 x830 with
 | zero => rfl
 | succ n ih =>
  refine (f15_0_round c lf l0 _ x829 x830).trans ?_
  have e : (fun x829 x830 => lpK c env lf 6 fi15 2 2 [] [0, 1, 5] (x15_2_0) n (f15_0_c l0 x829 x830)) = f15_0 c lf l0 n := by funext x829 x830; exact ih x829 x830
  show f15_0_s c lf l0 (fun x829 x830 => lpK c env lf 6 fi15 2 2 [] [0, 1, 5] (x15_2_0) n (f15_0_c l0 x829 x830)) x829 x830 = _
  rw [e]; rfl
def f15_t (c : Orc) (lf : Nat) (lp0 : List T → Int → Int → Option (List T)) (l0 : List T) (n1 : Int) : Option (List T) :=
 (lp0 l0 n1 0).bind fun r835 =>
 bif asI (nth r835 0) == 0 then
  some [T.i .i64 (asI (nth r835 1))]
 else
  some [T.i .i64 (asI (nth r835 1))]
def f15 (c : Orc) (lf : Nat) (l0 : List T) (n1 : Int) : Option (List T) := f15_t c lf (fun (l0 : List T) (x829 x830 : Int) => f15_0 c lf l0 lf x829 x830) l0 n1
theorem f15_raw (c : Orc) (lf : Nat) (l0 : List T) (n1 : Int) : funK c env lf 6 fi15 [.sl l0, .i .i64 n1] = f15_t c lf (fun (l0 : List T) (x829 x830 : Int) => lpK c env lf 6 fi15 2 2 [] [0, 1, 5] (x15_2_0) lf (f15_0_c l0 x829 x830)) l0 n1 := by kernel_rfl
theorem f15_eq (c : Orc) (lf : Nat) (l0 : List T) (n1 : Int) : funK c env lf 6 fi15 [.sl l0, .i .i64 n1] = f15 c lf l0 n1 := by
 refine (f15_raw c lf l0 n1).trans ?_
 have e0 : (fun (l0 : List T) (x829 x830 : Int) => lpK c env lf 6 fi15 2 2 [] [0, 1, 5] (x15_2_0) lf (f15_0_c l0 x829 x830)) = (fun (l0 : List T) (x829 x830 : Int) => f15_0 c lf l0 lf x829 x830) := by funext l0 x829 x830; exact f15_0_eq c lf l0 lf x829 x830
 rw [e0]; rfl
def f4_t (c : Orc) (lf : Nat) (l0_0 : List T) (n0_1 : Int) : Option (List T) :=
 (c 5 [T.st [T.sl l0_0, T.i .i64 n0_1], T.i .i64 1048576]).bind fun r836 =>
 bif iLt (asI (nth r836 0)) 0 then
  some [T.b true]
 else
  (c 7 [T.st [T.sl l0_0, T.i .i64 n0_1]]).bind fun r837 =>
  (c 10 [T.st [T.sl (asL (T.cell (nth r837 0) 0)), T.i .i64 (asI (T.cell (nth r837 0) 1))]]).bind fun r838 =>
  (c 7 [T.st [T.sl l0_0, T.i .i64 n0_1]]).bind fun r839 =>
  (c 11 [T.st [T.sl (asL (T.cell (nth r839 0) 0)), T.i .i64 (asI (T.cell (nth r839 0) 1))]]).bind fun r840 =>
  (c 12 [T.sl (asL (nth r840 0)), T.sl (asL (nth r838 0))]).bind fun r841 =>
  bif !(asB (nth r841 0)) then
   some [T.b false]
  else
   (c 7 [T.st [T.sl l0_0, T.i .i64 n0_1]]).bind fun r842 =>
   (c 9 [T.st [T.sl (asL (T.cell (nth r839 0) 0)), T.i .i64 (asI (T.cell (nth r839 0) 1))], T.st [T.sl (asL (T.cell (nth r842 0) 0)), T.i .i64 (asI (T.cell (nth r842 0) 1))]]).bind fun r843 =>
   bif !(asB (nth r843 0)) then
    some [T.b false]
   else
    (c 13 [T.st [T.sl (asL (T.cell (nth r839 0) 0)), T.i .i64 (asI (T.cell (nth r839 0) 1))], T.i .i64 1]).bind fun r844 =>
    bif iLt (asI (nth r844 0)) 0 then
     some [T.b false]
    else
     (c 12 [T.sl (asL (nth r840 0)), T.sl (asL (nth r838 0))]).bind fun r845 =>
     bif !(asB (nth r845 0)) then
      some [T.b false]
     else
      (c 14 [T.sl (asL (nth r840 0)), T.i .i64 1]).bind fun r846 =>
      (c 15 [T.sl (asL (nth r846 1)), T.i .i64 1]).bind fun r847 =>
      bif iLt (asI (nth r847 0)) 0 then
       some [T.b false]
      else
       bif (asI (nth r847 0)) != (asI (nth r846 0)) then
        some [T.b false]
       else
        (c 7 [T.st [T.sl l0_0, T.i .i64 n0_1]]).bind fun r848 =>
        (c 11 [T.st [T.sl (asL (T.cell (nth r848 0) 0)), T.i .i64 (asI (T.cell (nth r848 0) 1))]]).bind fun r849 =>
        (c 12 [T.sl (asL (nth r849 0)), T.sl (asL (nth r838 0))]).bind fun r850 =>
        bif !(asB (nth r850 0)) then
         some [T.b false]
        else
         (c 15 [T.sl (asL (nth r846 1)), T.i .i64 1]).bind fun r851 =>
         bif iLt (asI (nth r851 0)) 0 then
          some [T.b false]
         else
          bif (asI (nth r851 0)) != (asI (nth r846 0)) then
           some [T.b false]
          else
           some [T.b true]
def f4 (c : Orc) (lf : Nat) (l0_0 : List T) (n0_1 : Int) : Option (List T) := f4_t c lf l0_0 n0_1
theorem f4_eq (c : Orc) (lf : Nat) (l0_0 : List T) (n0_1 : Int) : funK c env lf 6 fi4 [.st [.sl l0_0, .i .i64 n0_1]] = f4 c lf l0_0 n0_1 := by kernel_rfl
end Go.Proofs.YtncfoonahkieoaaGreatDoor.T
