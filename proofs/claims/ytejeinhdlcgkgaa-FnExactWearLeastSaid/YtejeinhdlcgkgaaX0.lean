/- What functions of the law FnExactWearLeast come to, in trees; no condition. -/
import Derived.Test.YtejeinhdlcgkgaaRows
import Derived.Test.YtejeinhdlcgkgaaV3
import Derived.KernelRfl
set_option linter.unusedVariables false
set_option linter.constructorNameAsVariable false
set_option linter.unusedSimpArgs false
set_option linter.unnecessarySimpa false
namespace Go.Proofs.Ytejeinhdlcgkgaa.T
open Go Go.Proofs.YtejeinhdlcgkgaaV
def tyTab : List (Nat × Ti) := [
  (3, ⟨false, [.i .i64], .o⟩),
  (4, ⟨false, [.b], .o⟩),
  (5, ⟨false, [.i .u8], .o⟩),
  (46, ⟨false, [.sl true [.sl true [.b, .sl false [.i .u8]], .i .i64, .b]], .sl 108⟩),
  (48, ⟨true, [.sl true [.sl true [.b, .sl false [.i .u8]], .i .i64, .b]], .st [(0, 46)]⟩),
  (51, ⟨false, [.sl true [.sl true [.b, .sl false [.i .u8]], .i .i64, .b]], .sl 83⟩),
  (53, ⟨true, [.sl true [.sl true [.b, .sl false [.i .u8]], .i .i64, .b]], .st [(0, 51)]⟩),
  (57, ⟨false, [.sl false [.i .u8]], .sl 5⟩),
  (81, ⟨false, [.sl true [.b, .sl false [.i .u8]]], .sl 120⟩),
  (83, ⟨true, [.sl true [.b, .sl false [.i .u8]], .i .i64, .b], .st [(0, 81), (1, 3), (2, 4)]⟩),
  (106, ⟨false, [.sl true [.b, .sl false [.i .u8]]], .sl 119⟩),
  (108, ⟨true, [.sl true [.b, .sl false [.i .u8]], .i .i64, .b], .st [(0, 106), (1, 3), (2, 4)]⟩),
  (119, ⟨true, [.b, .sl false [.i .u8]], .st [(0, 4), (1, 57)]⟩),
  (120, ⟨true, [.b, .sl false [.i .u8]], .st [(0, 4), (1, 57)]⟩)]
noncomputable def fi81 : Fi := ⟨Try.f81, [], false, [.ro (.sl false [.i .u8]), .v (.i .i64)], [.v (.i .i64)]⟩
noncomputable def fi78 : Fi := ⟨Try.f78, [], false, [.ag [.v (.b), .ro (.sl false [.i .u8])], .v (.i .i64)], [.v (.i .i64)]⟩
def x75_5_0 : List (Ex × List Nat × CSt) := [(.ret, [4], ⟨[.i .i64 0], [.dead, .dead]⟩), ((.ex 0), [1], ⟨[.i .i64 0], [.dead, .dead]⟩)]
noncomputable def fi75 : Fi := ⟨Try.f75, [⟨5, [0, 1, 5], [], [(⟨[.ro 0 true [.b, .sl false [.i .u8]] [], .i .i64 0, .i .i64 0], [.dead, .dead]⟩, x75_5_0)]⟩], false, [.ro (.sl true [.b, .sl false [.i .u8]]), .v (.i .i64)], [.v (.i .i64)]⟩
noncomputable def fi69 : Fi := ⟨Try.f69, [], false, [.ag [.ro (.sl true [.b, .sl false [.i .u8]]), .v (.i .i64), .v (.b)], .v (.i .i64)], [.v (.i .i64)]⟩
def x52_5_0 : List (Ex × List Nat × CSt) := [(.ret, [4], ⟨[.i .i64 0], [.dead, .dead]⟩), ((.ex 0), [1], ⟨[.i .i64 0], [.dead, .dead]⟩)]
noncomputable def fi52 : Fi := ⟨Try.f52, [⟨5, [0, 1, 5], [], [(⟨[.ro 0 true [.sl true [.b, .sl false [.i .u8]], .i .i64, .b] [], .i .i64 0, .i .i64 0], [.dead, .dead]⟩, x52_5_0)]⟩], false, [.ro (.sl true [.sl true [.b, .sl false [.i .u8]], .i .i64, .b]), .v (.i .i64)], [.v (.i .i64)]⟩
noncomputable def fi22 : Fi := ⟨Try.f22, [], false, [.ag [.ro (.sl true [.sl true [.b, .sl false [.i .u8]], .i .i64, .b])], .v (.i .i64)], [.v (.i .i64)]⟩
def x36_3_0 : List (Ex × List Nat × CSt) := [((.ex 0), [3], ⟨[.rf 1 [] 0 none], [.dead, .row false [.i .u8] [] 0 false]⟩)]
noncomputable def fi36 : Fi := ⟨Try.f36, [⟨3, [0, 3, 4], [], [(⟨[.ro 0 false [.i .u8] [], .rf 1 [] 0 none, .i .i64 0], [.dead, .row false [.i .u8] [] 0 false]⟩, x36_3_0)]⟩], false, [.ro (.sl false [.i .u8])], [.ow (.sl false [.i .u8])]⟩
noncomputable def fi79 : Fi := ⟨Try.f79, [], false, [.ag [.v (.b), .ro (.sl false [.i .u8])]], [.ag [.v (.b), .ow (.sl false [.i .u8])]]⟩
def x76_3_0 : List (Ex × List Nat × CSt) := [((.ex 0), [3], ⟨[.rf 1 [] 0 none], [.dead, .row true [.b, .sl false [.i .u8]] [] 0 false]⟩)]
noncomputable def fi76 : Fi := ⟨Try.f76, [⟨3, [0, 3, 4], [], [(⟨[.ro 0 true [.b, .sl false [.i .u8]] [], .rf 1 [] 0 none, .i .i64 0], [.dead, .row true [.b, .sl false [.i .u8]] [] 0 false]⟩, x76_3_0)]⟩], false, [.ro (.sl true [.b, .sl false [.i .u8]])], [.ow (.sl true [.b, .sl false [.i .u8]])]⟩
noncomputable def fi70 : Fi := ⟨Try.f70, [], false, [.ag [.ro (.sl true [.b, .sl false [.i .u8]]), .v (.i .i64), .v (.b)]], [.ag [.ow (.sl true [.b, .sl false [.i .u8]]), .v (.i .i64), .v (.b)]]⟩
def x53_3_0 : List (Ex × List Nat × CSt) := [((.ex 0), [3], ⟨[.rf 1 [] 0 none], [.dead, .row true [.sl true [.b, .sl false [.i .u8]], .i .i64, .b] [] 0 false]⟩)]
noncomputable def fi53 : Fi := ⟨Try.f53, [⟨3, [0, 3, 4], [], [(⟨[.ro 0 true [.sl true [.b, .sl false [.i .u8]], .i .i64, .b] [], .rf 1 [] 0 none, .i .i64 0], [.dead, .row true [.sl true [.b, .sl false [.i .u8]], .i .i64, .b] [] 0 false]⟩, x53_3_0)]⟩], false, [.ro (.sl true [.sl true [.b, .sl false [.i .u8]], .i .i64, .b])], [.ow (.sl true [.sl true [.b, .sl false [.i .u8]], .i .i64, .b])]⟩
noncomputable def fi24 : Fi := ⟨Try.f24, [], false, [.ag [.ro (.sl true [.sl true [.b, .sl false [.i .u8]], .i .i64, .b])]], [.ag [.ow (.sl true [.sl true [.b, .sl false [.i .u8]], .i .i64, .b])]]⟩
def x23_4_0 : List (Ex × List Nat × CSt) := [((.ex 0), [3], ⟨[.i .i64 0], [.dead]⟩)]
noncomputable def fi23 : Fi := ⟨Try.f23, [⟨4, [1, 3, 4, 5], [], [(⟨[.bp 1 0, .i .i64 0, .b false, .i .i64 0], [.dead, .box [.ro 0 true [.sl true [.b, .sl false [.i .u8]], .i .i64, .b] []]]⟩, x23_4_0)]⟩], false, [.ag [.ro (.sl true [.sl true [.b, .sl false [.i .u8]], .i .i64, .b])]], [.v (.i .i64)]⟩
def x25_3_0 : List (Ex × List Nat × CSt) := [((.ex 0), [3], ⟨[.i .i64 0], [.dead]⟩)]
noncomputable def fi25 : Fi := ⟨Try.f25, [⟨3, [3, 4, 8, 9, 10], [], [(⟨[.i .i64 0, .b false, .ro 0 true [.sl true [.b, .sl false [.i .u8]], .i .i64, .b] [], .i .i64 0, .i .i64 0], [.dead]⟩, x25_3_0)]⟩], false, [.ag [.ro (.sl true [.sl true [.b, .sl false [.i .u8]], .i .i64, .b])]], [.v (.i .i64)]⟩
def x29_4_0 : List (Ex × List Nat × CSt) := [(.ret, [4], ⟨[.b false], [.dead, .dead]⟩), ((.ex 0), [], ⟨[], [.dead, .dead]⟩)]
noncomputable def fi29 : Fi := ⟨Try.f29, [⟨4, [0, 1, 5], [], [(⟨[.ro 0 false [.i .u8] [], .ro 0 false [.i .u8] [], .i .i64 0], [.dead, .dead]⟩, x29_4_0)]⟩], false, [.ro (.sl false [.i .u8]), .ro (.sl false [.i .u8])], [.v (.b)]⟩
noncomputable def fi80 : Fi := ⟨Try.f80, [], false, [.ag [.v (.b), .ro (.sl false [.i .u8])], .ag [.v (.b), .ro (.sl false [.i .u8])]], [.v (.b)]⟩
def x77_4_0 : List (Ex × List Nat × CSt) := [(.ret, [4], ⟨[.b false], [.dead, .dead]⟩), ((.ex 0), [], ⟨[], [.dead, .dead]⟩)]
noncomputable def fi77 : Fi := ⟨Try.f77, [⟨4, [0, 1, 5], [], [(⟨[.ro 0 true [.b, .sl false [.i .u8]] [], .ro 0 true [.b, .sl false [.i .u8]] [], .i .i64 0], [.dead, .dead]⟩, x77_4_0)]⟩], false, [.ro (.sl true [.b, .sl false [.i .u8]]), .ro (.sl true [.b, .sl false [.i .u8]])], [.v (.b)]⟩
noncomputable def fi71 : Fi := ⟨Try.f71, [], false, [.ag [.ro (.sl true [.b, .sl false [.i .u8]]), .v (.i .i64), .v (.b)], .ag [.ro (.sl true [.b, .sl false [.i .u8]]), .v (.i .i64), .v (.b)]], [.v (.b)]⟩
def x54_4_0 : List (Ex × List Nat × CSt) := [(.ret, [4], ⟨[.b false], [.dead, .dead]⟩), ((.ex 0), [], ⟨[], [.dead, .dead]⟩)]
noncomputable def fi54 : Fi := ⟨Try.f54, [⟨4, [0, 1, 5], [], [(⟨[.ro 0 true [.sl true [.b, .sl false [.i .u8]], .i .i64, .b] [], .ro 0 true [.sl true [.b, .sl false [.i .u8]], .i .i64, .b] [], .i .i64 0], [.dead, .dead]⟩, x54_4_0)]⟩], false, [.ro (.sl true [.sl true [.b, .sl false [.i .u8]], .i .i64, .b]), .ro (.sl true [.sl true [.b, .sl false [.i .u8]], .i .i64, .b])], [.v (.b)]⟩
noncomputable def fi26 : Fi := ⟨Try.f26, [], false, [.ag [.ro (.sl true [.sl true [.b, .sl false [.i .u8]], .i .i64, .b])], .ag [.ro (.sl true [.sl true [.b, .sl false [.i .u8]], .i .i64, .b])]], [.v (.b)]⟩
noncomputable def fi6 : Fi := ⟨Try.f6, [], false, [.ag [.ro (.sl true [.sl true [.b, .sl false [.i .u8]], .i .i64, .b])]], [.v (.b)]⟩
def x33_4_0 : List (Ex × List Nat × CSt) := [((.ex 0), [3], ⟨[.i .i64 0], [.dead]⟩)]
noncomputable def fi33 : Fi := ⟨Try.f33, [⟨4, [1, 3, 4, 5], [], [(⟨[.bp 1 0, .i .i64 0, .b false, .i .i64 0], [.dead, .box [.ro 0 true [.sl true [.b, .sl false [.i .u8]], .i .i64, .b] []]]⟩, x33_4_0)]⟩], false, [.ag [.ro (.sl true [.sl true [.b, .sl false [.i .u8]], .i .i64, .b])]], [.v (.i .i64)]⟩
def x34_4_0 : List (Ex × List Nat × CSt) := [((.ex 0), [3], ⟨[.i .i64 0], [.dead]⟩)]
noncomputable def fi34 : Fi := ⟨Try.f34, [⟨4, [3, 4, 8, 9, 10], [], [(⟨[.i .i64 0, .b false, .ro 0 true [.sl true [.b, .sl false [.i .u8]], .i .i64, .b] [], .i .i64 0, .i .i64 0], [.dead]⟩, x34_4_0)]⟩], false, [.ag [.ro (.sl true [.sl true [.b, .sl false [.i .u8]], .i .i64, .b])]], [.v (.i .i64)]⟩
noncomputable def fi8 : Fi := ⟨Try.f8, [], false, [.ag [.ro (.sl true [.sl true [.b, .sl false [.i .u8]], .i .i64, .b])]], [.v (.b)]⟩
noncomputable def fiTab : List (Nat × Fi) := [(81, fi81), (78, fi78), (75, fi75), (69, fi69), (52, fi52), (22, fi22), (36, fi36), (79, fi79), (76, fi76), (70, fi70), (53, fi53), (24, fi24), (23, fi23), (25, fi25), (29, fi29), (80, fi80), (77, fi77), (71, fi71), (54, fi54), (26, fi26), (6, fi6), (33, fi33), (34, fi34), (8, fi8)]
noncomputable def env : Env := ⟨lookN fiTab, lookN tyTab⟩
-- FUNCTIONS
/-- loop.example/g00285/laws.szByteS -/
def f81_t (c : Orc) (lf : Nat) (l0 : List T) (n1 : Int) : Option (List T) :=
  bif decide ((IntKind.wrap .i64 (n1 - (l0.length : Int))) < 0) then
    some [T.i .i64 (-1)]
  else
    some [T.i .i64 (IntKind.wrap .i64 (n1 - (l0.length : Int)))]
def f81 (c : Orc) (lf : Nat) (l0 : List T) (n1 : Int) : Option (List T) := f81_t c lf l0 n1
theorem f81_raw (c : Orc) (lf : Nat) (l0 : List T) (n1 : Int) : funK c env lf 0 fi81 [.sl l0, .i .i64 n1] = f81_t c lf l0 n1 := by kernel_rfl
theorem f81_eq (c : Orc) (lf : Nat) (l0 : List T) (n1 : Int) : funK c env lf 0 fi81 [.sl l0, .i .i64 n1] = f81 c lf l0 n1 := by
  refine (f81_raw c lf l0 n1).trans ?_
  rfl
/-- loop.example/g00285/laws.szPage -/
def f78_t (c : Orc) (lf : Nat) (b0_0 : Bool) (l0_1 : List T) (n1 : Int) : Option (List T) :=
  (c 81 [T.sl l0_1, T.i .i64 n1]).bind fun r1 =>
  bif decide ((asI (nth r1 0)) < 0) then
    some [T.i .i64 (-1)]
  else
    some [T.i .i64 (asI (nth r1 0))]
def f78 (c : Orc) (lf : Nat) (b0_0 : Bool) (l0_1 : List T) (n1 : Int) : Option (List T) := f78_t c lf b0_0 l0_1 n1
theorem f78_raw (c : Orc) (lf : Nat) (b0_0 : Bool) (l0_1 : List T) (n1 : Int) : funK c env lf 0 fi78 [.st [.b b0_0, .sl l0_1], .i .i64 n1] = f78_t c lf b0_0 l0_1 n1 := by kernel_rfl
theorem f78_eq (c : Orc) (lf : Nat) (b0_0 : Bool) (l0_1 : List T) (n1 : Int) : funK c env lf 0 fi78 [.st [.b b0_0, .sl l0_1], .i .i64 n1] = f78 c lf b0_0 l0_1 n1 := by
  refine (f78_raw c lf b0_0 l0_1 n1).trans ?_
  rfl
/-- loop.example/g00285/laws.szPageS, the loop at region 5. -/
def f75_0_s (c : Orc) (lf : Nat) (l0 : List T) (L : Int → Int → Option (List T)) (x8 : Int) (x9 : Int) : Option (List T) :=
  bif decide (x9 < (l0.length : Int)) then
    bif inR x9 l0.length then
    (c 78 [T.st [T.b (asB (T.cell (l0.getD x9.toNat T.u) 0)), T.sl (asL (T.cell (l0.getD x9.toNat T.u) 1))], T.i .i64 x8]).bind fun r10 =>
    bif decide ((asI (nth r10 0)) < 0) then
      some [T.i .i64 0, T.i .i64 (-1)]
    else
      L (asI (nth r10 0)) (IntKind.wrap .i64 (x9 + 1))
    else none
  else
    some [T.i .i64 1, T.i .i64 x8]
def f75_0_c (l0 : List T) (x8 : Int) (x9 : Int) : CSt := ⟨[.ro 0 true [.b, .sl false [.i .u8]] l0, .i .i64 x8, .i .i64 x9], [.dead, .dead]⟩
theorem f75_0_round (c : Orc) (lf : Nat) (l0 : List T) (L : CSt → Option (List T)) (x8 : Int) (x9 : Int) :
    roundK c env lf 0 fi75 2 5 [] [0, 1, 5] (x75_5_0) L (f75_0_c l0 x8 x9) = f75_0_s c lf l0 (fun x8 x9 => L (f75_0_c l0 x8 x9)) x8 x9 := by kernel_rfl
def f75_0 (c : Orc) (lf : Nat) (l0 : List T) : Nat → Int → Int → Option (List T)
  | 0 => fun _ _ => none
  | n + 1 => fun x8 x9 => f75_0_s c lf l0 (f75_0 c lf l0 n) x8 x9
theorem f75_0_eq (c : Orc) (lf : Nat) (l0 : List T) (n : Nat) (x8 : Int) (x9 : Int) :
    lpK c env lf 0 fi75 2 5 [] [0, 1, 5] (x75_5_0) n (f75_0_c l0 x8 x9) = f75_0 c lf l0 n x8 x9 := by
  induction n generalizing x8 x9 with
  | zero => rfl
  | succ n ih =>
    refine (f75_0_round c lf l0 _ x8 x9).trans ?_
    have e : (fun x8 x9 => lpK c env lf 0 fi75 2 5 [] [0, 1, 5] (x75_5_0) n (f75_0_c l0 x8 x9)) = f75_0 c lf l0 n := by funext x8 x9; exact ih x8 x9
    show f75_0_s c lf l0 (fun x8 x9 => lpK c env lf 0 fi75 2 5 [] [0, 1, 5] (x75_5_0) n (f75_0_c l0 x8 x9)) x8 x9 = _
    rw [e]; rfl
/-- loop.example/g00285/laws.szPageS -/
def f75_t (c : Orc) (lf : Nat) (lp0 : List T → Int → Int → Option (List T)) (l0 : List T) (n1 : Int) : Option (List T) :=
  bif decide ((IntKind.wrap .i64 (n1 - (l0.length : Int))) < 0) then
    some [T.i .i64 (-1)]
  else
    (lp0 l0 (IntKind.wrap .i64 (n1 - (l0.length : Int))) 0).bind fun r11 =>
    bif asI (nth r11 0) == 0 then
      some [T.i .i64 (asI (nth r11 1))]
    else
      some [T.i .i64 (asI (nth r11 1))]
def f75 (c : Orc) (lf : Nat) (l0 : List T) (n1 : Int) : Option (List T) := f75_t c lf (fun (l0 : List T) (x8 : Int) (x9 : Int) => f75_0 c lf l0 lf x8 x9) l0 n1
theorem f75_raw (c : Orc) (lf : Nat) (l0 : List T) (n1 : Int) : funK c env lf 0 fi75 [.sl l0, .i .i64 n1] = f75_t c lf (fun (l0 : List T) (x8 : Int) (x9 : Int) => lpK c env lf 0 fi75 2 5 [] [0, 1, 5] (x75_5_0) lf (f75_0_c l0 x8 x9)) l0 n1 := by kernel_rfl
theorem f75_eq (c : Orc) (lf : Nat) (l0 : List T) (n1 : Int) : funK c env lf 0 fi75 [.sl l0, .i .i64 n1] = f75 c lf l0 n1 := by
  refine (f75_raw c lf l0 n1).trans ?_
  have e0 : (fun (l0 : List T) (x8 : Int) (x9 : Int) => lpK c env lf 0 fi75 2 5 [] [0, 1, 5] (x75_5_0) lf (f75_0_c l0 x8 x9)) = (fun (l0 : List T) (x8 : Int) (x9 : Int) => f75_0 c lf l0 lf x8 x9) := by funext l0 x8 x9; exact f75_0_eq c lf l0 lf x8 x9
  rw [e0]; rfl
/-- loop.example/g00285/laws.szBlock -/
def f69_t (c : Orc) (lf : Nat) (l0_0 : List T) (n0_1 : Int) (b0_2 : Bool) (n1 : Int) : Option (List T) :=
  (c 75 [T.sl l0_0, T.i .i64 n1]).bind fun r12 =>
  bif decide ((asI (nth r12 0)) < 0) then
    some [T.i .i64 (-1)]
  else
    some [T.i .i64 (asI (nth r12 0))]
def f69 (c : Orc) (lf : Nat) (l0_0 : List T) (n0_1 : Int) (b0_2 : Bool) (n1 : Int) : Option (List T) := f69_t c lf l0_0 n0_1 b0_2 n1
theorem f69_raw (c : Orc) (lf : Nat) (l0_0 : List T) (n0_1 : Int) (b0_2 : Bool) (n1 : Int) : funK c env lf 0 fi69 [.st [.sl l0_0, .i .i64 n0_1, .b b0_2], .i .i64 n1] = f69_t c lf l0_0 n0_1 b0_2 n1 := by kernel_rfl
theorem f69_eq (c : Orc) (lf : Nat) (l0_0 : List T) (n0_1 : Int) (b0_2 : Bool) (n1 : Int) : funK c env lf 0 fi69 [.st [.sl l0_0, .i .i64 n0_1, .b b0_2], .i .i64 n1] = f69 c lf l0_0 n0_1 b0_2 n1 := by
  refine (f69_raw c lf l0_0 n0_1 b0_2 n1).trans ?_
  rfl
/-- loop.example/g00285/laws.szBlockS, the loop at region 5. -/
def f52_0_s (c : Orc) (lf : Nat) (l0 : List T) (L : Int → Int → Option (List T)) (x19 : Int) (x20 : Int) : Option (List T) :=
  bif decide (x20 < (l0.length : Int)) then
    bif inR x20 l0.length then
    (c 69 [T.st [T.sl (asL (T.cell (l0.getD x20.toNat T.u) 0)), T.i .i64 (asI (T.cell (l0.getD x20.toNat T.u) 1)), T.b (asB (T.cell (l0.getD x20.toNat T.u) 2))], T.i .i64 x19]).bind fun r21 =>
    bif decide ((asI (nth r21 0)) < 0) then
      some [T.i .i64 0, T.i .i64 (-1)]
    else
      L (asI (nth r21 0)) (IntKind.wrap .i64 (x20 + 1))
    else none
  else
    some [T.i .i64 1, T.i .i64 x19]
def f52_0_c (l0 : List T) (x19 : Int) (x20 : Int) : CSt := ⟨[.ro 0 true [.sl true [.b, .sl false [.i .u8]], .i .i64, .b] l0, .i .i64 x19, .i .i64 x20], [.dead, .dead]⟩
theorem f52_0_round (c : Orc) (lf : Nat) (l0 : List T) (L : CSt → Option (List T)) (x19 : Int) (x20 : Int) :
    roundK c env lf 0 fi52 2 5 [] [0, 1, 5] (x52_5_0) L (f52_0_c l0 x19 x20) = f52_0_s c lf l0 (fun x19 x20 => L (f52_0_c l0 x19 x20)) x19 x20 := by kernel_rfl
def f52_0 (c : Orc) (lf : Nat) (l0 : List T) : Nat → Int → Int → Option (List T)
  | 0 => fun _ _ => none
  | n + 1 => fun x19 x20 => f52_0_s c lf l0 (f52_0 c lf l0 n) x19 x20
theorem f52_0_eq (c : Orc) (lf : Nat) (l0 : List T) (n : Nat) (x19 : Int) (x20 : Int) :
    lpK c env lf 0 fi52 2 5 [] [0, 1, 5] (x52_5_0) n (f52_0_c l0 x19 x20) = f52_0 c lf l0 n x19 x20 := by
  induction n generalizing x19 x20 with
  | zero => rfl
  | succ n ih =>
    refine (f52_0_round c lf l0 _ x19 x20).trans ?_
    have e : (fun x19 x20 => lpK c env lf 0 fi52 2 5 [] [0, 1, 5] (x52_5_0) n (f52_0_c l0 x19 x20)) = f52_0 c lf l0 n := by funext x19 x20; exact ih x19 x20
    show f52_0_s c lf l0 (fun x19 x20 => lpK c env lf 0 fi52 2 5 [] [0, 1, 5] (x52_5_0) n (f52_0_c l0 x19 x20)) x19 x20 = _
    rw [e]; rfl
/-- loop.example/g00285/laws.szBlockS -/
def f52_t (c : Orc) (lf : Nat) (lp0 : List T → Int → Int → Option (List T)) (l0 : List T) (n1 : Int) : Option (List T) :=
  bif decide ((IntKind.wrap .i64 (n1 - (l0.length : Int))) < 0) then
    some [T.i .i64 (-1)]
  else
    (lp0 l0 (IntKind.wrap .i64 (n1 - (l0.length : Int))) 0).bind fun r22 =>
    bif asI (nth r22 0) == 0 then
      some [T.i .i64 (asI (nth r22 1))]
    else
      some [T.i .i64 (asI (nth r22 1))]
def f52 (c : Orc) (lf : Nat) (l0 : List T) (n1 : Int) : Option (List T) := f52_t c lf (fun (l0 : List T) (x19 : Int) (x20 : Int) => f52_0 c lf l0 lf x19 x20) l0 n1
theorem f52_raw (c : Orc) (lf : Nat) (l0 : List T) (n1 : Int) : funK c env lf 0 fi52 [.sl l0, .i .i64 n1] = f52_t c lf (fun (l0 : List T) (x19 : Int) (x20 : Int) => lpK c env lf 0 fi52 2 5 [] [0, 1, 5] (x52_5_0) lf (f52_0_c l0 x19 x20)) l0 n1 := by kernel_rfl
theorem f52_eq (c : Orc) (lf : Nat) (l0 : List T) (n1 : Int) : funK c env lf 0 fi52 [.sl l0, .i .i64 n1] = f52 c lf l0 n1 := by
  refine (f52_raw c lf l0 n1).trans ?_
  have e0 : (fun (l0 : List T) (x19 : Int) (x20 : Int) => lpK c env lf 0 fi52 2 5 [] [0, 1, 5] (x52_5_0) lf (f52_0_c l0 x19 x20)) = (fun (l0 : List T) (x19 : Int) (x20 : Int) => f52_0 c lf l0 lf x19 x20) := by funext l0 x19 x20; exact f52_0_eq c lf l0 lf x19 x20
  rw [e0]; rfl
/-- loop.example/g00285/laws.szChip -/
def f22_t (c : Orc) (lf : Nat) (l0_0 : List T) (n1 : Int) : Option (List T) :=
  (c 52 [T.sl l0_0, T.i .i64 n1]).bind fun r23 =>
  bif decide ((asI (nth r23 0)) < 0) then
    some [T.i .i64 (-1)]
  else
    some [T.i .i64 (asI (nth r23 0))]
def f22 (c : Orc) (lf : Nat) (l0_0 : List T) (n1 : Int) : Option (List T) := f22_t c lf l0_0 n1
theorem f22_raw (c : Orc) (lf : Nat) (l0_0 : List T) (n1 : Int) : funK c env lf 0 fi22 [.st [.sl l0_0], .i .i64 n1] = f22_t c lf l0_0 n1 := by kernel_rfl
theorem f22_eq (c : Orc) (lf : Nat) (l0_0 : List T) (n1 : Int) : funK c env lf 0 fi22 [.st [.sl l0_0], .i .i64 n1] = f22 c lf l0_0 n1 := by
  refine (f22_raw c lf l0_0 n1).trans ?_
  rfl
/-- loop.example/g00285/laws.toByteS, the loop at region 3. -/
def f36_0_s (c : Orc) (lf : Nat) (l0 : List T) (L : Int → List T → Option (List T)) (x27 : Int) (x28 : List T) : Option (List T) :=
  bif decide (x27 < (l0.length : Int)) then
    bif inR x27 l0.length then
    bif inR x27 x28.length then
    L (IntKind.wrap .i64 (x27 + 1)) (x28.set x27.toNat (T.i .u8 (asI (l0.getD x27.toNat T.u))))
    else none
    else none
  else
    some [T.i .i64 0, T.sl x28]
def f36_0_c (l0 : List T) (x27 : Int) (x28 : List T) : CSt := ⟨[.ro 0 false [.i .u8] l0, .rf 1 [] 0 none, .i .i64 x27], [.dead, .row false [.i .u8] x28 0 false]⟩
theorem f36_0_round (c : Orc) (lf : Nat) (l0 : List T) (L : CSt → Option (List T)) (x27 : Int) (x28 : List T) :
    roundK c env lf 0 fi36 1 3 [] [0, 3, 4] (x36_3_0) L (f36_0_c l0 x27 x28) = f36_0_s c lf l0 (fun x27 x28 => L (f36_0_c l0 x27 x28)) x27 x28 := by kernel_rfl
def f36_0 (c : Orc) (lf : Nat) (l0 : List T) : Nat → Int → List T → Option (List T)
  | 0 => fun _ _ => none
  | n + 1 => fun x27 x28 => f36_0_s c lf l0 (f36_0 c lf l0 n) x27 x28
theorem f36_0_eq (c : Orc) (lf : Nat) (l0 : List T) (n : Nat) (x27 : Int) (x28 : List T) :
    lpK c env lf 0 fi36 1 3 [] [0, 3, 4] (x36_3_0) n (f36_0_c l0 x27 x28) = f36_0 c lf l0 n x27 x28 := by
  induction n generalizing x27 x28 with
  | zero => rfl
  | succ n ih =>
    refine (f36_0_round c lf l0 _ x27 x28).trans ?_
    have e : (fun x27 x28 => lpK c env lf 0 fi36 1 3 [] [0, 3, 4] (x36_3_0) n (f36_0_c l0 x27 x28)) = f36_0 c lf l0 n := by funext x27 x28; exact ih x27 x28
    show f36_0_s c lf l0 (fun x27 x28 => lpK c env lf 0 fi36 1 3 [] [0, 3, 4] (x36_3_0) n (f36_0_c l0 x27 x28)) x27 x28 = _
    rw [e]; rfl
/-- loop.example/g00285/laws.toByteS -/
def f36_t (c : Orc) (lf : Nat) (lp0 : List T → Int → List T → Option (List T)) (l0 : List T) : Option (List T) :=
  bif decide (0 ≤ (l0.length : Int)) && decide ((l0.length : Int) ≤ (LIM : Int)) && decide ((l0.length : Int) = (l0.length : Int)) then
  (lp0 l0 0 (List.replicate (l0.length : Int).toNat (T.i .u8 0))).bind fun r29 =>
  some [T.sl (asL (nth r29 1))]
  else none
def f36 (c : Orc) (lf : Nat) (l0 : List T) : Option (List T) := f36_t c lf (fun (l0 : List T) (x27 : Int) (x28 : List T) => f36_0 c lf l0 lf x27 x28) l0
theorem f36_raw (c : Orc) (lf : Nat) (l0 : List T) : funK c env lf 0 fi36 [.sl l0] = f36_t c lf (fun (l0 : List T) (x27 : Int) (x28 : List T) => lpK c env lf 0 fi36 1 3 [] [0, 3, 4] (x36_3_0) lf (f36_0_c l0 x27 x28)) l0 := by kernel_rfl
theorem f36_eq (c : Orc) (lf : Nat) (l0 : List T) : funK c env lf 0 fi36 [.sl l0] = f36 c lf l0 := by
  refine (f36_raw c lf l0).trans ?_
  have e0 : (fun (l0 : List T) (x27 : Int) (x28 : List T) => lpK c env lf 0 fi36 1 3 [] [0, 3, 4] (x36_3_0) lf (f36_0_c l0 x27 x28)) = (fun (l0 : List T) (x27 : Int) (x28 : List T) => f36_0 c lf l0 lf x27 x28) := by funext l0 x27 x28; exact f36_0_eq c lf l0 lf x27 x28
  rw [e0]; rfl
/-- loop.example/g00285/laws.toPage -/
def f79_t (c : Orc) (lf : Nat) (b0_0 : Bool) (l0_1 : List T) : Option (List T) :=
  (c 36 [T.sl l0_1]).bind fun r30 =>
  some [T.st [T.b b0_0, T.sl (asL (nth r30 0))]]
def f79 (c : Orc) (lf : Nat) (b0_0 : Bool) (l0_1 : List T) : Option (List T) := f79_t c lf b0_0 l0_1
theorem f79_raw (c : Orc) (lf : Nat) (b0_0 : Bool) (l0_1 : List T) : funK c env lf 0 fi79 [.st [.b b0_0, .sl l0_1]] = f79_t c lf b0_0 l0_1 := by kernel_rfl
theorem f79_eq (c : Orc) (lf : Nat) (b0_0 : Bool) (l0_1 : List T) : funK c env lf 0 fi79 [.st [.b b0_0, .sl l0_1]] = f79 c lf b0_0 l0_1 := by
  refine (f79_raw c lf b0_0 l0_1).trans ?_
  rfl
/-- loop.example/g00285/laws.toPageS, the loop at region 3. -/
def f76_0_s (c : Orc) (lf : Nat) (l0 : List T) (L : Int → List T → Option (List T)) (x37 : Int) (x38 : List T) : Option (List T) :=
  bif decide (x37 < (l0.length : Int)) then
    bif inR x37 l0.length then
    (c 79 [T.st [T.b (asB (T.cell (l0.getD x37.toNat T.u) 0)), T.sl (asL (T.cell (l0.getD x37.toNat T.u) 1))]]).bind fun r39 =>
    bif inR x37 x38.length then
    L (IntKind.wrap .i64 (x37 + 1)) (x38.set x37.toNat (T.st [T.b (asB (T.cell (nth r39 0) 0)), T.sl (asL (T.cell (nth r39 0) 1))]))
    else none
    else none
  else
    some [T.i .i64 0, T.sl x38]
def f76_0_c (l0 : List T) (x37 : Int) (x38 : List T) : CSt := ⟨[.ro 0 true [.b, .sl false [.i .u8]] l0, .rf 1 [] 0 none, .i .i64 x37], [.dead, .row true [.b, .sl false [.i .u8]] x38 0 false]⟩
theorem f76_0_round (c : Orc) (lf : Nat) (l0 : List T) (L : CSt → Option (List T)) (x37 : Int) (x38 : List T) :
    roundK c env lf 0 fi76 1 3 [] [0, 3, 4] (x76_3_0) L (f76_0_c l0 x37 x38) = f76_0_s c lf l0 (fun x37 x38 => L (f76_0_c l0 x37 x38)) x37 x38 := by kernel_rfl
def f76_0 (c : Orc) (lf : Nat) (l0 : List T) : Nat → Int → List T → Option (List T)
  | 0 => fun _ _ => none
  | n + 1 => fun x37 x38 => f76_0_s c lf l0 (f76_0 c lf l0 n) x37 x38
theorem f76_0_eq (c : Orc) (lf : Nat) (l0 : List T) (n : Nat) (x37 : Int) (x38 : List T) :
    lpK c env lf 0 fi76 1 3 [] [0, 3, 4] (x76_3_0) n (f76_0_c l0 x37 x38) = f76_0 c lf l0 n x37 x38 := by
  induction n generalizing x37 x38 with
  | zero => rfl
  | succ n ih =>
    refine (f76_0_round c lf l0 _ x37 x38).trans ?_
    have e : (fun x37 x38 => lpK c env lf 0 fi76 1 3 [] [0, 3, 4] (x76_3_0) n (f76_0_c l0 x37 x38)) = f76_0 c lf l0 n := by funext x37 x38; exact ih x37 x38
    show f76_0_s c lf l0 (fun x37 x38 => lpK c env lf 0 fi76 1 3 [] [0, 3, 4] (x76_3_0) n (f76_0_c l0 x37 x38)) x37 x38 = _
    rw [e]; rfl
/-- loop.example/g00285/laws.toPageS -/
def f76_t (c : Orc) (lf : Nat) (lp0 : List T → Int → List T → Option (List T)) (l0 : List T) : Option (List T) :=
  bif decide (0 ≤ (l0.length : Int)) && decide ((l0.length : Int) ≤ (LIM : Int)) && decide ((l0.length : Int) = (l0.length : Int)) then
  (lp0 l0 0 (List.replicate (l0.length : Int).toNat (T.st [T.b false, T.sl []]))).bind fun r40 =>
  some [T.sl (asL (nth r40 1))]
  else none
def f76 (c : Orc) (lf : Nat) (l0 : List T) : Option (List T) := f76_t c lf (fun (l0 : List T) (x37 : Int) (x38 : List T) => f76_0 c lf l0 lf x37 x38) l0
theorem f76_raw (c : Orc) (lf : Nat) (l0 : List T) : funK c env lf 0 fi76 [.sl l0] = f76_t c lf (fun (l0 : List T) (x37 : Int) (x38 : List T) => lpK c env lf 0 fi76 1 3 [] [0, 3, 4] (x76_3_0) lf (f76_0_c l0 x37 x38)) l0 := by kernel_rfl
theorem f76_eq (c : Orc) (lf : Nat) (l0 : List T) : funK c env lf 0 fi76 [.sl l0] = f76 c lf l0 := by
  refine (f76_raw c lf l0).trans ?_
  have e0 : (fun (l0 : List T) (x37 : Int) (x38 : List T) => lpK c env lf 0 fi76 1 3 [] [0, 3, 4] (x76_3_0) lf (f76_0_c l0 x37 x38)) = (fun (l0 : List T) (x37 : Int) (x38 : List T) => f76_0 c lf l0 lf x37 x38) := by funext l0 x37 x38; exact f76_0_eq c lf l0 lf x37 x38
  rw [e0]; rfl
/-- loop.example/g00285/laws.toBlock -/
def f70_t (c : Orc) (lf : Nat) (l0_0 : List T) (n0_1 : Int) (b0_2 : Bool) : Option (List T) :=
  (c 76 [T.sl l0_0]).bind fun r41 =>
  some [T.st [T.sl (asL (nth r41 0)), T.i .i64 n0_1, T.b b0_2]]
def f70 (c : Orc) (lf : Nat) (l0_0 : List T) (n0_1 : Int) (b0_2 : Bool) : Option (List T) := f70_t c lf l0_0 n0_1 b0_2
theorem f70_raw (c : Orc) (lf : Nat) (l0_0 : List T) (n0_1 : Int) (b0_2 : Bool) : funK c env lf 0 fi70 [.st [.sl l0_0, .i .i64 n0_1, .b b0_2]] = f70_t c lf l0_0 n0_1 b0_2 := by kernel_rfl
theorem f70_eq (c : Orc) (lf : Nat) (l0_0 : List T) (n0_1 : Int) (b0_2 : Bool) : funK c env lf 0 fi70 [.st [.sl l0_0, .i .i64 n0_1, .b b0_2]] = f70 c lf l0_0 n0_1 b0_2 := by
  refine (f70_raw c lf l0_0 n0_1 b0_2).trans ?_
  rfl
/-- loop.example/g00285/laws.toBlockS, the loop at region 3. -/
def f53_0_s (c : Orc) (lf : Nat) (l0 : List T) (L : Int → List T → Option (List T)) (x48 : Int) (x49 : List T) : Option (List T) :=
  bif decide (x48 < (l0.length : Int)) then
    bif inR x48 l0.length then
    (c 70 [T.st [T.sl (asL (T.cell (l0.getD x48.toNat T.u) 0)), T.i .i64 (asI (T.cell (l0.getD x48.toNat T.u) 1)), T.b (asB (T.cell (l0.getD x48.toNat T.u) 2))]]).bind fun r50 =>
    bif inR x48 x49.length then
    L (IntKind.wrap .i64 (x48 + 1)) (x49.set x48.toNat (T.st [T.sl (asL (T.cell (nth r50 0) 0)), T.i .i64 (asI (T.cell (nth r50 0) 1)), T.b (asB (T.cell (nth r50 0) 2))]))
    else none
    else none
  else
    some [T.i .i64 0, T.sl x49]
def f53_0_c (l0 : List T) (x48 : Int) (x49 : List T) : CSt := ⟨[.ro 0 true [.sl true [.b, .sl false [.i .u8]], .i .i64, .b] l0, .rf 1 [] 0 none, .i .i64 x48], [.dead, .row true [.sl true [.b, .sl false [.i .u8]], .i .i64, .b] x49 0 false]⟩
theorem f53_0_round (c : Orc) (lf : Nat) (l0 : List T) (L : CSt → Option (List T)) (x48 : Int) (x49 : List T) :
    roundK c env lf 0 fi53 1 3 [] [0, 3, 4] (x53_3_0) L (f53_0_c l0 x48 x49) = f53_0_s c lf l0 (fun x48 x49 => L (f53_0_c l0 x48 x49)) x48 x49 := by kernel_rfl
def f53_0 (c : Orc) (lf : Nat) (l0 : List T) : Nat → Int → List T → Option (List T)
  | 0 => fun _ _ => none
  | n + 1 => fun x48 x49 => f53_0_s c lf l0 (f53_0 c lf l0 n) x48 x49
theorem f53_0_eq (c : Orc) (lf : Nat) (l0 : List T) (n : Nat) (x48 : Int) (x49 : List T) :
    lpK c env lf 0 fi53 1 3 [] [0, 3, 4] (x53_3_0) n (f53_0_c l0 x48 x49) = f53_0 c lf l0 n x48 x49 := by
  induction n generalizing x48 x49 with
  | zero => rfl
  | succ n ih =>
    refine (f53_0_round c lf l0 _ x48 x49).trans ?_
    have e : (fun x48 x49 => lpK c env lf 0 fi53 1 3 [] [0, 3, 4] (x53_3_0) n (f53_0_c l0 x48 x49)) = f53_0 c lf l0 n := by funext x48 x49; exact ih x48 x49
    show f53_0_s c lf l0 (fun x48 x49 => lpK c env lf 0 fi53 1 3 [] [0, 3, 4] (x53_3_0) n (f53_0_c l0 x48 x49)) x48 x49 = _
    rw [e]; rfl
/-- loop.example/g00285/laws.toBlockS -/
def f53_t (c : Orc) (lf : Nat) (lp0 : List T → Int → List T → Option (List T)) (l0 : List T) : Option (List T) :=
  bif decide (0 ≤ (l0.length : Int)) && decide ((l0.length : Int) ≤ (LIM : Int)) && decide ((l0.length : Int) = (l0.length : Int)) then
  (lp0 l0 0 (List.replicate (l0.length : Int).toNat (T.st [T.sl [], T.i .i64 0, T.b false]))).bind fun r51 =>
  some [T.sl (asL (nth r51 1))]
  else none
def f53 (c : Orc) (lf : Nat) (l0 : List T) : Option (List T) := f53_t c lf (fun (l0 : List T) (x48 : Int) (x49 : List T) => f53_0 c lf l0 lf x48 x49) l0
theorem f53_raw (c : Orc) (lf : Nat) (l0 : List T) : funK c env lf 0 fi53 [.sl l0] = f53_t c lf (fun (l0 : List T) (x48 : Int) (x49 : List T) => lpK c env lf 0 fi53 1 3 [] [0, 3, 4] (x53_3_0) lf (f53_0_c l0 x48 x49)) l0 := by kernel_rfl
theorem f53_eq (c : Orc) (lf : Nat) (l0 : List T) : funK c env lf 0 fi53 [.sl l0] = f53 c lf l0 := by
  refine (f53_raw c lf l0).trans ?_
  have e0 : (fun (l0 : List T) (x48 : Int) (x49 : List T) => lpK c env lf 0 fi53 1 3 [] [0, 3, 4] (x53_3_0) lf (f53_0_c l0 x48 x49)) = (fun (l0 : List T) (x48 : Int) (x49 : List T) => f53_0 c lf l0 lf x48 x49) := by funext l0 x48 x49; exact f53_0_eq c lf l0 lf x48 x49
  rw [e0]; rfl
/-- loop.example/g00285/laws.toChip -/
def f24_t (c : Orc) (lf : Nat) (l0_0 : List T) : Option (List T) :=
  (c 53 [T.sl l0_0]).bind fun r52 =>
  some [T.st [T.sl (asL (nth r52 0))]]
def f24 (c : Orc) (lf : Nat) (l0_0 : List T) : Option (List T) := f24_t c lf l0_0
theorem f24_raw (c : Orc) (lf : Nat) (l0_0 : List T) : funK c env lf 0 fi24 [.st [.sl l0_0]] = f24_t c lf l0_0 := by kernel_rfl
theorem f24_eq (c : Orc) (lf : Nat) (l0_0 : List T) : funK c env lf 0 fi24 [.st [.sl l0_0]] = f24 c lf l0_0 := by
  refine (f24_raw c lf l0_0).trans ?_
  rfl
/-- loop.example/g00285/spec.WearMost, the loop at region 4. -/
def f23_0_s (c : Orc) (lf : Nat) (l0_0 : List T) (L : Int → Bool → Int → Option (List T)) (x57 : Int) (x58 : Bool) (x59 : Int) : Option (List T) :=
  bif decide (x59 < (l0_0.length : Int)) then
    bif inR x59 l0_0.length then
    bif !(asB (T.cell (l0_0.getD x59.toNat T.u) 2)) then
      bif !x58 then
        bif inR x59 l0_0.length then
        L (asI (T.cell (l0_0.getD x59.toNat T.u) 1)) true (IntKind.wrap .i64 (x59 + 1))
        else none
      else
        bif inR x59 l0_0.length then
        bif decide ((asI (T.cell (l0_0.getD x59.toNat T.u) 1)) > x57) then
          bif inR x59 l0_0.length then
          L (asI (T.cell (l0_0.getD x59.toNat T.u) 1)) true (IntKind.wrap .i64 (x59 + 1))
          else none
        else
          L x57 x58 (IntKind.wrap .i64 (x59 + 1))
        else none
    else
      L x57 x58 (IntKind.wrap .i64 (x59 + 1))
    else none
  else
    some [T.i .i64 0, T.i .i64 x57]
def f23_0_c (l0_0 : List T) (x57 : Int) (x58 : Bool) (x59 : Int) : CSt := ⟨[.bp 1 0, .i .i64 x57, .b x58, .i .i64 x59], [.dead, .box [.ro 0 true [.sl true [.b, .sl false [.i .u8]], .i .i64, .b] l0_0]]⟩
theorem f23_0_round (c : Orc) (lf : Nat) (l0_0 : List T) (L : CSt → Option (List T)) (x57 : Int) (x58 : Bool) (x59 : Int) :
    roundK c env lf 0 fi23 1 4 [] [1, 3, 4, 5] (x23_4_0) L (f23_0_c l0_0 x57 x58 x59) = f23_0_s c lf l0_0 (fun x57 x58 x59 => L (f23_0_c l0_0 x57 x58 x59)) x57 x58 x59 := by kernel_rfl
def f23_0 (c : Orc) (lf : Nat) (l0_0 : List T) : Nat → Int → Bool → Int → Option (List T)
  | 0 => fun _ _ _ => none
  | n + 1 => fun x57 x58 x59 => f23_0_s c lf l0_0 (f23_0 c lf l0_0 n) x57 x58 x59
theorem f23_0_eq (c : Orc) (lf : Nat) (l0_0 : List T) (n : Nat) (x57 : Int) (x58 : Bool) (x59 : Int) :
    lpK c env lf 0 fi23 1 4 [] [1, 3, 4, 5] (x23_4_0) n (f23_0_c l0_0 x57 x58 x59) = f23_0 c lf l0_0 n x57 x58 x59 := by
  induction n generalizing x57 x58 x59 with
  | zero => rfl
  | succ n ih =>
    refine (f23_0_round c lf l0_0 _ x57 x58 x59).trans ?_
    have e : (fun x57 x58 x59 => lpK c env lf 0 fi23 1 4 [] [1, 3, 4, 5] (x23_4_0) n (f23_0_c l0_0 x57 x58 x59)) = f23_0 c lf l0_0 n := by funext x57 x58 x59; exact ih x57 x58 x59
    show f23_0_s c lf l0_0 (fun x57 x58 x59 => lpK c env lf 0 fi23 1 4 [] [1, 3, 4, 5] (x23_4_0) n (f23_0_c l0_0 x57 x58 x59)) x57 x58 x59 = _
    rw [e]; rfl
/-- loop.example/g00285/spec.WearMost -/
def f23_t (c : Orc) (lf : Nat) (lp0 : List T → Int → Bool → Int → Option (List T)) (l0_0 : List T) : Option (List T) :=
  (lp0 l0_0 0 false 0).bind fun r60 =>
  some [T.i .i64 (asI (nth r60 1))]
def f23 (c : Orc) (lf : Nat) (l0_0 : List T) : Option (List T) := f23_t c lf (fun (l0_0 : List T) (x57 : Int) (x58 : Bool) (x59 : Int) => f23_0 c lf l0_0 lf x57 x58 x59) l0_0
theorem f23_raw (c : Orc) (lf : Nat) (l0_0 : List T) : funK c env lf 0 fi23 [.st [.sl l0_0]] = f23_t c lf (fun (l0_0 : List T) (x57 : Int) (x58 : Bool) (x59 : Int) => lpK c env lf 0 fi23 1 4 [] [1, 3, 4, 5] (x23_4_0) lf (f23_0_c l0_0 x57 x58 x59)) l0_0 := by kernel_rfl
theorem f23_eq (c : Orc) (lf : Nat) (l0_0 : List T) : funK c env lf 0 fi23 [.st [.sl l0_0]] = f23 c lf l0_0 := by
  refine (f23_raw c lf l0_0).trans ?_
  have e0 : (fun (l0_0 : List T) (x57 : Int) (x58 : Bool) (x59 : Int) => lpK c env lf 0 fi23 1 4 [] [1, 3, 4, 5] (x23_4_0) lf (f23_0_c l0_0 x57 x58 x59)) = (fun (l0_0 : List T) (x57 : Int) (x58 : Bool) (x59 : Int) => f23_0 c lf l0_0 lf x57 x58 x59) := by funext l0_0 x57 x58 x59; exact f23_0_eq c lf l0_0 lf x57 x58 x59
  rw [e0]; rfl
/-- loop.example/g00285/impl.WearMost, the loop at region 3. -/
def f25_0_s (c : Orc) (lf : Nat) (l0_0 : List T) (L : Int → Bool → Int → Option (List T)) (x65 : Int) (x66 : Bool) (x67 : Int) : Option (List T) :=
  bif decide (x67 < (l0_0.length : Int)) then
    bif inR x67 l0_0.length then
    bif !(asB (T.cell (l0_0.getD x67.toNat T.u) 2)) then
      bif !x66 then
        L (asI (T.cell (l0_0.getD x67.toNat T.u) 1)) true (IntKind.wrap .i64 (x67 + 1))
      else
        bif decide ((asI (T.cell (l0_0.getD x67.toNat T.u) 1)) > x65) then
          L (asI (T.cell (l0_0.getD x67.toNat T.u) 1)) true (IntKind.wrap .i64 (x67 + 1))
        else
          L x65 x66 (IntKind.wrap .i64 (x67 + 1))
    else
      L x65 x66 (IntKind.wrap .i64 (x67 + 1))
    else none
  else
    some [T.i .i64 0, T.i .i64 x65]
def f25_0_c (l0_0 : List T) (x65 : Int) (x66 : Bool) (x67 : Int) : CSt := ⟨[.i .i64 x65, .b x66, .ro 0 true [.sl true [.b, .sl false [.i .u8]], .i .i64, .b] l0_0, .i .i64 (l0_0.length : Int), .i .i64 x67], [.dead]⟩
theorem f25_0_round (c : Orc) (lf : Nat) (l0_0 : List T) (L : CSt → Option (List T)) (x65 : Int) (x66 : Bool) (x67 : Int) :
    roundK c env lf 0 fi25 1 3 [] [3, 4, 8, 9, 10] (x25_3_0) L (f25_0_c l0_0 x65 x66 x67) = f25_0_s c lf l0_0 (fun x65 x66 x67 => L (f25_0_c l0_0 x65 x66 x67)) x65 x66 x67 := by kernel_rfl
def f25_0 (c : Orc) (lf : Nat) (l0_0 : List T) : Nat → Int → Bool → Int → Option (List T)
  | 0 => fun _ _ _ => none
  | n + 1 => fun x65 x66 x67 => f25_0_s c lf l0_0 (f25_0 c lf l0_0 n) x65 x66 x67
theorem f25_0_eq (c : Orc) (lf : Nat) (l0_0 : List T) (n : Nat) (x65 : Int) (x66 : Bool) (x67 : Int) :
    lpK c env lf 0 fi25 1 3 [] [3, 4, 8, 9, 10] (x25_3_0) n (f25_0_c l0_0 x65 x66 x67) = f25_0 c lf l0_0 n x65 x66 x67 := by
  induction n generalizing x65 x66 x67 with
  | zero => rfl
  | succ n ih =>
    refine (f25_0_round c lf l0_0 _ x65 x66 x67).trans ?_
    have e : (fun x65 x66 x67 => lpK c env lf 0 fi25 1 3 [] [3, 4, 8, 9, 10] (x25_3_0) n (f25_0_c l0_0 x65 x66 x67)) = f25_0 c lf l0_0 n := by funext x65 x66 x67; exact ih x65 x66 x67
    show f25_0_s c lf l0_0 (fun x65 x66 x67 => lpK c env lf 0 fi25 1 3 [] [3, 4, 8, 9, 10] (x25_3_0) n (f25_0_c l0_0 x65 x66 x67)) x65 x66 x67 = _
    rw [e]; rfl
/-- loop.example/g00285/impl.WearMost -/
def f25_t (c : Orc) (lf : Nat) (lp0 : List T → Int → Bool → Int → Option (List T)) (l0_0 : List T) : Option (List T) :=
  (lp0 l0_0 0 false 0).bind fun r68 =>
  some [T.i .i64 (asI (nth r68 1))]
def f25 (c : Orc) (lf : Nat) (l0_0 : List T) : Option (List T) := f25_t c lf (fun (l0_0 : List T) (x65 : Int) (x66 : Bool) (x67 : Int) => f25_0 c lf l0_0 lf x65 x66 x67) l0_0
theorem f25_raw (c : Orc) (lf : Nat) (l0_0 : List T) : funK c env lf 0 fi25 [.st [.sl l0_0]] = f25_t c lf (fun (l0_0 : List T) (x65 : Int) (x66 : Bool) (x67 : Int) => lpK c env lf 0 fi25 1 3 [] [3, 4, 8, 9, 10] (x25_3_0) lf (f25_0_c l0_0 x65 x66 x67)) l0_0 := by kernel_rfl
theorem f25_eq (c : Orc) (lf : Nat) (l0_0 : List T) : funK c env lf 0 fi25 [.st [.sl l0_0]] = f25 c lf l0_0 := by
  refine (f25_raw c lf l0_0).trans ?_
  have e0 : (fun (l0_0 : List T) (x65 : Int) (x66 : Bool) (x67 : Int) => lpK c env lf 0 fi25 1 3 [] [3, 4, 8, 9, 10] (x25_3_0) lf (f25_0_c l0_0 x65 x66 x67)) = (fun (l0_0 : List T) (x65 : Int) (x66 : Bool) (x67 : Int) => f25_0 c lf l0_0 lf x65 x66 x67) := by funext l0_0 x65 x66 x67; exact f25_0_eq c lf l0_0 lf x65 x66 x67
  rw [e0]; rfl
/-- loop.example/g00285/laws.eqByteS, the loop at region 4. -/
def f29_0_s (c : Orc) (lf : Nat) (l0 : List T) (l1 : List T) (L : Int → Option (List T)) (x71 : Int) : Option (List T) :=
  bif decide (x71 < (l0.length : Int)) then
    bif inR x71 l0.length then
    bif inR x71 l1.length then
    bif (asI (l0.getD x71.toNat T.u)) != (asI (l1.getD x71.toNat T.u)) then
      some [T.i .i64 0, T.b false]
    else
      L (IntKind.wrap .i64 (x71 + 1))
    else none
    else none
  else
    some [T.i .i64 1]
def f29_0_c (l0 : List T) (l1 : List T) (x71 : Int) : CSt := ⟨[.ro 0 false [.i .u8] l0, .ro 0 false [.i .u8] l1, .i .i64 x71], [.dead, .dead]⟩
theorem f29_0_round (c : Orc) (lf : Nat) (l0 : List T) (l1 : List T) (L : CSt → Option (List T)) (x71 : Int) :
    roundK c env lf 0 fi29 2 4 [] [0, 1, 5] (x29_4_0) L (f29_0_c l0 l1 x71) = f29_0_s c lf l0 l1 (fun x71 => L (f29_0_c l0 l1 x71)) x71 := by kernel_rfl
def f29_0 (c : Orc) (lf : Nat) (l0 : List T) (l1 : List T) : Nat → Int → Option (List T)
  | 0 => fun _ => none
  | n + 1 => fun x71 => f29_0_s c lf l0 l1 (f29_0 c lf l0 l1 n) x71
theorem f29_0_eq (c : Orc) (lf : Nat) (l0 : List T) (l1 : List T) (n : Nat) (x71 : Int) :
    lpK c env lf 0 fi29 2 4 [] [0, 1, 5] (x29_4_0) n (f29_0_c l0 l1 x71) = f29_0 c lf l0 l1 n x71 := by
  induction n generalizing x71 with
  | zero => rfl
  | succ n ih =>
    refine (f29_0_round c lf l0 l1 _ x71).trans ?_
    have e : (fun x71 => lpK c env lf 0 fi29 2 4 [] [0, 1, 5] (x29_4_0) n (f29_0_c l0 l1 x71)) = f29_0 c lf l0 l1 n := by funext x71; exact ih x71
    show f29_0_s c lf l0 l1 (fun x71 => lpK c env lf 0 fi29 2 4 [] [0, 1, 5] (x29_4_0) n (f29_0_c l0 l1 x71)) x71 = _
    rw [e]; rfl
/-- loop.example/g00285/laws.eqByteS -/
def f29_t (c : Orc) (lf : Nat) (lp0 : List T → List T → Int → Option (List T)) (l0 : List T) (l1 : List T) : Option (List T) :=
  bif (l0.length : Int) != (l1.length : Int) then
    some [T.b false]
  else
    (lp0 l0 l1 0).bind fun r72 =>
    bif asI (nth r72 0) == 0 then
      some [T.b (asB (nth r72 1))]
    else
      some [T.b true]
def f29 (c : Orc) (lf : Nat) (l0 : List T) (l1 : List T) : Option (List T) := f29_t c lf (fun (l0 : List T) (l1 : List T) (x71 : Int) => f29_0 c lf l0 l1 lf x71) l0 l1
theorem f29_raw (c : Orc) (lf : Nat) (l0 : List T) (l1 : List T) : funK c env lf 0 fi29 [.sl l0, .sl l1] = f29_t c lf (fun (l0 : List T) (l1 : List T) (x71 : Int) => lpK c env lf 0 fi29 2 4 [] [0, 1, 5] (x29_4_0) lf (f29_0_c l0 l1 x71)) l0 l1 := by kernel_rfl
theorem f29_eq (c : Orc) (lf : Nat) (l0 : List T) (l1 : List T) : funK c env lf 0 fi29 [.sl l0, .sl l1] = f29 c lf l0 l1 := by
  refine (f29_raw c lf l0 l1).trans ?_
  have e0 : (fun (l0 : List T) (l1 : List T) (x71 : Int) => lpK c env lf 0 fi29 2 4 [] [0, 1, 5] (x29_4_0) lf (f29_0_c l0 l1 x71)) = (fun (l0 : List T) (l1 : List T) (x71 : Int) => f29_0 c lf l0 l1 lf x71) := by funext l0 l1 x71; exact f29_0_eq c lf l0 l1 lf x71
  rw [e0]; rfl
/-- loop.example/g00285/laws.eqPage -/
def f80_t (c : Orc) (lf : Nat) (b0_0 : Bool) (l0_1 : List T) (b1_0 : Bool) (l1_1 : List T) : Option (List T) :=
  bif !(b0_0 == b1_0) then
    some [T.b false]
  else
    (c 29 [T.sl l0_1, T.sl l1_1]).bind fun r73 =>
    bif !(asB (nth r73 0)) then
      some [T.b false]
    else
      some [T.b true]
def f80 (c : Orc) (lf : Nat) (b0_0 : Bool) (l0_1 : List T) (b1_0 : Bool) (l1_1 : List T) : Option (List T) := f80_t c lf b0_0 l0_1 b1_0 l1_1
theorem f80_raw (c : Orc) (lf : Nat) (b0_0 : Bool) (l0_1 : List T) (b1_0 : Bool) (l1_1 : List T) : funK c env lf 0 fi80 [.st [.b b0_0, .sl l0_1], .st [.b b1_0, .sl l1_1]] = f80_t c lf b0_0 l0_1 b1_0 l1_1 := by kernel_rfl
theorem f80_eq (c : Orc) (lf : Nat) (b0_0 : Bool) (l0_1 : List T) (b1_0 : Bool) (l1_1 : List T) : funK c env lf 0 fi80 [.st [.b b0_0, .sl l0_1], .st [.b b1_0, .sl l1_1]] = f80 c lf b0_0 l0_1 b1_0 l1_1 := by
  refine (f80_raw c lf b0_0 l0_1 b1_0 l1_1).trans ?_
  rfl
/-- loop.example/g00285/laws.eqPageS, the loop at region 4. -/
def f77_0_s (c : Orc) (lf : Nat) (l0 : List T) (l1 : List T) (L : Int → Option (List T)) (x79 : Int) : Option (List T) :=
  bif decide (x79 < (l0.length : Int)) then
    bif inR x79 l0.length then
    bif inR x79 l1.length then
    (c 80 [T.st [T.b (asB (T.cell (l0.getD x79.toNat T.u) 0)), T.sl (asL (T.cell (l0.getD x79.toNat T.u) 1))], T.st [T.b (asB (T.cell (l1.getD x79.toNat T.u) 0)), T.sl (asL (T.cell (l1.getD x79.toNat T.u) 1))]]).bind fun r80 =>
    bif !(asB (nth r80 0)) then
      some [T.i .i64 0, T.b false]
    else
      L (IntKind.wrap .i64 (x79 + 1))
    else none
    else none
  else
    some [T.i .i64 1]
def f77_0_c (l0 : List T) (l1 : List T) (x79 : Int) : CSt := ⟨[.ro 0 true [.b, .sl false [.i .u8]] l0, .ro 0 true [.b, .sl false [.i .u8]] l1, .i .i64 x79], [.dead, .dead]⟩
theorem f77_0_round (c : Orc) (lf : Nat) (l0 : List T) (l1 : List T) (L : CSt → Option (List T)) (x79 : Int) :
    roundK c env lf 0 fi77 2 4 [] [0, 1, 5] (x77_4_0) L (f77_0_c l0 l1 x79) = f77_0_s c lf l0 l1 (fun x79 => L (f77_0_c l0 l1 x79)) x79 := by kernel_rfl
def f77_0 (c : Orc) (lf : Nat) (l0 : List T) (l1 : List T) : Nat → Int → Option (List T)
  | 0 => fun _ => none
  | n + 1 => fun x79 => f77_0_s c lf l0 l1 (f77_0 c lf l0 l1 n) x79
theorem f77_0_eq (c : Orc) (lf : Nat) (l0 : List T) (l1 : List T) (n : Nat) (x79 : Int) :
    lpK c env lf 0 fi77 2 4 [] [0, 1, 5] (x77_4_0) n (f77_0_c l0 l1 x79) = f77_0 c lf l0 l1 n x79 := by
  induction n generalizing x79 with
  | zero => rfl
  | succ n ih =>
    refine (f77_0_round c lf l0 l1 _ x79).trans ?_
    have e : (fun x79 => lpK c env lf 0 fi77 2 4 [] [0, 1, 5] (x77_4_0) n (f77_0_c l0 l1 x79)) = f77_0 c lf l0 l1 n := by funext x79; exact ih x79
    show f77_0_s c lf l0 l1 (fun x79 => lpK c env lf 0 fi77 2 4 [] [0, 1, 5] (x77_4_0) n (f77_0_c l0 l1 x79)) x79 = _
    rw [e]; rfl
/-- loop.example/g00285/laws.eqPageS -/
def f77_t (c : Orc) (lf : Nat) (lp0 : List T → List T → Int → Option (List T)) (l0 : List T) (l1 : List T) : Option (List T) :=
  bif (l0.length : Int) != (l1.length : Int) then
    some [T.b false]
  else
    (lp0 l0 l1 0).bind fun r81 =>
    bif asI (nth r81 0) == 0 then
      some [T.b (asB (nth r81 1))]
    else
      some [T.b true]
def f77 (c : Orc) (lf : Nat) (l0 : List T) (l1 : List T) : Option (List T) := f77_t c lf (fun (l0 : List T) (l1 : List T) (x79 : Int) => f77_0 c lf l0 l1 lf x79) l0 l1
theorem f77_raw (c : Orc) (lf : Nat) (l0 : List T) (l1 : List T) : funK c env lf 0 fi77 [.sl l0, .sl l1] = f77_t c lf (fun (l0 : List T) (l1 : List T) (x79 : Int) => lpK c env lf 0 fi77 2 4 [] [0, 1, 5] (x77_4_0) lf (f77_0_c l0 l1 x79)) l0 l1 := by kernel_rfl
theorem f77_eq (c : Orc) (lf : Nat) (l0 : List T) (l1 : List T) : funK c env lf 0 fi77 [.sl l0, .sl l1] = f77 c lf l0 l1 := by
  refine (f77_raw c lf l0 l1).trans ?_
  have e0 : (fun (l0 : List T) (l1 : List T) (x79 : Int) => lpK c env lf 0 fi77 2 4 [] [0, 1, 5] (x77_4_0) lf (f77_0_c l0 l1 x79)) = (fun (l0 : List T) (l1 : List T) (x79 : Int) => f77_0 c lf l0 l1 lf x79) := by funext l0 l1 x79; exact f77_0_eq c lf l0 l1 lf x79
  rw [e0]; rfl
/-- loop.example/g00285/laws.eqBlock -/
def f71_t (c : Orc) (lf : Nat) (l0_0 : List T) (n0_1 : Int) (b0_2 : Bool) (l1_0 : List T) (n1_1 : Int) (b1_2 : Bool) : Option (List T) :=
  (c 77 [T.sl l0_0, T.sl l1_0]).bind fun r82 =>
  bif !(asB (nth r82 0)) then
    some [T.b false]
  else
    bif n0_1 != n1_1 then
      some [T.b false]
    else
      bif !(b0_2 == b1_2) then
        some [T.b false]
      else
        some [T.b true]
def f71 (c : Orc) (lf : Nat) (l0_0 : List T) (n0_1 : Int) (b0_2 : Bool) (l1_0 : List T) (n1_1 : Int) (b1_2 : Bool) : Option (List T) := f71_t c lf l0_0 n0_1 b0_2 l1_0 n1_1 b1_2
theorem f71_raw (c : Orc) (lf : Nat) (l0_0 : List T) (n0_1 : Int) (b0_2 : Bool) (l1_0 : List T) (n1_1 : Int) (b1_2 : Bool) : funK c env lf 0 fi71 [.st [.sl l0_0, .i .i64 n0_1, .b b0_2], .st [.sl l1_0, .i .i64 n1_1, .b b1_2]] = f71_t c lf l0_0 n0_1 b0_2 l1_0 n1_1 b1_2 := by kernel_rfl
theorem f71_eq (c : Orc) (lf : Nat) (l0_0 : List T) (n0_1 : Int) (b0_2 : Bool) (l1_0 : List T) (n1_1 : Int) (b1_2 : Bool) : funK c env lf 0 fi71 [.st [.sl l0_0, .i .i64 n0_1, .b b0_2], .st [.sl l1_0, .i .i64 n1_1, .b b1_2]] = f71 c lf l0_0 n0_1 b0_2 l1_0 n1_1 b1_2 := by
  refine (f71_raw c lf l0_0 n0_1 b0_2 l1_0 n1_1 b1_2).trans ?_
  rfl
/-- loop.example/g00285/laws.eqBlockS, the loop at region 4. -/
def f54_0_s (c : Orc) (lf : Nat) (l0 : List T) (l1 : List T) (L : Int → Option (List T)) (x88 : Int) : Option (List T) :=
  bif decide (x88 < (l0.length : Int)) then
    bif inR x88 l0.length then
    bif inR x88 l1.length then
    (c 71 [T.st [T.sl (asL (T.cell (l0.getD x88.toNat T.u) 0)), T.i .i64 (asI (T.cell (l0.getD x88.toNat T.u) 1)), T.b (asB (T.cell (l0.getD x88.toNat T.u) 2))], T.st [T.sl (asL (T.cell (l1.getD x88.toNat T.u) 0)), T.i .i64 (asI (T.cell (l1.getD x88.toNat T.u) 1)), T.b (asB (T.cell (l1.getD x88.toNat T.u) 2))]]).bind fun r89 =>
    bif !(asB (nth r89 0)) then
      some [T.i .i64 0, T.b false]
    else
      L (IntKind.wrap .i64 (x88 + 1))
    else none
    else none
  else
    some [T.i .i64 1]
def f54_0_c (l0 : List T) (l1 : List T) (x88 : Int) : CSt := ⟨[.ro 0 true [.sl true [.b, .sl false [.i .u8]], .i .i64, .b] l0, .ro 0 true [.sl true [.b, .sl false [.i .u8]], .i .i64, .b] l1, .i .i64 x88], [.dead, .dead]⟩
theorem f54_0_round (c : Orc) (lf : Nat) (l0 : List T) (l1 : List T) (L : CSt → Option (List T)) (x88 : Int) :
    roundK c env lf 0 fi54 2 4 [] [0, 1, 5] (x54_4_0) L (f54_0_c l0 l1 x88) = f54_0_s c lf l0 l1 (fun x88 => L (f54_0_c l0 l1 x88)) x88 := by kernel_rfl
def f54_0 (c : Orc) (lf : Nat) (l0 : List T) (l1 : List T) : Nat → Int → Option (List T)
  | 0 => fun _ => none
  | n + 1 => fun x88 => f54_0_s c lf l0 l1 (f54_0 c lf l0 l1 n) x88
theorem f54_0_eq (c : Orc) (lf : Nat) (l0 : List T) (l1 : List T) (n : Nat) (x88 : Int) :
    lpK c env lf 0 fi54 2 4 [] [0, 1, 5] (x54_4_0) n (f54_0_c l0 l1 x88) = f54_0 c lf l0 l1 n x88 := by
  induction n generalizing x88 with
  | zero => rfl
  | succ n ih =>
    refine (f54_0_round c lf l0 l1 _ x88).trans ?_
    have e : (fun x88 => lpK c env lf 0 fi54 2 4 [] [0, 1, 5] (x54_4_0) n (f54_0_c l0 l1 x88)) = f54_0 c lf l0 l1 n := by funext x88; exact ih x88
    show f54_0_s c lf l0 l1 (fun x88 => lpK c env lf 0 fi54 2 4 [] [0, 1, 5] (x54_4_0) n (f54_0_c l0 l1 x88)) x88 = _
    rw [e]; rfl
/-- loop.example/g00285/laws.eqBlockS -/
def f54_t (c : Orc) (lf : Nat) (lp0 : List T → List T → Int → Option (List T)) (l0 : List T) (l1 : List T) : Option (List T) :=
  bif (l0.length : Int) != (l1.length : Int) then
    some [T.b false]
  else
    (lp0 l0 l1 0).bind fun r90 =>
    bif asI (nth r90 0) == 0 then
      some [T.b (asB (nth r90 1))]
    else
      some [T.b true]
def f54 (c : Orc) (lf : Nat) (l0 : List T) (l1 : List T) : Option (List T) := f54_t c lf (fun (l0 : List T) (l1 : List T) (x88 : Int) => f54_0 c lf l0 l1 lf x88) l0 l1
theorem f54_raw (c : Orc) (lf : Nat) (l0 : List T) (l1 : List T) : funK c env lf 0 fi54 [.sl l0, .sl l1] = f54_t c lf (fun (l0 : List T) (l1 : List T) (x88 : Int) => lpK c env lf 0 fi54 2 4 [] [0, 1, 5] (x54_4_0) lf (f54_0_c l0 l1 x88)) l0 l1 := by kernel_rfl
theorem f54_eq (c : Orc) (lf : Nat) (l0 : List T) (l1 : List T) : funK c env lf 0 fi54 [.sl l0, .sl l1] = f54 c lf l0 l1 := by
  refine (f54_raw c lf l0 l1).trans ?_
  have e0 : (fun (l0 : List T) (l1 : List T) (x88 : Int) => lpK c env lf 0 fi54 2 4 [] [0, 1, 5] (x54_4_0) lf (f54_0_c l0 l1 x88)) = (fun (l0 : List T) (l1 : List T) (x88 : Int) => f54_0 c lf l0 l1 lf x88) := by funext l0 l1 x88; exact f54_0_eq c lf l0 l1 lf x88
  rw [e0]; rfl
/-- loop.example/g00285/laws.eqChip -/
def f26_t (c : Orc) (lf : Nat) (l0_0 : List T) (l1_0 : List T) : Option (List T) :=
  (c 54 [T.sl l0_0, T.sl l1_0]).bind fun r91 =>
  bif !(asB (nth r91 0)) then
    some [T.b false]
  else
    some [T.b true]
def f26 (c : Orc) (lf : Nat) (l0_0 : List T) (l1_0 : List T) : Option (List T) := f26_t c lf l0_0 l1_0
theorem f26_raw (c : Orc) (lf : Nat) (l0_0 : List T) (l1_0 : List T) : funK c env lf 0 fi26 [.st [.sl l0_0], .st [.sl l1_0]] = f26_t c lf l0_0 l1_0 := by kernel_rfl
theorem f26_eq (c : Orc) (lf : Nat) (l0_0 : List T) (l1_0 : List T) : funK c env lf 0 fi26 [.st [.sl l0_0], .st [.sl l1_0]] = f26 c lf l0_0 l1_0 := by
  refine (f26_raw c lf l0_0 l1_0).trans ?_
  rfl
/-- loop.example/g00285/laws.FnExactWearMost -/
def f6_t (c : Orc) (lf : Nat) (l0_0 : List T) : Option (List T) :=
  (c 22 [T.st [T.sl l0_0], T.i .i64 1048576]).bind fun r92 =>
  bif decide ((asI (nth r92 0)) < 0) then
    some [T.b true]
  else
    (c 24 [T.st [T.sl l0_0]]).bind fun r93 =>
    (c 23 [T.st [T.sl (asL (T.cell (nth r93 0) 0))]]).bind fun r94 =>
    (c 24 [T.st [T.sl l0_0]]).bind fun r95 =>
    (c 25 [T.st [T.sl (asL (T.cell (nth r95 0) 0))]]).bind fun r96 =>
    bif (asI (nth r96 0)) != (asI (nth r94 0)) then
      some [T.b false]
    else
      (c 24 [T.st [T.sl l0_0]]).bind fun r97 =>
      (c 26 [T.st [T.sl (asL (T.cell (nth r95 0) 0))], T.st [T.sl (asL (T.cell (nth r97 0) 0))]]).bind fun r98 =>
      bif !(asB (nth r98 0)) then
        some [T.b false]
      else
        some [T.b true]
def f6 (c : Orc) (lf : Nat) (l0_0 : List T) : Option (List T) := f6_t c lf l0_0
theorem f6_raw (c : Orc) (lf : Nat) (l0_0 : List T) : funK c env lf 0 fi6 [.st [.sl l0_0]] = f6_t c lf l0_0 := by kernel_rfl
theorem f6_eq (c : Orc) (lf : Nat) (l0_0 : List T) : funK c env lf 0 fi6 [.st [.sl l0_0]] = f6 c lf l0_0 := by
  refine (f6_raw c lf l0_0).trans ?_
  rfl
/-- loop.example/g00285/spec.WearLeast, the loop at region 4. -/
def f33_0_s (c : Orc) (lf : Nat) (l0_0 : List T) (L : Int → Bool → Int → Option (List T)) (x103 : Int) (x104 : Bool) (x105 : Int) : Option (List T) :=
  bif decide (x105 < (l0_0.length : Int)) then
    bif inR x105 l0_0.length then
    bif !(asB (T.cell (l0_0.getD x105.toNat T.u) 2)) then
      bif !x104 then
        bif inR x105 l0_0.length then
        L (asI (T.cell (l0_0.getD x105.toNat T.u) 1)) true (IntKind.wrap .i64 (x105 + 1))
        else none
      else
        bif inR x105 l0_0.length then
        bif decide ((asI (T.cell (l0_0.getD x105.toNat T.u) 1)) < x103) then
          bif inR x105 l0_0.length then
          L (asI (T.cell (l0_0.getD x105.toNat T.u) 1)) true (IntKind.wrap .i64 (x105 + 1))
          else none
        else
          L x103 x104 (IntKind.wrap .i64 (x105 + 1))
        else none
    else
      L x103 x104 (IntKind.wrap .i64 (x105 + 1))
    else none
  else
    some [T.i .i64 0, T.i .i64 x103]
def f33_0_c (l0_0 : List T) (x103 : Int) (x104 : Bool) (x105 : Int) : CSt := ⟨[.bp 1 0, .i .i64 x103, .b x104, .i .i64 x105], [.dead, .box [.ro 0 true [.sl true [.b, .sl false [.i .u8]], .i .i64, .b] l0_0]]⟩
theorem f33_0_round (c : Orc) (lf : Nat) (l0_0 : List T) (L : CSt → Option (List T)) (x103 : Int) (x104 : Bool) (x105 : Int) :
    roundK c env lf 0 fi33 1 4 [] [1, 3, 4, 5] (x33_4_0) L (f33_0_c l0_0 x103 x104 x105) = f33_0_s c lf l0_0 (fun x103 x104 x105 => L (f33_0_c l0_0 x103 x104 x105)) x103 x104 x105 := by kernel_rfl
def f33_0 (c : Orc) (lf : Nat) (l0_0 : List T) : Nat → Int → Bool → Int → Option (List T)
  | 0 => fun _ _ _ => none
  | n + 1 => fun x103 x104 x105 => f33_0_s c lf l0_0 (f33_0 c lf l0_0 n) x103 x104 x105
theorem f33_0_eq (c : Orc) (lf : Nat) (l0_0 : List T) (n : Nat) (x103 : Int) (x104 : Bool) (x105 : Int) :
    lpK c env lf 0 fi33 1 4 [] [1, 3, 4, 5] (x33_4_0) n (f33_0_c l0_0 x103 x104 x105) = f33_0 c lf l0_0 n x103 x104 x105 := by
  induction n generalizing x103 x104 x105 with
  | zero => rfl
  | succ n ih =>
    refine (f33_0_round c lf l0_0 _ x103 x104 x105).trans ?_
    have e : (fun x103 x104 x105 => lpK c env lf 0 fi33 1 4 [] [1, 3, 4, 5] (x33_4_0) n (f33_0_c l0_0 x103 x104 x105)) = f33_0 c lf l0_0 n := by funext x103 x104 x105; exact ih x103 x104 x105
    show f33_0_s c lf l0_0 (fun x103 x104 x105 => lpK c env lf 0 fi33 1 4 [] [1, 3, 4, 5] (x33_4_0) n (f33_0_c l0_0 x103 x104 x105)) x103 x104 x105 = _
    rw [e]; rfl
/-- loop.example/g00285/spec.WearLeast -/
def f33_t (c : Orc) (lf : Nat) (lp0 : List T → Int → Bool → Int → Option (List T)) (l0_0 : List T) : Option (List T) :=
  (lp0 l0_0 0 false 0).bind fun r106 =>
  some [T.i .i64 (asI (nth r106 1))]
def f33 (c : Orc) (lf : Nat) (l0_0 : List T) : Option (List T) := f33_t c lf (fun (l0_0 : List T) (x103 : Int) (x104 : Bool) (x105 : Int) => f33_0 c lf l0_0 lf x103 x104 x105) l0_0
theorem f33_raw (c : Orc) (lf : Nat) (l0_0 : List T) : funK c env lf 0 fi33 [.st [.sl l0_0]] = f33_t c lf (fun (l0_0 : List T) (x103 : Int) (x104 : Bool) (x105 : Int) => lpK c env lf 0 fi33 1 4 [] [1, 3, 4, 5] (x33_4_0) lf (f33_0_c l0_0 x103 x104 x105)) l0_0 := by kernel_rfl
theorem f33_eq (c : Orc) (lf : Nat) (l0_0 : List T) : funK c env lf 0 fi33 [.st [.sl l0_0]] = f33 c lf l0_0 := by
  refine (f33_raw c lf l0_0).trans ?_
  have e0 : (fun (l0_0 : List T) (x103 : Int) (x104 : Bool) (x105 : Int) => lpK c env lf 0 fi33 1 4 [] [1, 3, 4, 5] (x33_4_0) lf (f33_0_c l0_0 x103 x104 x105)) = (fun (l0_0 : List T) (x103 : Int) (x104 : Bool) (x105 : Int) => f33_0 c lf l0_0 lf x103 x104 x105) := by funext l0_0 x103 x104 x105; exact f33_0_eq c lf l0_0 lf x103 x104 x105
  rw [e0]; rfl
/-- loop.example/g00285/impl.WearLeast, the loop at region 4. -/
def f34_0_s (c : Orc) (lf : Nat) (l0_0 : List T) (L : Int → Bool → Int → Option (List T)) (x111 : Int) (x112 : Bool) (x113 : Int) : Option (List T) :=
  bif decide (x113 < (l0_0.length : Int)) then
    bif inR x113 l0_0.length then
    bif !(asB (T.cell (l0_0.getD x113.toNat T.u) 2)) then
      bif !x112 then
        L (asI (T.cell (l0_0.getD x113.toNat T.u) 1)) true (IntKind.wrap .i64 (x113 + 1))
      else
        bif decide ((asI (T.cell (l0_0.getD x113.toNat T.u) 1)) < x111) then
          L (asI (T.cell (l0_0.getD x113.toNat T.u) 1)) true (IntKind.wrap .i64 (x113 + 1))
        else
          L x111 x112 (IntKind.wrap .i64 (x113 + 1))
    else
      L x111 x112 (IntKind.wrap .i64 (x113 + 1))
    else none
  else
    some [T.i .i64 0, T.i .i64 x111]
def f34_0_c (l0_0 : List T) (x111 : Int) (x112 : Bool) (x113 : Int) : CSt := ⟨[.i .i64 x111, .b x112, .ro 0 true [.sl true [.b, .sl false [.i .u8]], .i .i64, .b] l0_0, .i .i64 (l0_0.length : Int), .i .i64 x113], [.dead]⟩
theorem f34_0_round (c : Orc) (lf : Nat) (l0_0 : List T) (L : CSt → Option (List T)) (x111 : Int) (x112 : Bool) (x113 : Int) :
    roundK c env lf 0 fi34 1 4 [] [3, 4, 8, 9, 10] (x34_4_0) L (f34_0_c l0_0 x111 x112 x113) = f34_0_s c lf l0_0 (fun x111 x112 x113 => L (f34_0_c l0_0 x111 x112 x113)) x111 x112 x113 := by kernel_rfl
def f34_0 (c : Orc) (lf : Nat) (l0_0 : List T) : Nat → Int → Bool → Int → Option (List T)
  | 0 => fun _ _ _ => none
  | n + 1 => fun x111 x112 x113 => f34_0_s c lf l0_0 (f34_0 c lf l0_0 n) x111 x112 x113
theorem f34_0_eq (c : Orc) (lf : Nat) (l0_0 : List T) (n : Nat) (x111 : Int) (x112 : Bool) (x113 : Int) :
    lpK c env lf 0 fi34 1 4 [] [3, 4, 8, 9, 10] (x34_4_0) n (f34_0_c l0_0 x111 x112 x113) = f34_0 c lf l0_0 n x111 x112 x113 := by
  induction n generalizing x111 x112 x113 with
  | zero => rfl
  | succ n ih =>
    refine (f34_0_round c lf l0_0 _ x111 x112 x113).trans ?_
    have e : (fun x111 x112 x113 => lpK c env lf 0 fi34 1 4 [] [3, 4, 8, 9, 10] (x34_4_0) n (f34_0_c l0_0 x111 x112 x113)) = f34_0 c lf l0_0 n := by funext x111 x112 x113; exact ih x111 x112 x113
    show f34_0_s c lf l0_0 (fun x111 x112 x113 => lpK c env lf 0 fi34 1 4 [] [3, 4, 8, 9, 10] (x34_4_0) n (f34_0_c l0_0 x111 x112 x113)) x111 x112 x113 = _
    rw [e]; rfl
/-- loop.example/g00285/impl.WearLeast -/
def f34_t (c : Orc) (lf : Nat) (lp0 : List T → Int → Bool → Int → Option (List T)) (l0_0 : List T) : Option (List T) :=
  (lp0 l0_0 0 false 0).bind fun r114 =>
  some [T.i .i64 (asI (nth r114 1))]
def f34 (c : Orc) (lf : Nat) (l0_0 : List T) : Option (List T) := f34_t c lf (fun (l0_0 : List T) (x111 : Int) (x112 : Bool) (x113 : Int) => f34_0 c lf l0_0 lf x111 x112 x113) l0_0
theorem f34_raw (c : Orc) (lf : Nat) (l0_0 : List T) : funK c env lf 0 fi34 [.st [.sl l0_0]] = f34_t c lf (fun (l0_0 : List T) (x111 : Int) (x112 : Bool) (x113 : Int) => lpK c env lf 0 fi34 1 4 [] [3, 4, 8, 9, 10] (x34_4_0) lf (f34_0_c l0_0 x111 x112 x113)) l0_0 := by kernel_rfl
theorem f34_eq (c : Orc) (lf : Nat) (l0_0 : List T) : funK c env lf 0 fi34 [.st [.sl l0_0]] = f34 c lf l0_0 := by
  refine (f34_raw c lf l0_0).trans ?_
  have e0 : (fun (l0_0 : List T) (x111 : Int) (x112 : Bool) (x113 : Int) => lpK c env lf 0 fi34 1 4 [] [3, 4, 8, 9, 10] (x34_4_0) lf (f34_0_c l0_0 x111 x112 x113)) = (fun (l0_0 : List T) (x111 : Int) (x112 : Bool) (x113 : Int) => f34_0 c lf l0_0 lf x111 x112 x113) := by funext l0_0 x111 x112 x113; exact f34_0_eq c lf l0_0 lf x111 x112 x113
  rw [e0]; rfl
/-- loop.example/g00285/laws.FnExactWearLeast -/
def f8_t (c : Orc) (lf : Nat) (l0_0 : List T) : Option (List T) :=
  (c 22 [T.st [T.sl l0_0], T.i .i64 1048576]).bind fun r115 =>
  bif decide ((asI (nth r115 0)) < 0) then
    some [T.b true]
  else
    (c 24 [T.st [T.sl l0_0]]).bind fun r116 =>
    (c 33 [T.st [T.sl (asL (T.cell (nth r116 0) 0))]]).bind fun r117 =>
    (c 24 [T.st [T.sl l0_0]]).bind fun r118 =>
    (c 34 [T.st [T.sl (asL (T.cell (nth r118 0) 0))]]).bind fun r119 =>
    bif (asI (nth r119 0)) != (asI (nth r117 0)) then
      some [T.b false]
    else
      (c 24 [T.st [T.sl l0_0]]).bind fun r120 =>
      (c 26 [T.st [T.sl (asL (T.cell (nth r118 0) 0))], T.st [T.sl (asL (T.cell (nth r120 0) 0))]]).bind fun r121 =>
      bif !(asB (nth r121 0)) then
        some [T.b false]
      else
        some [T.b true]
def f8 (c : Orc) (lf : Nat) (l0_0 : List T) : Option (List T) := f8_t c lf l0_0
theorem f8_raw (c : Orc) (lf : Nat) (l0_0 : List T) : funK c env lf 0 fi8 [.st [.sl l0_0]] = f8_t c lf l0_0 := by kernel_rfl
theorem f8_eq (c : Orc) (lf : Nat) (l0_0 : List T) : funK c env lf 0 fi8 [.st [.sl l0_0]] = f8 c lf l0_0 := by
  refine (f8_raw c lf l0_0).trans ?_
  rfl
end Go.Proofs.Ytejeinhdlcgkgaa.T
