/- What functions of the law FnMaps come to, in trees; no condition. -/
import Derived.Test.YtockabaoaneplaaRows
import Derived.Test.YtockabaoaneplaaV4
import Derived.KernelRfl
set_option linter.unusedVariables false
set_option linter.constructorNameAsVariable false
set_option linter.unusedSimpArgs false
set_option linter.unnecessarySimpa false
namespace Go.Proofs.Ytockabaoaneplaa.T
open Go Go.Proofs.YtockabaoaneplaaV
def tyTab : List (Nat × Ti) := [
  (3, ⟨false, [.i .i64], .o⟩),
  (4, ⟨false, [.b], .o⟩),
  (5, ⟨false, [.i .u8], .o⟩),
  (22, ⟨false, [.sl false [.i .u8]], .sl 5⟩),
  (24, ⟨false, [.sl true [.i .i64, .i .i64]], .sl 36⟩),
  (26, ⟨true, [.i .i64, .sl true [.i .i64, .i .i64]], .st [(0, 3), (1, 24)]⟩),
  (36, ⟨true, [.i .i64, .i .i64], .st [(0, 3), (1, 3)]⟩),
  (101, ⟨false, [.o], .o⟩),
  (107, ⟨false, [.sl false [.i .i64]], .sl 3⟩),
  (108, ⟨false, [.o], .o⟩),
  (110, ⟨true, [.sl false [.i .u8], .i .i64, .b], .st [(0, 22), (1, 3), (2, 4)]⟩),
  (113, ⟨false, [.o], .o⟩),
  (115, ⟨true, [.sl false [.i .u8], .i .i64, .b], .st [(0, 22), (1, 3), (2, 4)]⟩),
  (153, ⟨true, [.sl false [.i .u8], .i .i64, .i .i64], .st [(0, 22), (1, 3), (2, 3)]⟩),
  (159, ⟨false, [.i .u64], .o⟩)]
noncomputable def fi13 : Fi := ⟨Try.f13, [], false, [.ro (.sl false [.i .u8])], [.v (.b)]⟩
def x65_3_0 : List (Ex × List Nat × CSt) := [((.ex 0), [0, 3], ⟨[.ro 0 false [.i .u8] [], .i .i64 0], [.dead]⟩)]
noncomputable def fi65 : Fi := ⟨Try.f65, [⟨3, [0, 3, 4], [], [(⟨[.ro 0 false [.i .u8] [], .i .i64 0, .i .i64 0], [.dead]⟩, x65_3_0)]⟩], false, [.ro (.sl false [.i .u8])], [.bx [.ro (.sl false [.i .u8]), .v (.i .i64), .v (.i .i64)]]⟩
noncomputable def fi124 : Fi := ⟨Try.f124, [], false, [.bx [.ro (.sl false [.i .u8]), .v (.i .i64), .v (.i .i64)]], [.v (.i .i64)]⟩
noncomputable def fi70 : Fi := ⟨Try.f70, [], false, [.bx [.ro (.sl false [.i .u8]), .v (.i .i64), .v (.i .i64)], .v (.i .i64)], [.v (.i .i64)]⟩
noncomputable def fi118 : Fi := ⟨Try.f118, [], false, [.bx [.ro (.sl false [.i .u8]), .v (.i .i64), .v (.i .i64)], .v (.i .i64)], [.v (.b)]⟩
noncomputable def fi71 : Fi := ⟨Try.f71, [], false, [.bx [.ro (.sl false [.i .u8]), .v (.i .i64), .v (.i .i64)], .ro (.sl false [.i .i64])], [.v (.i .i64)]⟩
def x69_3_0 : List (Ex × List Nat × CSt) := [((.ex 0), [2, 3], ⟨[.bp 4 0, .bp 6 0], [.box [.ro 1 false [.i .u8] [], .i .i64 0, .i .i64 0], .dead, .dead, .dead, .box [.i .i64 0, .rf 5 [] 0 none], .row true [.i .i64, .i .i64] [] 0 false, .box [.i .i64 0, .rf 7 [] 0 none], .row true [.i .i64, .i .i64] [] 0 false]⟩)]
noncomputable def fi69 : Fi := ⟨Try.f69, [⟨3, [0, 2, 3, 4], [], [(⟨[.bp 0 0, .bp 4 0, .bp 6 0, .i .i64 0], [.box [.ro 1 false [.i .u8] [], .i .i64 0, .i .i64 0], .dead, .dead, .dead, .box [.i .i64 0, .rf 5 [] 0 none], .row true [.i .i64, .i .i64] [] 0 false, .box [.i .i64 0, .rf 7 [] 0 none], .row true [.i .i64, .i .i64] [] 0 false]⟩, x69_3_0)]⟩], false, [.bx [.ro (.sl false [.i .u8]), .v (.i .i64), .v (.i .i64)]], [.ag [.v (.i .i64), .ow (.sl true [.i .i64, .i .i64])]]⟩
noncomputable def fi66 : Fi := ⟨Try.f66, [], false, [.bx [.ro (.sl false [.i .u8]), .v (.i .i64), .v (.i .i64)]], [.ag [.v (.i .i64), .ow (.sl true [.i .i64, .i .i64])]]⟩
noncomputable def fi14 : Fi := ⟨Try.f14, [], false, [.ro (.sl false [.i .u8])], [.ag [.v (.i .i64), .ow (.sl true [.i .i64, .i .i64])]]⟩
noncomputable def fi76 : Fi := ⟨Try.f76, [], false, [.v (.i .i64), .v (.i .i64), .v (.i .i64)], [.v (.b)]⟩
def x19_2_0 : List (Ex × List Nat × CSt) := [(.ret, [2], ⟨[.b false], [.dead, .dead]⟩), ((.ex 0), [1], ⟨[.bp 2 0], [.dead, .dead, .box [.i .i64 0, .ro 0 true [.i .i64, .i .i64] []]]⟩)]
noncomputable def fi19 : Fi := ⟨Try.f19, [⟨2, [1, 6, 7, 8], [], [(⟨[.bp 2 0, .ro 0 true [.i .i64, .i .i64] [], .i .i64 0, .i .i64 0], [.dead, .dead, .box [.i .i64 0, .ro 0 true [.i .i64, .i .i64] []]]⟩, x19_2_0)]⟩], false, [.ag [.v (.i .i64), .ro (.sl true [.i .i64, .i .i64])]], [.v (.b)]⟩
noncomputable def fi123 : Fi := ⟨Try.f123, [], false, [.ro (.sl false [.i .u8])], [.ow (.sl false [.i .u8])]⟩
def x67_3_0 : List (Ex × List Nat × CSt) := [((.ex 0), [1, 5], ⟨[.i .i64 0, .rf 2 [] 0 none], [.dead, .dead, .row false [.i .u8] [] 0 false]⟩)]
noncomputable def fi67 : Fi := ⟨Try.f67, [⟨3, [1, 5], [], [(⟨[.i .i64 0, .rf 2 [] 0 none], [.dead, .dead, .row false [.i .u8] [] 0 false]⟩, x67_3_0)]⟩], false, [.ro (.sl false [.i .u8]), .v (.i .i64)], [.ow (.sl false [.i .u8])]⟩
def x15_5_0 : List (Ex × List Nat × CSt) := [((.ex 0), [3], ⟨[.rf 2 [] 0 none], [.dead, .dead, .row false [.i .u8] [] 0 false]⟩)]
noncomputable def fi15 : Fi := ⟨Try.f15, [⟨5, [3, 17, 18, 19], [], [(⟨[.rf 2 [] 0 none, .ro 0 true [.i .i64, .i .i64] [], .i .i64 0, .i .i64 0], [.dead, .dead, .row false [.i .u8] [] 0 false]⟩, x15_5_0)]⟩], false, [.ag [.v (.i .i64), .ro (.sl true [.i .i64, .i .i64])]], [.ow (.sl false [.i .u8])]⟩
noncomputable def fi77 : Fi := ⟨Try.f77, [], false, [.v (.i .i64), .v (.i .i64), .v (.i .i64)], [.v (.b)]⟩
def x21_2_0 : List (Ex × List Nat × CSt) := [(.ret, [2], ⟨[.b false], [.dead, .dead]⟩), ((.ex 0), [1], ⟨[.bp 2 0], [.dead, .dead, .box [.i .i64 0, .ro 0 true [.i .i64, .i .i64] []]]⟩)]
noncomputable def fi21 : Fi := ⟨Try.f21, [⟨2, [1, 3], [], [(⟨[.bp 2 0, .i .i64 0], [.dead, .dead, .box [.i .i64 0, .ro 0 true [.i .i64, .i .i64] []]]⟩, x21_2_0)]⟩], false, [.ag [.v (.i .i64), .ro (.sl true [.i .i64, .i .i64])]], [.v (.b)]⟩
def x79_6_0 : List (Ex × List Nat × CSt) := [((.ex 0), [1, 5], ⟨[.i .i64 0, .rf 2 [] 0 none], [.dead, .dead, .row false [.i .u8] [] 0 false]⟩)]
noncomputable def fi79 : Fi := ⟨Try.f79, [⟨6, [1, 5], [], [(⟨[.i .i64 0, .rf 2 [] 0 none], [.dead, .dead, .row false [.i .u8] [] 0 false]⟩, x79_6_0)]⟩], false, [.ro (.sl false [.i .u8]), .v (.i .i64)], [.ow (.sl false [.i .u8])]⟩
def x68_5_0 : List (Ex × List Nat × CSt) := [((.ex 0), [3], ⟨[.rf 2 [] 0 none], [.dead, .dead, .row false [.i .u8] [] 0 false]⟩)]
noncomputable def fi68 : Fi := ⟨Try.f68, [⟨5, [1, 3, 4], [], [(⟨[.bp 2 0, .rf 3 [] 0 none, .i .i64 0], [.dead, .dead, .box [.i .i64 0, .ro 0 true [.i .i64, .i .i64] []], .row false [.i .u8] [] 0 false]⟩, x68_5_0)]⟩], false, [.ag [.v (.i .i64), .ro (.sl true [.i .i64, .i .i64])]], [.ow (.sl false [.i .u8])]⟩
noncomputable def fi16 : Fi := ⟨Try.f16, [], false, [.ro (.sl false [.i .u8])], [.ow (.sl false [.i .u8])]⟩
def x125_6_0 : List (Ex × List Nat × CSt) := [((.ex 0), [], ⟨[], [.dead, .dead]⟩), (.ret, [4, 5, 6], ⟨[.i .i64 0, .i .i64 0, .b false], [.dead, .dead]⟩)]
noncomputable def fi125 : Fi := ⟨Try.f125, [⟨6, [0, 1, 7, 8, 9], [], [(⟨[.ro 0 false [.i .u8] [], .i .i64 0, .i .i64 0, .i .i64 0, .i .i64 0], [.dead, .dead]⟩, x125_6_0)]⟩], false, [.ro (.sl false [.i .u8]), .v (.i .i64)], [.v (.i .i64), .v (.i .i64), .v (.b)]⟩
noncomputable def fi72 : Fi := ⟨Try.f72, [], false, [.bx [.ro (.sl false [.i .u8]), .v (.i .i64), .v (.b)]], [.v (.i .i64)]⟩
noncomputable def fi73 : Fi := ⟨Try.f73, [], false, [.bx [.ro (.sl false [.i .u8]), .v (.i .i64), .v (.b)]], [.v (.i .i64)]⟩
noncomputable def fi74 : Fi := ⟨Try.f74, [], false, [.bx [.ro (.sl false [.i .u8]), .v (.i .i64), .v (.b)]], [.v (.b)]⟩
def x17_4_0 : List (Ex × List Nat × CSt) := [((.ex 0), [2, 4, 5], ⟨[.bp 1 0, .bp 3 0, .bp 4 0], [.dead, .box [.i .i64 0, .rf 2 [] 0 none], .row true [.i .i64, .i .i64] [] 0 false, .box [.ro 0 false [.i .u8] [], .i .i64 0, .b false], .box [.i .i64 0, .rf 5 [] 0 none], .row true [.i .i64, .i .i64] [] 0 false]⟩)]
noncomputable def fi17 : Fi := ⟨Try.f17, [⟨4, [2, 4, 5, 15, 16], [], [(⟨[.bp 1 0, .bp 3 0, .bp 4 0, .i .i64 0, .i .i64 0], [.dead, .box [.i .i64 0, .rf 2 [] 0 none], .row true [.i .i64, .i .i64] [] 0 false, .box [.ro 0 false [.i .u8] [], .i .i64 0, .b false], .box [.i .i64 0, .rf 5 [] 0 none], .row true [.i .i64, .i .i64] [] 0 false]⟩, x17_4_0)]⟩], false, [.ro (.sl false [.i .u8])], [.ag [.v (.i .i64), .ow (.sl true [.i .i64, .i .i64])], .v (.b)]⟩
def x126_3_0 : List (Ex × List Nat × CSt) := [(.ret, [4, 5, 6], ⟨[.i .i64 0, .i .i64 0, .b false], [.dead, .dead]⟩), ((.ex 0), [], ⟨[], [.dead, .dead]⟩)]
noncomputable def fi126 : Fi := ⟨Try.f126, [⟨3, [0, 1, 7, 8], [], [(⟨[.ro 0 false [.i .u8] [], .i .i64 0, .i .i64 0, .i .i64 0], [.dead, .dead]⟩, x126_3_0)]⟩], false, [.ro (.sl false [.i .u8]), .v (.i .i64)], [.v (.i .i64), .v (.i .i64), .v (.b)]⟩
noncomputable def fi75 : Fi := ⟨Try.f75, [], false, [.bx [.ro (.sl false [.i .u8]), .v (.i .i64), .v (.b)]], [.v (.i .i64)]⟩
def x18_5_0 : List (Ex × List Nat × CSt) := [((.ex 0), [0, 2, 4, 5, 6], ⟨[.ro 0 false [.i .u8] [], .bp 1 0, .bp 3 0, .bp 4 0, .i .i64 0], [.dead, .box [.i .i64 0, .rf 2 [] 0 none], .row true [.i .i64, .i .i64] [] 0 false, .box [.ro 0 false [.i .u8] [], .i .i64 0, .b false], .box [.i .i64 0, .rf 5 [] 0 none], .row true [.i .i64, .i .i64] [] 0 false]⟩)]
noncomputable def fi18 : Fi := ⟨Try.f18, [⟨5, [0, 2, 4, 5, 6, 7], [], [(⟨[.ro 0 false [.i .u8] [], .bp 1 0, .bp 3 0, .bp 4 0, .i .i64 0, .i .i64 0], [.dead, .box [.i .i64 0, .rf 2 [] 0 none], .row true [.i .i64, .i .i64] [] 0 false, .box [.ro 0 false [.i .u8] [], .i .i64 0, .b false], .box [.i .i64 0, .rf 5 [] 0 none], .row true [.i .i64, .i .i64] [] 0 false]⟩, x18_5_0)]⟩], false, [.ro (.sl false [.i .u8])], [.ag [.v (.i .i64), .ow (.sl true [.i .i64, .i .i64])], .v (.b)]⟩
def x20_4_0 : List (Ex × List Nat × CSt) := [(.ret, [4], ⟨[.b false], [.dead, .dead]⟩), ((.ex 0), [], ⟨[], [.dead, .dead]⟩)]
noncomputable def fi20 : Fi := ⟨Try.f20, [⟨4, [0, 1, 5], [], [(⟨[.ro 0 false [.i .u8] [], .ro 0 false [.i .u8] [], .i .i64 0], [.dead, .dead]⟩, x20_4_0)]⟩], false, [.ro (.sl false [.i .u8]), .ro (.sl false [.i .u8])], [.v (.b)]⟩
def x22_2_0 : List (Ex × List Nat × CSt) := [(.ret, [4], ⟨[.i .i64 0], [.dead, .dead, .dead]⟩), ((.ex 0), [], ⟨[], [.dead, .dead, .dead]⟩)]
noncomputable def fi22 : Fi := ⟨Try.f22, [⟨2, [1, 8, 9, 10], [], [(⟨[.i .i64 0, .ro 0 true [.i .i64, .i .i64] [], .i .i64 0, .i .i64 0], [.dead, .dead, .dead]⟩, x22_2_0)]⟩], false, [.ag [.v (.i .i64), .ro (.sl true [.i .i64, .i .i64])], .v (.i .i64)], [.v (.i .i64)]⟩
def x3_14_0 : List (Ex × List Nat × CSt) := [(.ret, [2], ⟨[.b false], [.dead]⟩), ((.ex 0), [3, 4, 10, 11], ⟨[.bp 1 0, .rf 3 [] 0 none, .bp 4 0, .b false], [.dead, .box [.i .i64 0, .rf 2 [] 0 none], .row true [.i .i64, .i .i64] [] 0 false, .row false [.i .u8] [] 0 false, .box [.i .i64 0, .rf 5 [] 0 none], .row true [.i .i64, .i .i64] [] 0 false]⟩)]
noncomputable def fi3 : Fi := ⟨Try.f3, [⟨14, [3, 4, 10, 11, 12], [], [(⟨[.bp 1 0, .rf 3 [] 0 none, .bp 4 0, .b false, .i .i64 0], [.dead, .box [.i .i64 0, .rf 2 [] 0 none], .row true [.i .i64, .i .i64] [] 0 false, .row false [.i .u8] [] 0 false, .box [.i .i64 0, .rf 5 [] 0 none], .row true [.i .i64, .i .i64] [] 0 false]⟩, x3_14_0)]⟩], false, [.ro (.sl false [.i .u8])], [.v (.b)]⟩
noncomputable def fiTab : List (Nat × Fi) := [(13, fi13), (65, fi65), (124, fi124), (70, fi70), (118, fi118), (71, fi71), (69, fi69), (66, fi66), (14, fi14), (76, fi76), (19, fi19), (123, fi123), (67, fi67), (15, fi15), (77, fi77), (21, fi21), (79, fi79), (68, fi68), (16, fi16), (125, fi125), (72, fi72), (73, fi73), (74, fi74), (17, fi17), (126, fi126), (75, fi75), (18, fi18), (20, fi20), (22, fi22), (3, fi3)]
-- EXT 123 clone 22 5
def X : Nat → Option (List T → Option (List T)) := lookN [(123, cloneF)]
noncomputable def env : Env := ⟨lookN fiTab, lookN tyTab⟩
-- FUNCTIONS
/-- loop.example/g00285/laws.big -/
def f13_t (c : Orc) (lf : Nat) (l0 : List T) : Option (List T) :=
  some [T.b (iLt 1048576 (l0.length : Int))]
def f13 (c : Orc) (lf : Nat) (l0 : List T) : Option (List T) := f13_t c lf l0
theorem f13_raw (c : Orc) (lf : Nat) (l0 : List T) : funK c env lf 6 fi13 [.sl l0] = f13_t c lf l0 := by kernel_rfl
theorem f13_eq (c : Orc) (lf : Nat) (l0 : List T) : funK c env lf 6 fi13 [.sl l0] = f13 c lf l0 := by
  refine (f13_raw c lf l0).trans ?_
  rfl
/-- loop.example/g00285/spec.l1New, the loop at region 3. -/
def f65_0_s (c : Orc) (lf : Nat) (l0 : List T) (L : Int → Int → Option (List T)) (x7 : Int) (x8 : Int) : Option (List T) :=
  bif iLt x8 (l0.length : Int) then
    bif iLt x8 4000 then
      bif inR x8 l0.length then
      L (intBits .and .i64 (IntKind.wrap .i64 ((IntKind.wrap .i64 ((IntKind.wrap .i64 (x7 * 137)) + (IntKind.wrap .i64 (asI (l0.getD x8.toNat T.u))))) + 11)) 1073741823) (IntKind.wrap .i64 (x8 + 1))
      else none
    else
      some [T.i .i64 0, T.sl l0, T.i .i64 x7]
  else
    some [T.i .i64 0, T.sl l0, T.i .i64 x7]
def f65_0_c (l0 : List T) (x7 : Int) (x8 : Int) : CSt := ⟨[.ro 0 false [.i .u8] l0, .i .i64 x7, .i .i64 x8], [.dead]⟩
theorem f65_0_round (c : Orc) (lf : Nat) (l0 : List T) (L : CSt → Option (List T)) (x7 : Int) (x8 : Int) :
    roundK c env lf 6 fi65 1 3 [] [0, 3, 4] (x65_3_0) L (f65_0_c l0 x7 x8) = f65_0_s c lf l0 (fun x7 x8 => L (f65_0_c l0 x7 x8)) x7 x8 := by kernel_rfl
def f65_0 (c : Orc) (lf : Nat) (l0 : List T) : Nat → Int → Int → Option (List T)
  | 0 => fun _ _ => none
  | n + 1 => fun x7 x8 => f65_0_s c lf l0 (f65_0 c lf l0 n) x7 x8
theorem f65_0_u (c : Orc) (lf : Nat) (l0 : List T) (n : Nat) (x7 : Int) (x8 : Int) : f65_0 c lf l0 (n + 1) x7 x8 = f65_0_s c lf l0 (f65_0 c lf l0 n) x7 x8 := rfl
theorem f65_0_eq (c : Orc) (lf : Nat) (l0 : List T) (n : Nat) (x7 : Int) (x8 : Int) :
    lpK c env lf 6 fi65 1 3 [] [0, 3, 4] (x65_3_0) n (f65_0_c l0 x7 x8) = f65_0 c lf l0 n x7 x8 := by
  induction n generalizing x7 x8 with
  | zero => rfl
  | succ n ih =>
    refine (f65_0_round c lf l0 _ x7 x8).trans ?_
    have e : (fun x7 x8 => lpK c env lf 6 fi65 1 3 [] [0, 3, 4] (x65_3_0) n (f65_0_c l0 x7 x8)) = f65_0 c lf l0 n := by funext x7 x8; exact ih x7 x8
    show f65_0_s c lf l0 (fun x7 x8 => lpK c env lf 6 fi65 1 3 [] [0, 3, 4] (x65_3_0) n (f65_0_c l0 x7 x8)) x7 x8 = _
    rw [e]; rfl
/-- loop.example/g00285/spec.l1New -/
def f65_t (c : Orc) (lf : Nat) (lp0 : List T → Int → Int → Option (List T)) (l0 : List T) : Option (List T) :=
  (lp0 l0 (IntKind.wrap .i64 (351351 + (l0.length : Int))) 0).bind fun r9 =>
  some [T.st [T.sl (asL (nth r9 1)), T.i .i64 0, T.i .i64 (asI (nth r9 2))]]
def f65 (c : Orc) (lf : Nat) (l0 : List T) : Option (List T) := f65_t c lf (fun (l0 : List T) (x7 : Int) (x8 : Int) => f65_0 c lf l0 lf x7 x8) l0
theorem f65_raw (c : Orc) (lf : Nat) (l0 : List T) : funK c env lf 6 fi65 [.sl l0] = f65_t c lf (fun (l0 : List T) (x7 : Int) (x8 : Int) => lpK c env lf 6 fi65 1 3 [] [0, 3, 4] (x65_3_0) lf (f65_0_c l0 x7 x8)) l0 := by kernel_rfl
theorem f65_eq (c : Orc) (lf : Nat) (l0 : List T) : funK c env lf 6 fi65 [.sl l0] = f65 c lf l0 := by
  refine (f65_raw c lf l0).trans ?_
  have e0 : (fun (l0 : List T) (x7 : Int) (x8 : Int) => lpK c env lf 6 fi65 1 3 [] [0, 3, 4] (x65_3_0) lf (f65_0_c l0 x7 x8)) = (fun (l0 : List T) (x7 : Int) (x8 : Int) => f65_0 c lf l0 lf x7 x8) := by funext l0 x7 x8; exact f65_0_eq c lf l0 lf x7 x8
  rw [e0]; rfl
/-- loop.example/g00285/spec.l1Byte -/
def f124_t (c : Orc) (lf : Nat) (l0_0 : List T) (n0_1 : Int) (n0_2 : Int) : Option (List T) :=
  bif iLt n0_1 (l0_0.length : Int) then
    bif inR n0_1 l0_0.length then
    some [T.i .i64 (intBits .and .i64 (IntKind.wrap .i64 ((intBits .and .i64 (intBits .xor .i64 (shiftI .shr .i64 (IntKind.wrap .i64 ((IntKind.wrap .i64 (n0_2 * 6364136223846793005)) + 1442695040888963407)) 33) (shiftI .shr .i64 (IntKind.wrap .i64 ((IntKind.wrap .i64 (n0_2 * 6364136223846793005)) + 1442695040888963407)) 47)) 255) + (IntKind.wrap .i64 (asI (l0_0.getD n0_1.toNat T.u))))) 255), T.st [T.sl l0_0, T.i .i64 (IntKind.wrap .i64 (n0_1 + 1)), T.i .i64 (IntKind.wrap .i64 ((IntKind.wrap .i64 (n0_2 * 6364136223846793005)) + 1442695040888963407))]]
    else none
  else
    some [T.i .i64 (intBits .and .i64 (intBits .xor .i64 (shiftI .shr .i64 (IntKind.wrap .i64 ((IntKind.wrap .i64 (n0_2 * 6364136223846793005)) + 1442695040888963407)) 33) (shiftI .shr .i64 (IntKind.wrap .i64 ((IntKind.wrap .i64 (n0_2 * 6364136223846793005)) + 1442695040888963407)) 47)) 255), T.st [T.sl l0_0, T.i .i64 n0_1, T.i .i64 (IntKind.wrap .i64 ((IntKind.wrap .i64 (n0_2 * 6364136223846793005)) + 1442695040888963407))]]
def f124 (c : Orc) (lf : Nat) (l0_0 : List T) (n0_1 : Int) (n0_2 : Int) : Option (List T) := f124_t c lf l0_0 n0_1 n0_2
theorem f124_raw (c : Orc) (lf : Nat) (l0_0 : List T) (n0_1 : Int) (n0_2 : Int) : funK c env lf 6 fi124 [.st [.sl l0_0, .i .i64 n0_1, .i .i64 n0_2]] = f124_t c lf l0_0 n0_1 n0_2 := by kernel_rfl
theorem f124_eq (c : Orc) (lf : Nat) (l0_0 : List T) (n0_1 : Int) (n0_2 : Int) : funK c env lf 6 fi124 [.st [.sl l0_0, .i .i64 n0_1, .i .i64 n0_2]] = f124 c lf l0_0 n0_1 n0_2 := by
  refine (f124_raw c lf l0_0 n0_1 n0_2).trans ?_
  rfl
/-- loop.example/g00285/spec.l1Below -/
def f70_t (c : Orc) (lf : Nat) (l0_0 : List T) (n0_1 : Int) (n0_2 : Int) (n1 : Int) : Option (List T) :=
  bif iLe n1 0 then
    some [T.i .i64 0, T.st [T.sl l0_0, T.i .i64 n0_1, T.i .i64 n0_2]]
  else
    bif iLe n1 256 then
      (c 124 [T.st [T.sl l0_0, T.i .i64 n0_1, T.i .i64 n0_2]]).bind fun r10 =>
      bif n1 != 0 then
      some [T.i .i64 ((asI (nth r10 0)).tmod n1), T.st [T.sl l0_0, T.i .i64 (asI (T.cell (nth r10 1) 1)), T.i .i64 (asI (T.cell (nth r10 1) 2))]]
      else none
    else
      (c 124 [T.st [T.sl l0_0, T.i .i64 n0_1, T.i .i64 n0_2]]).bind fun r11 =>
      (c 124 [T.st [T.sl l0_0, T.i .i64 (asI (T.cell (nth r11 1) 1)), T.i .i64 (asI (T.cell (nth r11 1) 2))]]).bind fun r12 =>
      (c 124 [T.st [T.sl l0_0, T.i .i64 (asI (T.cell (nth r12 1) 1)), T.i .i64 (asI (T.cell (nth r12 1) 2))]]).bind fun r13 =>
      bif n1 != 0 then
      some [T.i .i64 ((IntKind.wrap .i64 ((IntKind.wrap .i64 ((IntKind.wrap .i64 ((asI (nth r11 0)) * 65536)) + (IntKind.wrap .i64 ((asI (nth r12 0)) * 256)))) + (asI (nth r13 0)))).tmod n1), T.st [T.sl l0_0, T.i .i64 (asI (T.cell (nth r13 1) 1)), T.i .i64 (asI (T.cell (nth r13 1) 2))]]
      else none
def f70 (c : Orc) (lf : Nat) (l0_0 : List T) (n0_1 : Int) (n0_2 : Int) (n1 : Int) : Option (List T) := f70_t c lf l0_0 n0_1 n0_2 n1
theorem f70_raw (c : Orc) (lf : Nat) (l0_0 : List T) (n0_1 : Int) (n0_2 : Int) (n1 : Int) : funK c env lf 6 fi70 [.st [.sl l0_0, .i .i64 n0_1, .i .i64 n0_2], .i .i64 n1] = f70_t c lf l0_0 n0_1 n0_2 n1 := by kernel_rfl
theorem f70_eq (c : Orc) (lf : Nat) (l0_0 : List T) (n0_1 : Int) (n0_2 : Int) (n1 : Int) : funK c env lf 6 fi70 [.st [.sl l0_0, .i .i64 n0_1, .i .i64 n0_2], .i .i64 n1] = f70 c lf l0_0 n0_1 n0_2 n1 := by
  refine (f70_raw c lf l0_0 n0_1 n0_2 n1).trans ?_
  rfl
/-- loop.example/g00285/spec.l1Once -/
def f118_t (c : Orc) (lf : Nat) (l0_0 : List T) (n0_1 : Int) (n0_2 : Int) (n1 : Int) : Option (List T) :=
  (c 70 [T.st [T.sl l0_0, T.i .i64 n0_1, T.i .i64 n0_2], T.i .i64 n1]).bind fun r14 =>
  some [T.b ((asI (nth r14 0)) == 0), T.st [T.sl l0_0, T.i .i64 (asI (T.cell (nth r14 1) 1)), T.i .i64 (asI (T.cell (nth r14 1) 2))]]
def f118 (c : Orc) (lf : Nat) (l0_0 : List T) (n0_1 : Int) (n0_2 : Int) (n1 : Int) : Option (List T) := f118_t c lf l0_0 n0_1 n0_2 n1
theorem f118_raw (c : Orc) (lf : Nat) (l0_0 : List T) (n0_1 : Int) (n0_2 : Int) (n1 : Int) : funK c env lf 6 fi118 [.st [.sl l0_0, .i .i64 n0_1, .i .i64 n0_2], .i .i64 n1] = f118_t c lf l0_0 n0_1 n0_2 n1 := by kernel_rfl
theorem f118_eq (c : Orc) (lf : Nat) (l0_0 : List T) (n0_1 : Int) (n0_2 : Int) (n1 : Int) : funK c env lf 6 fi118 [.st [.sl l0_0, .i .i64 n0_1, .i .i64 n0_2], .i .i64 n1] = f118 c lf l0_0 n0_1 n0_2 n1 := by
  refine (f118_raw c lf l0_0 n0_1 n0_2 n1).trans ?_
  rfl
/-- loop.example/g00285/spec.l1Int -/
def f71_t (c : Orc) (lf : Nat) (l0_0 : List T) (n0_1 : Int) (n0_2 : Int) (l1 : List T) : Option (List T) :=
  (c 70 [T.st [T.sl l0_0, T.i .i64 n0_1, T.i .i64 n0_2], T.i .i64 (l1.length : Int)]).bind fun r15 =>
  bif inR (asI (nth r15 0)) l1.length then
  some [T.i .i64 (asI (l1.getD ((asI (nth r15 0)).toNat) T.u)), T.st [T.sl l0_0, T.i .i64 (asI (T.cell (nth r15 1) 1)), T.i .i64 (asI (T.cell (nth r15 1) 2))]]
  else none
def f71 (c : Orc) (lf : Nat) (l0_0 : List T) (n0_1 : Int) (n0_2 : Int) (l1 : List T) : Option (List T) := f71_t c lf l0_0 n0_1 n0_2 l1
theorem f71_raw (c : Orc) (lf : Nat) (l0_0 : List T) (n0_1 : Int) (n0_2 : Int) (l1 : List T) : funK c env lf 6 fi71 [.st [.sl l0_0, .i .i64 n0_1, .i .i64 n0_2], .sl l1] = f71_t c lf l0_0 n0_1 n0_2 l1 := by kernel_rfl
theorem f71_eq (c : Orc) (lf : Nat) (l0_0 : List T) (n0_1 : Int) (n0_2 : Int) (l1 : List T) : funK c env lf 6 fi71 [.st [.sl l0_0, .i .i64 n0_1, .i .i64 n0_2], .sl l1] = f71 c lf l0_0 n0_1 n0_2 l1 := by
  refine (f71_raw c lf l0_0 n0_1 n0_2 l1).trans ?_
  rfl
/-- loop.example/g00285/spec.l14Draw, the loop at region 3. -/
def f69_0_s (c : Orc) (lf : Nat) (l0_0 : List T) (L : Int → Int → Int → List T → Option (List T)) (x27 : Int) (x28 : Int) (x29 : Int) (x30 : List T) : Option (List T) :=
  bif iLt x27 12 then
    (c 118 [T.st [T.sl l0_0, T.i .i64 x28, T.i .i64 x29], T.i .i64 2]).bind fun r31 =>
    bif asB (nth r31 0) then
      (c 71 [T.st [T.sl l0_0, T.i .i64 (asI (T.cell (nth r31 1) 1)), T.i .i64 (asI (T.cell (nth r31 1) 2))], T.sl ([T.i .i64 0, T.i .i64 5, T.i .i64 127, T.i .i64 128, T.i .i64 191] : List T)]).bind fun r32 =>
      bif nLe (x30.length + ([T.st [T.i .i64 x27, T.i .i64 (asI (nth r32 0))]] : List T).length) LIM then
      L (IntKind.wrap .i64 (x27 + 1)) (asI (T.cell (nth r32 1) 1)) (asI (T.cell (nth r32 1) 2)) (x30 ++ ([T.st [T.i .i64 x27, T.i .i64 (asI (nth r32 0))]] : List T))
      else none
    else
      L (IntKind.wrap .i64 (x27 + 1)) (asI (T.cell (nth r31 1) 1)) (asI (T.cell (nth r31 1) 2)) x30
  else
    some [T.i .i64 0, T.sl l0_0, T.i .i64 x28, T.i .i64 x29, T.i .i64 0, T.sl ([] : List T), T.i .i64 12, T.sl x30]
def f69_0_c (l0_0 : List T) (x27 : Int) (x28 : Int) (x29 : Int) (x30 : List T) : CSt := ⟨[.bp 0 0, .bp 4 0, .bp 6 0, .i .i64 x27], [.box [.ro 1 false [.i .u8] l0_0, .i .i64 x28, .i .i64 x29], .dead, .dead, .dead, .box [.i .i64 0, .rf 5 [] 0 none], .row true [.i .i64, .i .i64] ([] : List T) 0 false, .box [.i .i64 12, .rf 7 [] 0 none], .row true [.i .i64, .i .i64] x30 0 false]⟩
theorem f69_0_round (c : Orc) (lf : Nat) (l0_0 : List T) (L : CSt → Option (List T)) (x27 : Int) (x28 : Int) (x29 : Int) (x30 : List T) :
    roundK c env lf 6 fi69 4 3 [] [0, 2, 3, 4] (x69_3_0) L (f69_0_c l0_0 x27 x28 x29 x30) = f69_0_s c lf l0_0 (fun x27 x28 x29 x30 => L (f69_0_c l0_0 x27 x28 x29 x30)) x27 x28 x29 x30 := by kernel_rfl
def f69_0 (c : Orc) (lf : Nat) (l0_0 : List T) : Nat → Int → Int → Int → List T → Option (List T)
  | 0 => fun _ _ _ _ => none
  | n + 1 => fun x27 x28 x29 x30 => f69_0_s c lf l0_0 (f69_0 c lf l0_0 n) x27 x28 x29 x30
theorem f69_0_u (c : Orc) (lf : Nat) (l0_0 : List T) (n : Nat) (x27 : Int) (x28 : Int) (x29 : Int) (x30 : List T) : f69_0 c lf l0_0 (n + 1) x27 x28 x29 x30 = f69_0_s c lf l0_0 (f69_0 c lf l0_0 n) x27 x28 x29 x30 := rfl
theorem f69_0_eq (c : Orc) (lf : Nat) (l0_0 : List T) (n : Nat) (x27 : Int) (x28 : Int) (x29 : Int) (x30 : List T) :
    lpK c env lf 6 fi69 4 3 [] [0, 2, 3, 4] (x69_3_0) n (f69_0_c l0_0 x27 x28 x29 x30) = f69_0 c lf l0_0 n x27 x28 x29 x30 := by
  induction n generalizing x27 x28 x29 x30 with
  | zero => rfl
  | succ n ih =>
    refine (f69_0_round c lf l0_0 _ x27 x28 x29 x30).trans ?_
    have e : (fun x27 x28 x29 x30 => lpK c env lf 6 fi69 4 3 [] [0, 2, 3, 4] (x69_3_0) n (f69_0_c l0_0 x27 x28 x29 x30)) = f69_0 c lf l0_0 n := by funext x27 x28 x29 x30; exact ih x27 x28 x29 x30
    show f69_0_s c lf l0_0 (fun x27 x28 x29 x30 => lpK c env lf 6 fi69 4 3 [] [0, 2, 3, 4] (x69_3_0) n (f69_0_c l0_0 x27 x28 x29 x30)) x27 x28 x29 x30 = _
    rw [e]; rfl
/-- loop.example/g00285/spec.l14Draw -/
def f69_t (c : Orc) (lf : Nat) (lp0 : List T → Int → Int → Int → List T → Option (List T)) (l0_0 : List T) (n0_1 : Int) (n0_2 : Int) : Option (List T) :=
  (lp0 l0_0 1 n0_1 n0_2 ([] : List T)).bind fun r33 =>
  some [T.st [T.i .i64 (asI (nth r33 6)), T.sl (asL (nth r33 7))], T.st [T.sl (asL (nth r33 1)), T.i .i64 (asI (nth r33 2)), T.i .i64 (asI (nth r33 3))]]
def f69 (c : Orc) (lf : Nat) (l0_0 : List T) (n0_1 : Int) (n0_2 : Int) : Option (List T) := f69_t c lf (fun (l0_0 : List T) (x27 : Int) (x28 : Int) (x29 : Int) (x30 : List T) => f69_0 c lf l0_0 lf x27 x28 x29 x30) l0_0 n0_1 n0_2
theorem f69_raw (c : Orc) (lf : Nat) (l0_0 : List T) (n0_1 : Int) (n0_2 : Int) : funK c env lf 6 fi69 [.st [.sl l0_0, .i .i64 n0_1, .i .i64 n0_2]] = f69_t c lf (fun (l0_0 : List T) (x27 : Int) (x28 : Int) (x29 : Int) (x30 : List T) => lpK c env lf 6 fi69 4 3 [] [0, 2, 3, 4] (x69_3_0) lf (f69_0_c l0_0 x27 x28 x29 x30)) l0_0 n0_1 n0_2 := by kernel_rfl
theorem f69_eq (c : Orc) (lf : Nat) (l0_0 : List T) (n0_1 : Int) (n0_2 : Int) : funK c env lf 6 fi69 [.st [.sl l0_0, .i .i64 n0_1, .i .i64 n0_2]] = f69 c lf l0_0 n0_1 n0_2 := by
  refine (f69_raw c lf l0_0 n0_1 n0_2).trans ?_
  have e0 : (fun (l0_0 : List T) (x27 : Int) (x28 : Int) (x29 : Int) (x30 : List T) => lpK c env lf 6 fi69 4 3 [] [0, 2, 3, 4] (x69_3_0) lf (f69_0_c l0_0 x27 x28 x29 x30)) = (fun (l0_0 : List T) (x27 : Int) (x28 : Int) (x29 : Int) (x30 : List T) => f69_0 c lf l0_0 lf x27 x28 x29 x30) := by funext l0_0 x27 x28 x29 x30; exact f69_0_eq c lf l0_0 lf x27 x28 x29 x30
  rw [e0]; rfl
/-- loop.example/g00285/spec.l14Any -/
def f66_t (c : Orc) (lf : Nat) (l0_0 : List T) (n0_1 : Int) (n0_2 : Int) : Option (List T) :=
  (c 69 [T.st [T.sl l0_0, T.i .i64 n0_1, T.i .i64 n0_2]]).bind fun r34 =>
  (c 70 [T.st [T.sl l0_0, T.i .i64 (asI (T.cell (nth r34 1) 1)), T.i .i64 (asI (T.cell (nth r34 1) 2))], T.i .i64 8]).bind fun r35 =>
  bif (asI (nth r35 0)) == 0 then
    (c 71 [T.st [T.sl l0_0, T.i .i64 (asI (T.cell (nth r35 1) 1)), T.i .i64 (asI (T.cell (nth r35 1) 2))], T.sl ([T.i .i64 1, T.i .i64 2, T.i .i64 1000, T.i .i64 1001] : List T)]).bind fun r36 =>
    some [T.st [T.i .i64 (asI (nth r36 0)), T.sl (asL (T.cell (nth r34 0) 1))], T.st [T.sl l0_0, T.i .i64 (asI (T.cell (nth r36 1) 1)), T.i .i64 (asI (T.cell (nth r36 1) 2))]]
  else
    bif (asI (nth r35 0)) == 1 then
      (c 71 [T.st [T.sl l0_0, T.i .i64 (asI (T.cell (nth r35 1) 1)), T.i .i64 (asI (T.cell (nth r35 1) 2))], T.sl ([T.i .i64 0, T.i .i64 1, T.i .i64 11, T.i .i64 12] : List T)]).bind fun r37 =>
      (c 71 [T.st [T.sl l0_0, T.i .i64 (asI (T.cell (nth r37 1) 1)), T.i .i64 (asI (T.cell (nth r37 1) 2))], T.sl ([T.i .i64 (-1), T.i .i64 0, T.i .i64 192] : List T)]).bind fun r38 =>
      bif nLe ((asL (T.cell (nth r34 0) 1)).length + ([T.st [T.i .i64 (asI (nth r37 0)), T.i .i64 (asI (nth r38 0))]] : List T).length) LIM then
      some [T.st [T.i .i64 (asI (T.cell (nth r34 0) 0)), T.sl ((asL (T.cell (nth r34 0) 1)) ++ ([T.st [T.i .i64 (asI (nth r37 0)), T.i .i64 (asI (nth r38 0))]] : List T))], T.st [T.sl l0_0, T.i .i64 (asI (T.cell (nth r38 1) 1)), T.i .i64 (asI (T.cell (nth r38 1) 2))]]
      else none
    else
      some [T.st [T.i .i64 (asI (T.cell (nth r34 0) 0)), T.sl (asL (T.cell (nth r34 0) 1))], T.st [T.sl l0_0, T.i .i64 (asI (T.cell (nth r35 1) 1)), T.i .i64 (asI (T.cell (nth r35 1) 2))]]
def f66 (c : Orc) (lf : Nat) (l0_0 : List T) (n0_1 : Int) (n0_2 : Int) : Option (List T) := f66_t c lf l0_0 n0_1 n0_2
theorem f66_raw (c : Orc) (lf : Nat) (l0_0 : List T) (n0_1 : Int) (n0_2 : Int) : funK c env lf 6 fi66 [.st [.sl l0_0, .i .i64 n0_1, .i .i64 n0_2]] = f66_t c lf l0_0 n0_1 n0_2 := by kernel_rfl
theorem f66_eq (c : Orc) (lf : Nat) (l0_0 : List T) (n0_1 : Int) (n0_2 : Int) : funK c env lf 6 fi66 [.st [.sl l0_0, .i .i64 n0_1, .i .i64 n0_2]] = f66 c lf l0_0 n0_1 n0_2 := by
  refine (f66_raw c lf l0_0 n0_1 n0_2).trans ?_
  rfl
/-- loop.example/g00285/spec.DrawPutMap -/
def f14_t (c : Orc) (lf : Nat) (l0 : List T) : Option (List T) :=
  (c 65 [T.sl l0]).bind fun r39 =>
  (c 66 [T.st [T.sl (asL (T.cell (nth r39 0) 0)), T.i .i64 (asI (T.cell (nth r39 0) 1)), T.i .i64 (asI (T.cell (nth r39 0) 2))]]).bind fun r40 =>
  some [T.st [T.i .i64 (asI (T.cell (nth r40 0) 0)), T.sl (asL (T.cell (nth r40 0) 1))]]
def f14 (c : Orc) (lf : Nat) (l0 : List T) : Option (List T) := f14_t c lf l0
theorem f14_raw (c : Orc) (lf : Nat) (l0 : List T) : funK c env lf 6 fi14 [.sl l0] = f14_t c lf l0 := by kernel_rfl
theorem f14_eq (c : Orc) (lf : Nat) (l0 : List T) : funK c env lf 6 fi14 [.sl l0] = f14 c lf l0 := by
  refine (f14_raw c lf l0).trans ?_
  rfl
/-- loop.example/g00285/impl.from -/
def f76_t (c : Orc) (lf : Nat) (n0 : Int) (n1 : Int) (n2 : Int) : Option (List T) :=
  bif iLe n1 n0 then
    some [T.b (iLe n0 n2)]
  else
    some [T.b false]
def f76 (c : Orc) (lf : Nat) (n0 : Int) (n1 : Int) (n2 : Int) : Option (List T) := f76_t c lf n0 n1 n2
theorem f76_raw (c : Orc) (lf : Nat) (n0 : Int) (n1 : Int) (n2 : Int) : funK c env lf 6 fi76 [.i .i64 n0, .i .i64 n1, .i .i64 n2] = f76_t c lf n0 n1 n2 := by kernel_rfl
theorem f76_eq (c : Orc) (lf : Nat) (n0 : Int) (n1 : Int) (n2 : Int) : funK c env lf 6 fi76 [.i .i64 n0, .i .i64 n1, .i .i64 n2] = f76 c lf n0 n1 n2 := by
  refine (f76_raw c lf n0 n1 n2).trans ?_
  rfl
/-- loop.example/g00285/impl.MapOk, the loop at region 2. -/
def f19_0_s (c : Orc) (lf : Nat) (l0_1 : List T) (n0_0 : Int) (L : Int → Option (List T)) (x47 : Int) : Option (List T) :=
  bif iLt x47 (l0_1.length : Int) then
    bif inR x47 l0_1.length then
    bif iLt (asI (T.cell (l0_1.getD x47.toNat T.u) 0)) 1 then
      some [T.i .i64 0, T.b false]
    else
      bif iLe n0_0 (asI (T.cell (l0_1.getD x47.toNat T.u) 0)) then
        some [T.i .i64 0, T.b false]
      else
        (c 76 [T.i .i64 (asI (T.cell (l0_1.getD x47.toNat T.u) 1)), T.i .i64 0, T.i .i64 191]).bind fun r48 =>
        bif !(asB (nth r48 0)) then
          some [T.i .i64 0, T.b false]
        else
          bif iLt 0 x47 then
            bif inR (IntKind.wrap .i64 (x47 - 1)) l0_1.length then
            bif iLe (asI (T.cell (l0_1.getD x47.toNat T.u) 0)) (asI (T.cell (l0_1.getD ((IntKind.wrap .i64 (x47 - 1)).toNat) T.u) 0)) then
              some [T.i .i64 0, T.b false]
            else
              L (IntKind.wrap .i64 (x47 + 1))
            else none
          else
            L (IntKind.wrap .i64 (x47 + 1))
    else none
  else
    some [T.i .i64 1, T.i .i64 n0_0, T.sl l0_1]
def f19_0_c (l0_1 : List T) (n0_0 : Int) (x47 : Int) : CSt := ⟨[.bp 2 0, .ro 0 true [.i .i64, .i .i64] l0_1, .i .i64 (l0_1.length : Int), .i .i64 x47], [.dead, .dead, .box [.i .i64 n0_0, .ro 0 true [.i .i64, .i .i64] l0_1]]⟩
theorem f19_0_round (c : Orc) (lf : Nat) (l0_1 : List T) (n0_0 : Int) (L : CSt → Option (List T)) (x47 : Int) :
    roundK c env lf 6 fi19 2 2 [] [1, 6, 7, 8] (x19_2_0) L (f19_0_c l0_1 n0_0 x47) = f19_0_s c lf l0_1 n0_0 (fun x47 => L (f19_0_c l0_1 n0_0 x47)) x47 := by kernel_rfl
def f19_0 (c : Orc) (lf : Nat) (l0_1 : List T) (n0_0 : Int) : Nat → Int → Option (List T)
  | 0 => fun _ => none
  | n + 1 => fun x47 => f19_0_s c lf l0_1 n0_0 (f19_0 c lf l0_1 n0_0 n) x47
theorem f19_0_u (c : Orc) (lf : Nat) (l0_1 : List T) (n0_0 : Int) (n : Nat) (x47 : Int) : f19_0 c lf l0_1 n0_0 (n + 1) x47 = f19_0_s c lf l0_1 n0_0 (f19_0 c lf l0_1 n0_0 n) x47 := rfl
theorem f19_0_eq (c : Orc) (lf : Nat) (l0_1 : List T) (n0_0 : Int) (n : Nat) (x47 : Int) :
    lpK c env lf 6 fi19 2 2 [] [1, 6, 7, 8] (x19_2_0) n (f19_0_c l0_1 n0_0 x47) = f19_0 c lf l0_1 n0_0 n x47 := by
  induction n generalizing x47 with
  | zero => rfl
  | succ n ih =>
    refine (f19_0_round c lf l0_1 n0_0 _ x47).trans ?_
    have e : (fun x47 => lpK c env lf 6 fi19 2 2 [] [1, 6, 7, 8] (x19_2_0) n (f19_0_c l0_1 n0_0 x47)) = f19_0 c lf l0_1 n0_0 n := by funext x47; exact ih x47
    show f19_0_s c lf l0_1 n0_0 (fun x47 => lpK c env lf 6 fi19 2 2 [] [1, 6, 7, 8] (x19_2_0) n (f19_0_c l0_1 n0_0 x47)) x47 = _
    rw [e]; rfl
/-- loop.example/g00285/impl.MapOk -/
def f19_t (c : Orc) (lf : Nat) (lp0 : List T → Int → Int → Option (List T)) (n0_0 : Int) (l0_1 : List T) : Option (List T) :=
  (lp0 l0_1 n0_0 0).bind fun r49 =>
  bif asI (nth r49 0) == 0 then
    some [T.b (asB (nth r49 1))]
  else
    (c 76 [T.i .i64 (asI (nth r49 1)), T.i .i64 2, T.i .i64 1000]).bind fun r50 =>
    bif asB (nth r50 0) then
      some [T.b (iLe ((asL (nth r49 2)).length : Int) 30)]
    else
      some [T.b false]
def f19 (c : Orc) (lf : Nat) (n0_0 : Int) (l0_1 : List T) : Option (List T) := f19_t c lf (fun (l0_1 : List T) (n0_0 : Int) (x47 : Int) => f19_0 c lf l0_1 n0_0 lf x47) n0_0 l0_1
theorem f19_raw (c : Orc) (lf : Nat) (n0_0 : Int) (l0_1 : List T) : funK c env lf 6 fi19 [.st [.i .i64 n0_0, .sl l0_1]] = f19_t c lf (fun (l0_1 : List T) (n0_0 : Int) (x47 : Int) => lpK c env lf 6 fi19 2 2 [] [1, 6, 7, 8] (x19_2_0) lf (f19_0_c l0_1 n0_0 x47)) n0_0 l0_1 := by kernel_rfl
theorem f19_eq (c : Orc) (lf : Nat) (n0_0 : Int) (l0_1 : List T) : funK c env lf 6 fi19 [.st [.i .i64 n0_0, .sl l0_1]] = f19 c lf n0_0 l0_1 := by
  refine (f19_raw c lf n0_0 l0_1).trans ?_
  have e0 : (fun (l0_1 : List T) (n0_0 : Int) (x47 : Int) => lpK c env lf 6 fi19 2 2 [] [1, 6, 7, 8] (x19_2_0) lf (f19_0_c l0_1 n0_0 x47)) = (fun (l0_1 : List T) (n0_0 : Int) (x47 : Int) => f19_0 c lf l0_1 n0_0 lf x47) := by funext l0_1 n0_0 x47; exact f19_0_eq c lf l0_1 n0_0 lf x47
  rw [e0]; rfl
/-- loop.example/g00285/impl.PutNum, the loop at region 3. -/
def f67_0_s (c : Orc) (lf : Nat) (L : Int → List T → Option (List T)) (x56 : Int) (x57 : List T) : Option (List T) :=
  bif iLe 128 x56 then
    bif nLe (x57.length + ([T.i .u8 (IntKind.wrap .u8 (IntKind.wrap .i64 ((x56.tmod 128) + 128)))] : List T).length) LIM then
    L (IntKind.wrap .i64 (x56.tdiv 128)) (x57 ++ ([T.i .u8 (IntKind.wrap .u8 (IntKind.wrap .i64 ((x56.tmod 128) + 128)))] : List T))
    else none
  else
    some [T.i .i64 0, T.i .i64 x56, T.sl x57]
def f67_0_c (x56 : Int) (x57 : List T) : CSt := ⟨[.i .i64 x56, .rf 2 [] 0 none], [.dead, .dead, .row false [.i .u8] x57 0 false]⟩
theorem f67_0_round (c : Orc) (lf : Nat) (L : CSt → Option (List T)) (x56 : Int) (x57 : List T) :
    roundK c env lf 6 fi67 2 3 [] [1, 5] (x67_3_0) L (f67_0_c x56 x57) = f67_0_s c lf (fun x56 x57 => L (f67_0_c x56 x57)) x56 x57 := by kernel_rfl
def f67_0 (c : Orc) (lf : Nat) : Nat → Int → List T → Option (List T)
  | 0 => fun _ _ => none
  | n + 1 => fun x56 x57 => f67_0_s c lf (f67_0 c lf n) x56 x57
theorem f67_0_u (c : Orc) (lf : Nat) (n : Nat) (x56 : Int) (x57 : List T) : f67_0 c lf (n + 1) x56 x57 = f67_0_s c lf (f67_0 c lf n) x56 x57 := rfl
theorem f67_0_eq (c : Orc) (lf : Nat) (n : Nat) (x56 : Int) (x57 : List T) :
    lpK c env lf 6 fi67 2 3 [] [1, 5] (x67_3_0) n (f67_0_c x56 x57) = f67_0 c lf n x56 x57 := by
  induction n generalizing x56 x57 with
  | zero => rfl
  | succ n ih =>
    refine (f67_0_round c lf _ x56 x57).trans ?_
    have e : (fun x56 x57 => lpK c env lf 6 fi67 2 3 [] [1, 5] (x67_3_0) n (f67_0_c x56 x57)) = f67_0 c lf n := by funext x56 x57; exact ih x56 x57
    show f67_0_s c lf (fun x56 x57 => lpK c env lf 6 fi67 2 3 [] [1, 5] (x67_3_0) n (f67_0_c x56 x57)) x56 x57 = _
    rw [e]; rfl
/-- loop.example/g00285/impl.PutNum -/
def f67_t (c : Orc) (lf : Nat) (lp0 : Int → List T → Option (List T)) (l0 : List T) (n1 : Int) : Option (List T) :=
  (c 123 [T.sl l0]).bind fun r55 =>
  (lp0 (imax 0 (imin n1 1000000)) (asL (nth r55 0))).bind fun r58 =>
  bif nLe ((asL (nth r58 2)).length + ([T.i .u8 (IntKind.wrap .u8 (asI (nth r58 1)))] : List T).length) LIM then
  some [T.sl ((asL (nth r58 2)) ++ ([T.i .u8 (IntKind.wrap .u8 (asI (nth r58 1)))] : List T))]
  else none
def f67 (c : Orc) (lf : Nat) (l0 : List T) (n1 : Int) : Option (List T) := f67_t c lf (fun (x56 : Int) (x57 : List T) => f67_0 c lf lf x56 x57) l0 n1
theorem f67_raw (c : Orc) (lf : Nat) (l0 : List T) (n1 : Int) : funK c env lf 6 fi67 [.sl l0, .i .i64 n1] = f67_t c lf (fun (x56 : Int) (x57 : List T) => lpK c env lf 6 fi67 2 3 [] [1, 5] (x67_3_0) lf (f67_0_c x56 x57)) l0 n1 := by kernel_rfl
theorem f67_eq (c : Orc) (lf : Nat) (l0 : List T) (n1 : Int) : funK c env lf 6 fi67 [.sl l0, .i .i64 n1] = f67 c lf l0 n1 := by
  refine (f67_raw c lf l0 n1).trans ?_
  have e0 : (fun (x56 : Int) (x57 : List T) => lpK c env lf 6 fi67 2 3 [] [1, 5] (x67_3_0) lf (f67_0_c x56 x57)) = (fun (x56 : Int) (x57 : List T) => f67_0 c lf lf x56 x57) := by funext x56 x57; exact f67_0_eq c lf lf x56 x57
  rw [e0]; rfl
/-- loop.example/g00285/impl.PutMap, the loop at region 5. -/
def f15_0_s (c : Orc) (lf : Nat) (l0_1 : List T) (L : Int → List T → Option (List T)) (x74 : Int) (x75 : List T) : Option (List T) :=
  bif iLt x74 (l0_1.length : Int) then
    bif inR x74 l0_1.length then
    (c 67 [T.sl x75, T.i .i64 (asI (T.cell (l0_1.getD x74.toNat T.u) 0))]).bind fun r76 =>
    (c 67 [T.sl (asL (nth r76 0)), T.i .i64 (asI (T.cell (l0_1.getD x74.toNat T.u) 1))]).bind fun r77 =>
    L (IntKind.wrap .i64 (x74 + 1)) (asL (nth r77 0))
    else none
  else
    some [T.i .i64 0, T.sl x75]
def f15_0_c (l0_1 : List T) (x74 : Int) (x75 : List T) : CSt := ⟨[.rf 2 [] 0 none, .ro 0 true [.i .i64, .i .i64] l0_1, .i .i64 (l0_1.length : Int), .i .i64 x74], [.dead, .dead, .row false [.i .u8] x75 0 false]⟩
theorem f15_0_round (c : Orc) (lf : Nat) (l0_1 : List T) (L : CSt → Option (List T)) (x74 : Int) (x75 : List T) :
    roundK c env lf 6 fi15 2 5 [] [3, 17, 18, 19] (x15_5_0) L (f15_0_c l0_1 x74 x75) = f15_0_s c lf l0_1 (fun x74 x75 => L (f15_0_c l0_1 x74 x75)) x74 x75 := by kernel_rfl
def f15_0 (c : Orc) (lf : Nat) (l0_1 : List T) : Nat → Int → List T → Option (List T)
  | 0 => fun _ _ => none
  | n + 1 => fun x74 x75 => f15_0_s c lf l0_1 (f15_0 c lf l0_1 n) x74 x75
theorem f15_0_u (c : Orc) (lf : Nat) (l0_1 : List T) (n : Nat) (x74 : Int) (x75 : List T) : f15_0 c lf l0_1 (n + 1) x74 x75 = f15_0_s c lf l0_1 (f15_0 c lf l0_1 n) x74 x75 := rfl
theorem f15_0_eq (c : Orc) (lf : Nat) (l0_1 : List T) (n : Nat) (x74 : Int) (x75 : List T) :
    lpK c env lf 6 fi15 2 5 [] [3, 17, 18, 19] (x15_5_0) n (f15_0_c l0_1 x74 x75) = f15_0 c lf l0_1 n x74 x75 := by
  induction n generalizing x74 x75 with
  | zero => rfl
  | succ n ih =>
    refine (f15_0_round c lf l0_1 _ x74 x75).trans ?_
    have e : (fun x74 x75 => lpK c env lf 6 fi15 2 5 [] [3, 17, 18, 19] (x15_5_0) n (f15_0_c l0_1 x74 x75)) = f15_0 c lf l0_1 n := by funext x74 x75; exact ih x74 x75
    show f15_0_s c lf l0_1 (fun x74 x75 => lpK c env lf 6 fi15 2 5 [] [3, 17, 18, 19] (x15_5_0) n (f15_0_c l0_1 x74 x75)) x74 x75 = _
    rw [e]; rfl
/-- loop.example/g00285/impl.PutMap -/
def f15_t (c : Orc) (lf : Nat) (lp0 : List T → Int → List T → Option (List T)) (n0_0 : Int) (l0_1 : List T) : Option (List T) :=
  (c 19 [T.st [T.i .i64 n0_0, T.sl l0_1]]).bind fun r69 =>
  bif !(asB (nth r69 0)) then
    some [T.sl []]
  else
    (c 67 [T.sl ([] : List T), T.i .i64 n0_0]).bind fun r70 =>
    (c 67 [T.sl (asL (nth r70 0)), T.i .i64 (l0_1.length : Int)]).bind fun r71 =>
    (lp0 l0_1 0 (asL (nth r71 0))).bind fun r78 =>
    some [T.sl (asL (nth r78 1))]
def f15 (c : Orc) (lf : Nat) (n0_0 : Int) (l0_1 : List T) : Option (List T) := f15_t c lf (fun (l0_1 : List T) (x74 : Int) (x75 : List T) => f15_0 c lf l0_1 lf x74 x75) n0_0 l0_1
theorem f15_raw (c : Orc) (lf : Nat) (n0_0 : Int) (l0_1 : List T) : funK c env lf 6 fi15 [.st [.i .i64 n0_0, .sl l0_1]] = f15_t c lf (fun (l0_1 : List T) (x74 : Int) (x75 : List T) => lpK c env lf 6 fi15 2 5 [] [3, 17, 18, 19] (x15_5_0) lf (f15_0_c l0_1 x74 x75)) n0_0 l0_1 := by kernel_rfl
theorem f15_eq (c : Orc) (lf : Nat) (n0_0 : Int) (l0_1 : List T) : funK c env lf 6 fi15 [.st [.i .i64 n0_0, .sl l0_1]] = f15 c lf n0_0 l0_1 := by
  refine (f15_raw c lf n0_0 l0_1).trans ?_
  have e0 : (fun (l0_1 : List T) (x74 : Int) (x75 : List T) => lpK c env lf 6 fi15 2 5 [] [3, 17, 18, 19] (x15_5_0) lf (f15_0_c l0_1 x74 x75)) = (fun (l0_1 : List T) (x74 : Int) (x75 : List T) => f15_0 c lf l0_1 lf x74 x75) := by funext l0_1 x74 x75; exact f15_0_eq c lf l0_1 lf x74 x75
  rw [e0]; rfl
/-- loop.example/g00285/spec.l1In -/
def f77_t (c : Orc) (lf : Nat) (n0 : Int) (n1 : Int) (n2 : Int) : Option (List T) :=
  bif iLe n1 n0 then
    some [T.b (iLe n0 n2)]
  else
    some [T.b false]
def f77 (c : Orc) (lf : Nat) (n0 : Int) (n1 : Int) (n2 : Int) : Option (List T) := f77_t c lf n0 n1 n2
theorem f77_raw (c : Orc) (lf : Nat) (n0 : Int) (n1 : Int) (n2 : Int) : funK c env lf 6 fi77 [.i .i64 n0, .i .i64 n1, .i .i64 n2] = f77_t c lf n0 n1 n2 := by kernel_rfl
theorem f77_eq (c : Orc) (lf : Nat) (n0 : Int) (n1 : Int) (n2 : Int) : funK c env lf 6 fi77 [.i .i64 n0, .i .i64 n1, .i .i64 n2] = f77 c lf n0 n1 n2 := by
  refine (f77_raw c lf n0 n1 n2).trans ?_
  rfl
/-- loop.example/g00285/spec.MapOk, the loop at region 2. -/
def f21_0_s (c : Orc) (lf : Nat) (l0_1 : List T) (n0_0 : Int) (L : Int → Option (List T)) (x85 : Int) : Option (List T) :=
  bif iLt x85 (l0_1.length : Int) then
    bif inR x85 l0_1.length then
    bif iLt (asI (T.cell (l0_1.getD x85.toNat T.u) 0)) 1 then
      some [T.i .i64 0, T.b false]
    else
      bif iLe n0_0 (asI (T.cell (l0_1.getD x85.toNat T.u) 0)) then
        some [T.i .i64 0, T.b false]
      else
        (c 77 [T.i .i64 (asI (T.cell (l0_1.getD x85.toNat T.u) 1)), T.i .i64 0, T.i .i64 191]).bind fun r86 =>
        bif !(asB (nth r86 0)) then
          some [T.i .i64 0, T.b false]
        else
          bif iLt 0 x85 then
            bif inR (IntKind.wrap .i64 (x85 - 1)) l0_1.length then
            bif iLe (asI (T.cell (l0_1.getD x85.toNat T.u) 0)) (asI (T.cell (l0_1.getD ((IntKind.wrap .i64 (x85 - 1)).toNat) T.u) 0)) then
              some [T.i .i64 0, T.b false]
            else
              L (IntKind.wrap .i64 (x85 + 1))
            else none
          else
            L (IntKind.wrap .i64 (x85 + 1))
    else none
  else
    some [T.i .i64 1, T.i .i64 n0_0, T.sl l0_1]
def f21_0_c (l0_1 : List T) (n0_0 : Int) (x85 : Int) : CSt := ⟨[.bp 2 0, .i .i64 x85], [.dead, .dead, .box [.i .i64 n0_0, .ro 0 true [.i .i64, .i .i64] l0_1]]⟩
theorem f21_0_round (c : Orc) (lf : Nat) (l0_1 : List T) (n0_0 : Int) (L : CSt → Option (List T)) (x85 : Int) :
    roundK c env lf 6 fi21 2 2 [] [1, 3] (x21_2_0) L (f21_0_c l0_1 n0_0 x85) = f21_0_s c lf l0_1 n0_0 (fun x85 => L (f21_0_c l0_1 n0_0 x85)) x85 := by kernel_rfl
def f21_0 (c : Orc) (lf : Nat) (l0_1 : List T) (n0_0 : Int) : Nat → Int → Option (List T)
  | 0 => fun _ => none
  | n + 1 => fun x85 => f21_0_s c lf l0_1 n0_0 (f21_0 c lf l0_1 n0_0 n) x85
theorem f21_0_u (c : Orc) (lf : Nat) (l0_1 : List T) (n0_0 : Int) (n : Nat) (x85 : Int) : f21_0 c lf l0_1 n0_0 (n + 1) x85 = f21_0_s c lf l0_1 n0_0 (f21_0 c lf l0_1 n0_0 n) x85 := rfl
theorem f21_0_eq (c : Orc) (lf : Nat) (l0_1 : List T) (n0_0 : Int) (n : Nat) (x85 : Int) :
    lpK c env lf 6 fi21 2 2 [] [1, 3] (x21_2_0) n (f21_0_c l0_1 n0_0 x85) = f21_0 c lf l0_1 n0_0 n x85 := by
  induction n generalizing x85 with
  | zero => rfl
  | succ n ih =>
    refine (f21_0_round c lf l0_1 n0_0 _ x85).trans ?_
    have e : (fun x85 => lpK c env lf 6 fi21 2 2 [] [1, 3] (x21_2_0) n (f21_0_c l0_1 n0_0 x85)) = f21_0 c lf l0_1 n0_0 n := by funext x85; exact ih x85
    show f21_0_s c lf l0_1 n0_0 (fun x85 => lpK c env lf 6 fi21 2 2 [] [1, 3] (x21_2_0) n (f21_0_c l0_1 n0_0 x85)) x85 = _
    rw [e]; rfl
/-- loop.example/g00285/spec.MapOk -/
def f21_t (c : Orc) (lf : Nat) (lp0 : List T → Int → Int → Option (List T)) (n0_0 : Int) (l0_1 : List T) : Option (List T) :=
  (lp0 l0_1 n0_0 0).bind fun r87 =>
  bif asI (nth r87 0) == 0 then
    some [T.b (asB (nth r87 1))]
  else
    bif iLe ((asL (nth r87 2)).length : Int) 30 then
      (c 77 [T.i .i64 (asI (nth r87 1)), T.i .i64 2, T.i .i64 1000]).bind fun r88 =>
      some [T.b (asB (nth r88 0))]
    else
      some [T.b false]
def f21 (c : Orc) (lf : Nat) (n0_0 : Int) (l0_1 : List T) : Option (List T) := f21_t c lf (fun (l0_1 : List T) (n0_0 : Int) (x85 : Int) => f21_0 c lf l0_1 n0_0 lf x85) n0_0 l0_1
theorem f21_raw (c : Orc) (lf : Nat) (n0_0 : Int) (l0_1 : List T) : funK c env lf 6 fi21 [.st [.i .i64 n0_0, .sl l0_1]] = f21_t c lf (fun (l0_1 : List T) (n0_0 : Int) (x85 : Int) => lpK c env lf 6 fi21 2 2 [] [1, 3] (x21_2_0) lf (f21_0_c l0_1 n0_0 x85)) n0_0 l0_1 := by kernel_rfl
theorem f21_eq (c : Orc) (lf : Nat) (n0_0 : Int) (l0_1 : List T) : funK c env lf 6 fi21 [.st [.i .i64 n0_0, .sl l0_1]] = f21 c lf n0_0 l0_1 := by
  refine (f21_raw c lf n0_0 l0_1).trans ?_
  have e0 : (fun (l0_1 : List T) (n0_0 : Int) (x85 : Int) => lpK c env lf 6 fi21 2 2 [] [1, 3] (x21_2_0) lf (f21_0_c l0_1 n0_0 x85)) = (fun (l0_1 : List T) (n0_0 : Int) (x85 : Int) => f21_0 c lf l0_1 n0_0 lf x85) := by funext l0_1 n0_0 x85; exact f21_0_eq c lf l0_1 n0_0 lf x85
  rw [e0]; rfl
/-- loop.example/g00285/spec.PutNum, the loop at region 6. -/
def f79_0_s (c : Orc) (lf : Nat) (L : Int → List T → Option (List T)) (x96 : Int) (x97 : List T) : Option (List T) :=
  bif iLt 127 x96 then
    bif nLe (x97.length + ([T.i .u8 (IntKind.wrap .u8 (intBits .or .i64 (intBits .and .i64 x96 127) 128))] : List T).length) LIM then
    L (shiftI .shr .i64 x96 7) (x97 ++ ([T.i .u8 (IntKind.wrap .u8 (intBits .or .i64 (intBits .and .i64 x96 127) 128))] : List T))
    else none
  else
    some [T.i .i64 0, T.i .i64 x96, T.sl x97]
def f79_0_c (x96 : Int) (x97 : List T) : CSt := ⟨[.i .i64 x96, .rf 2 [] 0 none], [.dead, .dead, .row false [.i .u8] x97 0 false]⟩
theorem f79_0_round (c : Orc) (lf : Nat) (L : CSt → Option (List T)) (x96 : Int) (x97 : List T) :
    roundK c env lf 6 fi79 2 6 [] [1, 5] (x79_6_0) L (f79_0_c x96 x97) = f79_0_s c lf (fun x96 x97 => L (f79_0_c x96 x97)) x96 x97 := by kernel_rfl
def f79_0 (c : Orc) (lf : Nat) : Nat → Int → List T → Option (List T)
  | 0 => fun _ _ => none
  | n + 1 => fun x96 x97 => f79_0_s c lf (f79_0 c lf n) x96 x97
theorem f79_0_u (c : Orc) (lf : Nat) (n : Nat) (x96 : Int) (x97 : List T) : f79_0 c lf (n + 1) x96 x97 = f79_0_s c lf (f79_0 c lf n) x96 x97 := rfl
theorem f79_0_eq (c : Orc) (lf : Nat) (n : Nat) (x96 : Int) (x97 : List T) :
    lpK c env lf 6 fi79 2 6 [] [1, 5] (x79_6_0) n (f79_0_c x96 x97) = f79_0 c lf n x96 x97 := by
  induction n generalizing x96 x97 with
  | zero => rfl
  | succ n ih =>
    refine (f79_0_round c lf _ x96 x97).trans ?_
    have e : (fun x96 x97 => lpK c env lf 6 fi79 2 6 [] [1, 5] (x79_6_0) n (f79_0_c x96 x97)) = f79_0 c lf n := by funext x96 x97; exact ih x96 x97
    show f79_0_s c lf (fun x96 x97 => lpK c env lf 6 fi79 2 6 [] [1, 5] (x79_6_0) n (f79_0_c x96 x97)) x96 x97 = _
    rw [e]; rfl
/-- loop.example/g00285/spec.PutNum, the loop at region 6. -/
def f79_1_s (c : Orc) (lf : Nat) (l0 : List T) (L : Unit → Option (List T)) : Option (List T) :=
  some [T.i .i64 0, T.i .i64 0, T.sl (([] : List T) ++ l0)]
def f79_1_c (l0 : List T) : CSt := ⟨[.i .i64 0, .rf 2 [] 0 none], [.dead, .dead, .row false [.i .u8] (([] : List T) ++ l0) 0 false]⟩
theorem f79_1_round (c : Orc) (lf : Nat) (l0 : List T) (L : CSt → Option (List T)) :
    roundK c env lf 6 fi79 2 6 [] [1, 5] (x79_6_0) L (f79_1_c l0) = f79_1_s c lf l0 (fun _ => L (f79_1_c l0)) := by kernel_rfl
def f79_1 (c : Orc) (lf : Nat) (l0 : List T) : Nat → Unit → Option (List T)
  | 0 => fun _ => none
  | n + 1 => fun _ => f79_1_s c lf l0 (f79_1 c lf l0 n)
theorem f79_1_u (c : Orc) (lf : Nat) (l0 : List T) (n : Nat) : f79_1 c lf l0 (n + 1) () = f79_1_s c lf l0 (f79_1 c lf l0 n) := rfl
theorem f79_1_eq (c : Orc) (lf : Nat) (l0 : List T) (n : Nat) :
    lpK c env lf 6 fi79 2 6 [] [1, 5] (x79_6_0) n (f79_1_c l0) = f79_1 c lf l0 n () := by
  induction n with
  | zero => rfl
  | succ n ih =>
    refine (f79_1_round c lf l0 _).trans ?_
    have e : (fun (_ : Unit) => lpK c env lf 6 fi79 2 6 [] [1, 5] (x79_6_0) n (f79_1_c l0)) = f79_1 c lf l0 n := by funext _; exact ih
    show f79_1_s c lf l0 (fun _ => lpK c env lf 6 fi79 2 6 [] [1, 5] (x79_6_0) n (f79_1_c l0)) = _
    rw [e]; rfl
/-- loop.example/g00285/spec.PutNum, the loop at region 6. -/
def f79_2_s (c : Orc) (lf : Nat) (L : Int → List T → Option (List T)) (x100 : Int) (x101 : List T) : Option (List T) :=
  bif iLt 127 x100 then
    bif nLe (x101.length + ([T.i .u8 (IntKind.wrap .u8 (intBits .or .i64 (intBits .and .i64 x100 127) 128))] : List T).length) LIM then
    L (shiftI .shr .i64 x100 7) (x101 ++ ([T.i .u8 (IntKind.wrap .u8 (intBits .or .i64 (intBits .and .i64 x100 127) 128))] : List T))
    else none
  else
    some [T.i .i64 0, T.i .i64 x100, T.sl x101]
def f79_2_c (x100 : Int) (x101 : List T) : CSt := ⟨[.i .i64 x100, .rf 2 [] 0 none], [.dead, .dead, .row false [.i .u8] x101 0 false]⟩
theorem f79_2_round (c : Orc) (lf : Nat) (L : CSt → Option (List T)) (x100 : Int) (x101 : List T) :
    roundK c env lf 6 fi79 2 6 [] [1, 5] (x79_6_0) L (f79_2_c x100 x101) = f79_2_s c lf (fun x100 x101 => L (f79_2_c x100 x101)) x100 x101 := by kernel_rfl
def f79_2 (c : Orc) (lf : Nat) : Nat → Int → List T → Option (List T)
  | 0 => fun _ _ => none
  | n + 1 => fun x100 x101 => f79_2_s c lf (f79_2 c lf n) x100 x101
theorem f79_2_u (c : Orc) (lf : Nat) (n : Nat) (x100 : Int) (x101 : List T) : f79_2 c lf (n + 1) x100 x101 = f79_2_s c lf (f79_2 c lf n) x100 x101 := rfl
theorem f79_2_eq (c : Orc) (lf : Nat) (n : Nat) (x100 : Int) (x101 : List T) :
    lpK c env lf 6 fi79 2 6 [] [1, 5] (x79_6_0) n (f79_2_c x100 x101) = f79_2 c lf n x100 x101 := by
  induction n generalizing x100 x101 with
  | zero => rfl
  | succ n ih =>
    refine (f79_2_round c lf _ x100 x101).trans ?_
    have e : (fun x100 x101 => lpK c env lf 6 fi79 2 6 [] [1, 5] (x79_6_0) n (f79_2_c x100 x101)) = f79_2 c lf n := by funext x100 x101; exact ih x100 x101
    show f79_2_s c lf (fun x100 x101 => lpK c env lf 6 fi79 2 6 [] [1, 5] (x79_6_0) n (f79_2_c x100 x101)) x100 x101 = _
    rw [e]; rfl
/-- loop.example/g00285/spec.PutNum -/
def f79_t (c : Orc) (lf : Nat) (lp0 : Int → List T → Option (List T)) (lp1 : List T → Option (List T)) (lp2 : Int → List T → Option (List T)) (l0 : List T) (n1 : Int) : Option (List T) :=
  bif nLe (([] : List T).length + l0.length) LIM then
  bif iLt 1000000 n1 then
    (lp0 1000000 (([] : List T) ++ l0)).bind fun r98 =>
    bif nLe ((asL (nth r98 2)).length + ([T.i .u8 (IntKind.wrap .u8 (asI (nth r98 1)))] : List T).length) LIM then
    some [T.sl ((asL (nth r98 2)) ++ ([T.i .u8 (IntKind.wrap .u8 (asI (nth r98 1)))] : List T))]
    else none
  else
    bif iLt n1 0 then
      (lp1 l0).bind fun r99 =>
      bif nLe ((asL (nth r99 2)).length + ([T.i .u8 (IntKind.wrap .u8 (asI (nth r99 1)))] : List T).length) LIM then
      some [T.sl ((asL (nth r99 2)) ++ ([T.i .u8 (IntKind.wrap .u8 (asI (nth r99 1)))] : List T))]
      else none
    else
      (lp2 n1 (([] : List T) ++ l0)).bind fun r102 =>
      bif nLe ((asL (nth r102 2)).length + ([T.i .u8 (IntKind.wrap .u8 (asI (nth r102 1)))] : List T).length) LIM then
      some [T.sl ((asL (nth r102 2)) ++ ([T.i .u8 (IntKind.wrap .u8 (asI (nth r102 1)))] : List T))]
      else none
  else none
def f79 (c : Orc) (lf : Nat) (l0 : List T) (n1 : Int) : Option (List T) := f79_t c lf (fun (x96 : Int) (x97 : List T) => f79_0 c lf lf x96 x97) (fun (l0 : List T) => f79_1 c lf l0 lf ()) (fun (x100 : Int) (x101 : List T) => f79_2 c lf lf x100 x101) l0 n1
theorem f79_raw (c : Orc) (lf : Nat) (l0 : List T) (n1 : Int) : funK c env lf 6 fi79 [.sl l0, .i .i64 n1] = f79_t c lf (fun (x96 : Int) (x97 : List T) => lpK c env lf 6 fi79 2 6 [] [1, 5] (x79_6_0) lf (f79_0_c x96 x97)) (fun (l0 : List T) => lpK c env lf 6 fi79 2 6 [] [1, 5] (x79_6_0) lf (f79_1_c l0)) (fun (x100 : Int) (x101 : List T) => lpK c env lf 6 fi79 2 6 [] [1, 5] (x79_6_0) lf (f79_2_c x100 x101)) l0 n1 := by kernel_rfl
theorem f79_eq (c : Orc) (lf : Nat) (l0 : List T) (n1 : Int) : funK c env lf 6 fi79 [.sl l0, .i .i64 n1] = f79 c lf l0 n1 := by
  refine (f79_raw c lf l0 n1).trans ?_
  have e0 : (fun (x96 : Int) (x97 : List T) => lpK c env lf 6 fi79 2 6 [] [1, 5] (x79_6_0) lf (f79_0_c x96 x97)) = (fun (x96 : Int) (x97 : List T) => f79_0 c lf lf x96 x97) := by funext x96 x97; exact f79_0_eq c lf lf x96 x97
  have e1 : (fun (l0 : List T) => lpK c env lf 6 fi79 2 6 [] [1, 5] (x79_6_0) lf (f79_1_c l0)) = (fun (l0 : List T) => f79_1 c lf l0 lf ()) := by funext l0; exact f79_1_eq c lf l0 lf
  have e2 : (fun (x100 : Int) (x101 : List T) => lpK c env lf 6 fi79 2 6 [] [1, 5] (x79_6_0) lf (f79_2_c x100 x101)) = (fun (x100 : Int) (x101 : List T) => f79_2 c lf lf x100 x101) := by funext x100 x101; exact f79_2_eq c lf lf x100 x101
  rw [e0, e1, e2]; rfl
/-- loop.example/g00285/spec.PutMap, the loop at region 5. -/
def f68_0_s (c : Orc) (lf : Nat) (l0_1 : List T) (n0_0 : Int) (L : Int → List T → Option (List T)) (x118 : Int) (x119 : List T) : Option (List T) :=
  bif iLt x118 (l0_1.length : Int) then
    bif inR x118 l0_1.length then
    (c 79 [T.sl x119, T.i .i64 (asI (T.cell (l0_1.getD x118.toNat T.u) 0))]).bind fun r120 =>
    bif inR x118 l0_1.length then
    (c 79 [T.sl (asL (nth r120 0)), T.i .i64 (asI (T.cell (l0_1.getD x118.toNat T.u) 1))]).bind fun r121 =>
    L (IntKind.wrap .i64 (x118 + 1)) (asL (nth r121 0))
    else none
    else none
  else
    some [T.i .i64 0, T.sl x119]
def f68_0_c (l0_1 : List T) (n0_0 : Int) (x118 : Int) (x119 : List T) : CSt := ⟨[.bp 2 0, .rf 3 [] 0 none, .i .i64 x118], [.dead, .dead, .box [.i .i64 n0_0, .ro 0 true [.i .i64, .i .i64] l0_1], .row false [.i .u8] x119 0 false]⟩
theorem f68_0_round (c : Orc) (lf : Nat) (l0_1 : List T) (n0_0 : Int) (L : CSt → Option (List T)) (x118 : Int) (x119 : List T) :
    roundK c env lf 6 fi68 2 5 [] [1, 3, 4] (x68_5_0) L (f68_0_c l0_1 n0_0 x118 x119) = f68_0_s c lf l0_1 n0_0 (fun x118 x119 => L (f68_0_c l0_1 n0_0 x118 x119)) x118 x119 := by kernel_rfl
def f68_0 (c : Orc) (lf : Nat) (l0_1 : List T) (n0_0 : Int) : Nat → Int → List T → Option (List T)
  | 0 => fun _ _ => none
  | n + 1 => fun x118 x119 => f68_0_s c lf l0_1 n0_0 (f68_0 c lf l0_1 n0_0 n) x118 x119
theorem f68_0_u (c : Orc) (lf : Nat) (l0_1 : List T) (n0_0 : Int) (n : Nat) (x118 : Int) (x119 : List T) : f68_0 c lf l0_1 n0_0 (n + 1) x118 x119 = f68_0_s c lf l0_1 n0_0 (f68_0 c lf l0_1 n0_0 n) x118 x119 := rfl
theorem f68_0_eq (c : Orc) (lf : Nat) (l0_1 : List T) (n0_0 : Int) (n : Nat) (x118 : Int) (x119 : List T) :
    lpK c env lf 6 fi68 2 5 [] [1, 3, 4] (x68_5_0) n (f68_0_c l0_1 n0_0 x118 x119) = f68_0 c lf l0_1 n0_0 n x118 x119 := by
  induction n generalizing x118 x119 with
  | zero => rfl
  | succ n ih =>
    refine (f68_0_round c lf l0_1 n0_0 _ x118 x119).trans ?_
    have e : (fun x118 x119 => lpK c env lf 6 fi68 2 5 [] [1, 3, 4] (x68_5_0) n (f68_0_c l0_1 n0_0 x118 x119)) = f68_0 c lf l0_1 n0_0 n := by funext x118 x119; exact ih x118 x119
    show f68_0_s c lf l0_1 n0_0 (fun x118 x119 => lpK c env lf 6 fi68 2 5 [] [1, 3, 4] (x68_5_0) n (f68_0_c l0_1 n0_0 x118 x119)) x118 x119 = _
    rw [e]; rfl
/-- loop.example/g00285/spec.PutMap -/
def f68_t (c : Orc) (lf : Nat) (lp0 : List T → Int → Int → List T → Option (List T)) (n0_0 : Int) (l0_1 : List T) : Option (List T) :=
  (c 21 [T.st [T.i .i64 n0_0, T.sl l0_1]]).bind fun r113 =>
  bif !(asB (nth r113 0)) then
    some [T.sl ([] : List T)]
  else
    (c 79 [T.sl ([] : List T), T.i .i64 n0_0]).bind fun r114 =>
    (c 79 [T.sl (asL (nth r114 0)), T.i .i64 (l0_1.length : Int)]).bind fun r115 =>
    (lp0 l0_1 n0_0 0 (asL (nth r115 0))).bind fun r122 =>
    some [T.sl (asL (nth r122 1))]
def f68 (c : Orc) (lf : Nat) (n0_0 : Int) (l0_1 : List T) : Option (List T) := f68_t c lf (fun (l0_1 : List T) (n0_0 : Int) (x118 : Int) (x119 : List T) => f68_0 c lf l0_1 n0_0 lf x118 x119) n0_0 l0_1
theorem f68_raw (c : Orc) (lf : Nat) (n0_0 : Int) (l0_1 : List T) : funK c env lf 6 fi68 [.st [.i .i64 n0_0, .sl l0_1]] = f68_t c lf (fun (l0_1 : List T) (n0_0 : Int) (x118 : Int) (x119 : List T) => lpK c env lf 6 fi68 2 5 [] [1, 3, 4] (x68_5_0) lf (f68_0_c l0_1 n0_0 x118 x119)) n0_0 l0_1 := by kernel_rfl
theorem f68_eq (c : Orc) (lf : Nat) (n0_0 : Int) (l0_1 : List T) : funK c env lf 6 fi68 [.st [.i .i64 n0_0, .sl l0_1]] = f68 c lf n0_0 l0_1 := by
  refine (f68_raw c lf n0_0 l0_1).trans ?_
  have e0 : (fun (l0_1 : List T) (n0_0 : Int) (x118 : Int) (x119 : List T) => lpK c env lf 6 fi68 2 5 [] [1, 3, 4] (x68_5_0) lf (f68_0_c l0_1 n0_0 x118 x119)) = (fun (l0_1 : List T) (n0_0 : Int) (x118 : Int) (x119 : List T) => f68_0 c lf l0_1 n0_0 lf x118 x119) := by funext l0_1 n0_0 x118 x119; exact f68_0_eq c lf l0_1 n0_0 lf x118 x119
  rw [e0]; rfl
/-- loop.example/g00285/spec.DrawGetMap -/
def f16_t (c : Orc) (lf : Nat) (l0 : List T) : Option (List T) :=
  (c 65 [T.sl l0]).bind fun r123 =>
  (c 69 [T.st [T.sl (asL (T.cell (nth r123 0) 0)), T.i .i64 (asI (T.cell (nth r123 0) 1)), T.i .i64 (asI (T.cell (nth r123 0) 2))]]).bind fun r124 =>
  (c 68 [T.st [T.i .i64 (asI (T.cell (nth r124 0) 0)), T.sl (asL (T.cell (nth r124 0) 1))]]).bind fun r125 =>
  (c 70 [T.st [T.sl (asL (T.cell (nth r123 0) 0)), T.i .i64 (asI (T.cell (nth r124 1) 1)), T.i .i64 (asI (T.cell (nth r124 1) 2))], T.i .i64 5]).bind fun r126 =>
  bif (asI (nth r126 0)) == 0 then
    (c 70 [T.st [T.sl (asL (T.cell (nth r123 0) 0)), T.i .i64 (asI (T.cell (nth r126 1) 1)), T.i .i64 (asI (T.cell (nth r126 1) 2))], T.i .i64 ((asL (nth r125 0)).length : Int)]).bind fun r127 =>
    (c 71 [T.st [T.sl (asL (T.cell (nth r123 0) 0)), T.i .i64 (asI (T.cell (nth r127 1) 1)), T.i .i64 (asI (T.cell (nth r127 1) 2))], T.sl ([T.i .i64 0, T.i .i64 1, T.i .i64 2, T.i .i64 12, T.i .i64 128] : List T)]).bind fun r128 =>
    bif inR (asI (nth r127 0)) ((asL (nth r125 0)).length) then
    some [T.sl ((asL (nth r125 0)).set ((asI (nth r127 0)).toNat) (T.i .u8 (IntKind.wrap .u8 (asI (nth r128 0)))))]
    else none
  else
    bif (asI (nth r126 0)) == 1 then
      (c 70 [T.st [T.sl (asL (T.cell (nth r123 0) 0)), T.i .i64 (asI (T.cell (nth r126 1) 1)), T.i .i64 (asI (T.cell (nth r126 1) 2))], T.i .i64 ((asL (nth r125 0)).length : Int)]).bind fun r129 =>
      bif iLe 0 0 && iLe 0 (asI (nth r129 0)) && iLe (asI (nth r129 0)) ((asL (nth r125 0)).length : Int) then
      some [T.sl (((asL (nth r125 0)).drop 0).take (((asI (nth r129 0)).toNat) - 0))]
      else none
    else
      bif (asI (nth r126 0)) == 2 then
        bif nLe ((asL (nth r125 0)).length + ([T.i .u8 0] : List T).length) LIM then
        some [T.sl ((asL (nth r125 0)) ++ ([T.i .u8 0] : List T))]
        else none
      else
        some [T.sl (asL (nth r125 0))]
def f16 (c : Orc) (lf : Nat) (l0 : List T) : Option (List T) := f16_t c lf l0
theorem f16_raw (c : Orc) (lf : Nat) (l0 : List T) : funK c env lf 6 fi16 [.sl l0] = f16_t c lf l0 := by kernel_rfl
theorem f16_eq (c : Orc) (lf : Nat) (l0 : List T) : funK c env lf 6 fi16 [.sl l0] = f16 c lf l0 := by
  refine (f16_raw c lf l0).trans ?_
  rfl
/-- loop.example/g00285/impl.GetNum, the loop at region 6. -/
def f125_0_s (c : Orc) (lf : Nat) (l0 : List T) (n1 : Int) (L : Int → Int → Int → Option (List T)) (x134 : Int) (x135 : Int) (x136 : Int) : Option (List T) :=
  bif iLt x136 3 then
    bif iLt n1 (IntKind.wrap .i64 ((l0.length : Int) - x136)) then
      bif inR (IntKind.wrap .i64 (n1 + x136)) l0.length then
      bif iLe 128 (IntKind.wrap .i64 (asI (l0.getD ((IntKind.wrap .i64 (n1 + x136)).toNat) T.u))) then
        L (IntKind.wrap .i64 (x134 + (IntKind.wrap .i64 (((IntKind.wrap .i64 (asI (l0.getD ((IntKind.wrap .i64 (n1 + x136)).toNat) T.u))).tmod 128) * x135)))) (IntKind.wrap .i64 (x135 * 128)) (IntKind.wrap .i64 (x136 + 1))
      else
        bif iLt 1000000 (IntKind.wrap .i64 (x134 + (IntKind.wrap .i64 (((IntKind.wrap .i64 (asI (l0.getD ((IntKind.wrap .i64 (n1 + x136)).toNat) T.u))).tmod 128) * x135)))) then
          some [T.i .i64 0]
        else
          bif (IntKind.wrap .i64 (asI (l0.getD ((IntKind.wrap .i64 (n1 + x136)).toNat) T.u))) == 0 then
            bif iLt 0 x136 then
              some [T.i .i64 0]
            else
              some [T.i .i64 1, T.i .i64 (IntKind.wrap .i64 (x134 + (IntKind.wrap .i64 (((IntKind.wrap .i64 (asI (l0.getD ((IntKind.wrap .i64 (n1 + x136)).toNat) T.u))).tmod 128) * x135)))), T.i .i64 (IntKind.wrap .i64 ((IntKind.wrap .i64 (n1 + x136)) + 1)), T.b true]
          else
            some [T.i .i64 1, T.i .i64 (IntKind.wrap .i64 (x134 + (IntKind.wrap .i64 (((IntKind.wrap .i64 (asI (l0.getD ((IntKind.wrap .i64 (n1 + x136)).toNat) T.u))).tmod 128) * x135)))), T.i .i64 (IntKind.wrap .i64 ((IntKind.wrap .i64 (n1 + x136)) + 1)), T.b true]
      else none
    else
      some [T.i .i64 0]
  else
    some [T.i .i64 0]
def f125_0_c (l0 : List T) (n1 : Int) (x134 : Int) (x135 : Int) (x136 : Int) : CSt := ⟨[.ro 0 false [.i .u8] l0, .i .i64 n1, .i .i64 x134, .i .i64 x135, .i .i64 x136], [.dead, .dead]⟩
theorem f125_0_round (c : Orc) (lf : Nat) (l0 : List T) (n1 : Int) (L : CSt → Option (List T)) (x134 : Int) (x135 : Int) (x136 : Int) :
    roundK c env lf 6 fi125 2 6 [] [0, 1, 7, 8, 9] (x125_6_0) L (f125_0_c l0 n1 x134 x135 x136) = f125_0_s c lf l0 n1 (fun x134 x135 x136 => L (f125_0_c l0 n1 x134 x135 x136)) x134 x135 x136 := by kernel_rfl
def f125_0 (c : Orc) (lf : Nat) (l0 : List T) (n1 : Int) : Nat → Int → Int → Int → Option (List T)
  | 0 => fun _ _ _ => none
  | n + 1 => fun x134 x135 x136 => f125_0_s c lf l0 n1 (f125_0 c lf l0 n1 n) x134 x135 x136
theorem f125_0_u (c : Orc) (lf : Nat) (l0 : List T) (n1 : Int) (n : Nat) (x134 : Int) (x135 : Int) (x136 : Int) : f125_0 c lf l0 n1 (n + 1) x134 x135 x136 = f125_0_s c lf l0 n1 (f125_0 c lf l0 n1 n) x134 x135 x136 := rfl
theorem f125_0_eq (c : Orc) (lf : Nat) (l0 : List T) (n1 : Int) (n : Nat) (x134 : Int) (x135 : Int) (x136 : Int) :
    lpK c env lf 6 fi125 2 6 [] [0, 1, 7, 8, 9] (x125_6_0) n (f125_0_c l0 n1 x134 x135 x136) = f125_0 c lf l0 n1 n x134 x135 x136 := by
  induction n generalizing x134 x135 x136 with
  | zero => rfl
  | succ n ih =>
    refine (f125_0_round c lf l0 n1 _ x134 x135 x136).trans ?_
    have e : (fun x134 x135 x136 => lpK c env lf 6 fi125 2 6 [] [0, 1, 7, 8, 9] (x125_6_0) n (f125_0_c l0 n1 x134 x135 x136)) = f125_0 c lf l0 n1 n := by funext x134 x135 x136; exact ih x134 x135 x136
    show f125_0_s c lf l0 n1 (fun x134 x135 x136 => lpK c env lf 6 fi125 2 6 [] [0, 1, 7, 8, 9] (x125_6_0) n (f125_0_c l0 n1 x134 x135 x136)) x134 x135 x136 = _
    rw [e]; rfl
/-- loop.example/g00285/impl.GetNum -/
def f125_t (c : Orc) (lf : Nat) (lp0 : List T → Int → Int → Int → Int → Option (List T)) (l0 : List T) (n1 : Int) : Option (List T) :=
  bif iLt n1 0 then
    some [T.i .i64 0, T.i .i64 0, T.b false]
  else
    (lp0 l0 n1 0 1 0).bind fun r137 =>
    bif asI (nth r137 0) == 0 then
      some [T.i .i64 0, T.i .i64 0, T.b false]
    else
      some [T.i .i64 (asI (nth r137 1)), T.i .i64 (asI (nth r137 2)), T.b (asB (nth r137 3))]
def f125 (c : Orc) (lf : Nat) (l0 : List T) (n1 : Int) : Option (List T) := f125_t c lf (fun (l0 : List T) (n1 : Int) (x134 : Int) (x135 : Int) (x136 : Int) => f125_0 c lf l0 n1 lf x134 x135 x136) l0 n1
theorem f125_raw (c : Orc) (lf : Nat) (l0 : List T) (n1 : Int) : funK c env lf 6 fi125 [.sl l0, .i .i64 n1] = f125_t c lf (fun (l0 : List T) (n1 : Int) (x134 : Int) (x135 : Int) (x136 : Int) => lpK c env lf 6 fi125 2 6 [] [0, 1, 7, 8, 9] (x125_6_0) lf (f125_0_c l0 n1 x134 x135 x136)) l0 n1 := by kernel_rfl
theorem f125_eq (c : Orc) (lf : Nat) (l0 : List T) (n1 : Int) : funK c env lf 6 fi125 [.sl l0, .i .i64 n1] = f125 c lf l0 n1 := by
  refine (f125_raw c lf l0 n1).trans ?_
  have e0 : (fun (l0 : List T) (n1 : Int) (x134 : Int) (x135 : Int) (x136 : Int) => lpK c env lf 6 fi125 2 6 [] [0, 1, 7, 8, 9] (x125_6_0) lf (f125_0_c l0 n1 x134 x135 x136)) = (fun (l0 : List T) (n1 : Int) (x134 : Int) (x135 : Int) (x136 : Int) => f125_0 c lf l0 n1 lf x134 x135 x136) := by funext l0 n1 x134 x135 x136; exact f125_0_eq c lf l0 n1 lf x134 x135 x136
  rw [e0]; rfl
/-- (*loop.example/g00285/impl.reader).num -/
def f72_t (c : Orc) (lf : Nat) (l0_0 : List T) (n0_1 : Int) (b0_2 : Bool) : Option (List T) :=
  bif !b0_2 then
    some [T.i .i64 0, T.st [T.sl l0_0, T.i .i64 n0_1, T.b b0_2]]
  else
    (c 125 [T.sl l0_0, T.i .i64 n0_1]).bind fun r138 =>
    some [T.i .i64 (asI (nth r138 0)), T.st [T.sl l0_0, T.i .i64 (asI (nth r138 1)), T.b (asB (nth r138 2))]]
def f72 (c : Orc) (lf : Nat) (l0_0 : List T) (n0_1 : Int) (b0_2 : Bool) : Option (List T) := f72_t c lf l0_0 n0_1 b0_2
theorem f72_raw (c : Orc) (lf : Nat) (l0_0 : List T) (n0_1 : Int) (b0_2 : Bool) : funK c env lf 6 fi72 [.st [.sl l0_0, .i .i64 n0_1, .b b0_2]] = f72_t c lf l0_0 n0_1 b0_2 := by kernel_rfl
theorem f72_eq (c : Orc) (lf : Nat) (l0_0 : List T) (n0_1 : Int) (b0_2 : Bool) : funK c env lf 6 fi72 [.st [.sl l0_0, .i .i64 n0_1, .b b0_2]] = f72 c lf l0_0 n0_1 b0_2 := by
  refine (f72_raw c lf l0_0 n0_1 b0_2).trans ?_
  rfl
/-- (*loop.example/g00285/impl.reader).count -/
def f73_t (c : Orc) (lf : Nat) (l0_0 : List T) (n0_1 : Int) (b0_2 : Bool) : Option (List T) :=
  (c 72 [T.st [T.sl l0_0, T.i .i64 n0_1, T.b b0_2]]).bind fun r139 =>
  bif iLt (IntKind.wrap .i64 ((l0_0.length : Int) - (asI (T.cell (nth r139 1) 1)))) (asI (nth r139 0)) then
    some [T.i .i64 0, T.st [T.sl l0_0, T.i .i64 (asI (T.cell (nth r139 1) 1)), T.b false]]
  else
    some [T.i .i64 (asI (nth r139 0)), T.st [T.sl l0_0, T.i .i64 (asI (T.cell (nth r139 1) 1)), T.b (asB (T.cell (nth r139 1) 2))]]
def f73 (c : Orc) (lf : Nat) (l0_0 : List T) (n0_1 : Int) (b0_2 : Bool) : Option (List T) := f73_t c lf l0_0 n0_1 b0_2
theorem f73_raw (c : Orc) (lf : Nat) (l0_0 : List T) (n0_1 : Int) (b0_2 : Bool) : funK c env lf 6 fi73 [.st [.sl l0_0, .i .i64 n0_1, .b b0_2]] = f73_t c lf l0_0 n0_1 b0_2 := by kernel_rfl
theorem f73_eq (c : Orc) (lf : Nat) (l0_0 : List T) (n0_1 : Int) (b0_2 : Bool) : funK c env lf 6 fi73 [.st [.sl l0_0, .i .i64 n0_1, .b b0_2]] = f73 c lf l0_0 n0_1 b0_2 := by
  refine (f73_raw c lf l0_0 n0_1 b0_2).trans ?_
  rfl
/-- (*loop.example/g00285/impl.reader).done -/
def f74_t (c : Orc) (lf : Nat) (l0_0 : List T) (n0_1 : Int) (b0_2 : Bool) : Option (List T) :=
  bif b0_2 then
    some [T.b (n0_1 == (l0_0.length : Int)), T.st [T.sl l0_0, T.i .i64 n0_1, T.b b0_2]]
  else
    some [T.b false, T.st [T.sl l0_0, T.i .i64 n0_1, T.b b0_2]]
def f74 (c : Orc) (lf : Nat) (l0_0 : List T) (n0_1 : Int) (b0_2 : Bool) : Option (List T) := f74_t c lf l0_0 n0_1 b0_2
theorem f74_raw (c : Orc) (lf : Nat) (l0_0 : List T) (n0_1 : Int) (b0_2 : Bool) : funK c env lf 6 fi74 [.st [.sl l0_0, .i .i64 n0_1, .b b0_2]] = f74_t c lf l0_0 n0_1 b0_2 := by kernel_rfl
theorem f74_eq (c : Orc) (lf : Nat) (l0_0 : List T) (n0_1 : Int) (b0_2 : Bool) : funK c env lf 6 fi74 [.st [.sl l0_0, .i .i64 n0_1, .b b0_2]] = f74 c lf l0_0 n0_1 b0_2 := by
  refine (f74_raw c lf l0_0 n0_1 b0_2).trans ?_
  rfl
/-- loop.example/g00285/impl.GetMap, the loop at region 4. -/
def f17_0_s (c : Orc) (lf : Nat) (l0 : List T) (r153 : List T) (r154 : List T) (L : Int → Int → Bool → List T → Option (List T)) (x157 : Int) (x158 : Int) (x159 : Bool) (x160 : List T) : Option (List T) :=
  bif iLt x157 (asI (nth r154 0)) then
    (c 72 [T.st [T.sl l0, T.i .i64 x158, T.b x159]]).bind fun r161 =>
    (c 72 [T.st [T.sl l0, T.i .i64 (asI (T.cell (nth r161 1) 1)), T.b (asB (T.cell (nth r161 1) 2))]]).bind fun r162 =>
    bif nLe (x160.length + ([T.st [T.i .i64 (asI (nth r161 0)), T.i .i64 (asI (nth r162 0))]] : List T).length) LIM then
    L (IntKind.wrap .i64 (x157 + 1)) (asI (T.cell (nth r162 1) 1)) (asB (T.cell (nth r162 1) 2)) (x160 ++ ([T.st [T.i .i64 (asI (nth r161 0)), T.i .i64 (asI (nth r162 0))]] : List T))
    else none
  else
    some [T.i .i64 0, T.i .i64 0, T.sl ([] : List T), T.sl l0, T.i .i64 x158, T.b x159, T.i .i64 (asI (nth r153 0)), T.sl x160]
def f17_0_c (l0 : List T) (r153 : List T) (r154 : List T) (x157 : Int) (x158 : Int) (x159 : Bool) (x160 : List T) : CSt := ⟨[.bp 1 0, .bp 3 0, .bp 4 0, .i .i64 (asI (nth r154 0)), .i .i64 x157], [.dead, .box [.i .i64 0, .rf 2 [] 0 none], .row true [.i .i64, .i .i64] ([] : List T) 0 false, .box [.ro 0 false [.i .u8] l0, .i .i64 x158, .b x159], .box [.i .i64 (asI (nth r153 0)), .rf 5 [] 0 none], .row true [.i .i64, .i .i64] x160 0 false]⟩
theorem f17_0_round (c : Orc) (lf : Nat) (l0 : List T) (r153 : List T) (r154 : List T) (L : CSt → Option (List T)) (x157 : Int) (x158 : Int) (x159 : Bool) (x160 : List T) :
    roundK c env lf 6 fi17 1 4 [] [2, 4, 5, 15, 16] (x17_4_0) L (f17_0_c l0 r153 r154 x157 x158 x159 x160) = f17_0_s c lf l0 r153 r154 (fun x157 x158 x159 x160 => L (f17_0_c l0 r153 r154 x157 x158 x159 x160)) x157 x158 x159 x160 := by kernel_rfl
def f17_0 (c : Orc) (lf : Nat) (l0 : List T) (r153 : List T) (r154 : List T) : Nat → Int → Int → Bool → List T → Option (List T)
  | 0 => fun _ _ _ _ => none
  | n + 1 => fun x157 x158 x159 x160 => f17_0_s c lf l0 r153 r154 (f17_0 c lf l0 r153 r154 n) x157 x158 x159 x160
theorem f17_0_u (c : Orc) (lf : Nat) (l0 : List T) (r153 : List T) (r154 : List T) (n : Nat) (x157 : Int) (x158 : Int) (x159 : Bool) (x160 : List T) : f17_0 c lf l0 r153 r154 (n + 1) x157 x158 x159 x160 = f17_0_s c lf l0 r153 r154 (f17_0 c lf l0 r153 r154 n) x157 x158 x159 x160 := rfl
theorem f17_0_eq (c : Orc) (lf : Nat) (l0 : List T) (r153 : List T) (r154 : List T) (n : Nat) (x157 : Int) (x158 : Int) (x159 : Bool) (x160 : List T) :
    lpK c env lf 6 fi17 1 4 [] [2, 4, 5, 15, 16] (x17_4_0) n (f17_0_c l0 r153 r154 x157 x158 x159 x160) = f17_0 c lf l0 r153 r154 n x157 x158 x159 x160 := by
  induction n generalizing x157 x158 x159 x160 with
  | zero => rfl
  | succ n ih =>
    refine (f17_0_round c lf l0 r153 r154 _ x157 x158 x159 x160).trans ?_
    have e : (fun x157 x158 x159 x160 => lpK c env lf 6 fi17 1 4 [] [2, 4, 5, 15, 16] (x17_4_0) n (f17_0_c l0 r153 r154 x157 x158 x159 x160)) = f17_0 c lf l0 r153 r154 n := by funext x157 x158 x159 x160; exact ih x157 x158 x159 x160
    show f17_0_s c lf l0 r153 r154 (fun x157 x158 x159 x160 => lpK c env lf 6 fi17 1 4 [] [2, 4, 5, 15, 16] (x17_4_0) n (f17_0_c l0 r153 r154 x157 x158 x159 x160)) x157 x158 x159 x160 = _
    rw [e]; rfl
/-- loop.example/g00285/impl.GetMap -/
def f17_t (c : Orc) (lf : Nat) (lp0 : List T → List T → List T → Int → Int → Bool → List T → Option (List T)) (l0 : List T) : Option (List T) :=
  (c 72 [T.st [T.sl l0, T.i .i64 0, T.b true]]).bind fun r153 =>
  (c 73 [T.st [T.sl l0, T.i .i64 (asI (T.cell (nth r153 1) 1)), T.b (asB (T.cell (nth r153 1) 2))]]).bind fun r154 =>
  (lp0 l0 r153 r154 0 (asI (T.cell (nth r154 1) 1)) (asB (T.cell (nth r154 1) 2)) ([] : List T)).bind fun r163 =>
  (c 74 [T.st [T.sl (asL (nth r163 3)), T.i .i64 (asI (nth r163 4)), T.b (asB (nth r163 5))]]).bind fun r164 =>
  bif !(asB (nth r164 0)) then
    some [T.st [T.i .i64 0, T.sl []], T.b false]
  else
    (c 19 [T.st [T.i .i64 (asI (nth r163 6)), T.sl (asL (nth r163 7))]]).bind fun r165 =>
    bif !(asB (nth r165 0)) then
      some [T.st [T.i .i64 0, T.sl []], T.b false]
    else
      some [T.st [T.i .i64 (asI (nth r163 6)), T.sl (asL (nth r163 7))], T.b true]
def f17 (c : Orc) (lf : Nat) (l0 : List T) : Option (List T) := f17_t c lf (fun (l0 : List T) (r153 : List T) (r154 : List T) (x157 : Int) (x158 : Int) (x159 : Bool) (x160 : List T) => f17_0 c lf l0 r153 r154 lf x157 x158 x159 x160) l0
theorem f17_raw (c : Orc) (lf : Nat) (l0 : List T) : funK c env lf 6 fi17 [.sl l0] = f17_t c lf (fun (l0 : List T) (r153 : List T) (r154 : List T) (x157 : Int) (x158 : Int) (x159 : Bool) (x160 : List T) => lpK c env lf 6 fi17 1 4 [] [2, 4, 5, 15, 16] (x17_4_0) lf (f17_0_c l0 r153 r154 x157 x158 x159 x160)) l0 := by kernel_rfl
theorem f17_eq (c : Orc) (lf : Nat) (l0 : List T) : funK c env lf 6 fi17 [.sl l0] = f17 c lf l0 := by
  refine (f17_raw c lf l0).trans ?_
  have e0 : (fun (l0 : List T) (r153 : List T) (r154 : List T) (x157 : Int) (x158 : Int) (x159 : Bool) (x160 : List T) => lpK c env lf 6 fi17 1 4 [] [2, 4, 5, 15, 16] (x17_4_0) lf (f17_0_c l0 r153 r154 x157 x158 x159 x160)) = (fun (l0 : List T) (r153 : List T) (r154 : List T) (x157 : Int) (x158 : Int) (x159 : Bool) (x160 : List T) => f17_0 c lf l0 r153 r154 lf x157 x158 x159 x160) := by funext l0 r153 r154 x157 x158 x159 x160; exact f17_0_eq c lf l0 r153 r154 lf x157 x158 x159 x160
  rw [e0]; rfl
/-- loop.example/g00285/spec.GetNum, the loop at region 3. -/
def f126_0_s (c : Orc) (lf : Nat) (l0 : List T) (n1 : Int) (L : Int → Int → Option (List T)) (x169 : Int) (x170 : Int) : Option (List T) :=
  bif iLt x170 3 then
    bif iLe 0 n1 then
      bif iLt n1 (l0.length : Int) then
        bif iLt (IntKind.wrap .i64 (n1 + x170)) (l0.length : Int) then
          bif inR (IntKind.wrap .i64 (n1 + x170)) l0.length then
          bif iLe 0 (IntKind.wrap .u64 (IntKind.wrap .i64 (7 * x170))) then
          bif iLt 127 (IntKind.wrap .i64 (asI (l0.getD ((IntKind.wrap .i64 (n1 + x170)).toNat) T.u))) then
            L (intBits .or .i64 x169 (shiftI .shl .i64 (intBits .and .i64 (IntKind.wrap .i64 (asI (l0.getD ((IntKind.wrap .i64 (n1 + x170)).toNat) T.u))) 127) (IntKind.wrap .u64 (IntKind.wrap .i64 (7 * x170))))) (IntKind.wrap .i64 (x170 + 1))
          else
            bif iLt 0 x170 then
              bif (IntKind.wrap .i64 (asI (l0.getD ((IntKind.wrap .i64 (n1 + x170)).toNat) T.u))) == 0 then
                some [T.i .i64 0, T.i .i64 0, T.i .i64 0, T.b false]
              else
                bif iLt 1000000 (intBits .or .i64 x169 (shiftI .shl .i64 (intBits .and .i64 (IntKind.wrap .i64 (asI (l0.getD ((IntKind.wrap .i64 (n1 + x170)).toNat) T.u))) 127) (IntKind.wrap .u64 (IntKind.wrap .i64 (7 * x170))))) then
                  some [T.i .i64 0, T.i .i64 0, T.i .i64 0, T.b false]
                else
                  some [T.i .i64 0, T.i .i64 (intBits .or .i64 x169 (shiftI .shl .i64 (intBits .and .i64 (IntKind.wrap .i64 (asI (l0.getD ((IntKind.wrap .i64 (n1 + x170)).toNat) T.u))) 127) (IntKind.wrap .u64 (IntKind.wrap .i64 (7 * x170))))), T.i .i64 (IntKind.wrap .i64 ((IntKind.wrap .i64 (n1 + x170)) + 1)), T.b true]
            else
              bif iLt 1000000 (intBits .or .i64 x169 (shiftI .shl .i64 (intBits .and .i64 (IntKind.wrap .i64 (asI (l0.getD ((IntKind.wrap .i64 (n1 + x170)).toNat) T.u))) 127) (IntKind.wrap .u64 (IntKind.wrap .i64 (7 * x170))))) then
                some [T.i .i64 0, T.i .i64 0, T.i .i64 0, T.b false]
              else
                some [T.i .i64 0, T.i .i64 (intBits .or .i64 x169 (shiftI .shl .i64 (intBits .and .i64 (IntKind.wrap .i64 (asI (l0.getD ((IntKind.wrap .i64 (n1 + x170)).toNat) T.u))) 127) (IntKind.wrap .u64 (IntKind.wrap .i64 (7 * x170))))), T.i .i64 (IntKind.wrap .i64 ((IntKind.wrap .i64 (n1 + x170)) + 1)), T.b true]
          else none
          else none
        else
          some [T.i .i64 1]
      else
        some [T.i .i64 1]
    else
      some [T.i .i64 1]
  else
    some [T.i .i64 1]
def f126_0_c (l0 : List T) (n1 : Int) (x169 : Int) (x170 : Int) : CSt := ⟨[.ro 0 false [.i .u8] l0, .i .i64 n1, .i .i64 x169, .i .i64 x170], [.dead, .dead]⟩
theorem f126_0_round (c : Orc) (lf : Nat) (l0 : List T) (n1 : Int) (L : CSt → Option (List T)) (x169 : Int) (x170 : Int) :
    roundK c env lf 6 fi126 2 3 [] [0, 1, 7, 8] (x126_3_0) L (f126_0_c l0 n1 x169 x170) = f126_0_s c lf l0 n1 (fun x169 x170 => L (f126_0_c l0 n1 x169 x170)) x169 x170 := by kernel_rfl
def f126_0 (c : Orc) (lf : Nat) (l0 : List T) (n1 : Int) : Nat → Int → Int → Option (List T)
  | 0 => fun _ _ => none
  | n + 1 => fun x169 x170 => f126_0_s c lf l0 n1 (f126_0 c lf l0 n1 n) x169 x170
theorem f126_0_u (c : Orc) (lf : Nat) (l0 : List T) (n1 : Int) (n : Nat) (x169 : Int) (x170 : Int) : f126_0 c lf l0 n1 (n + 1) x169 x170 = f126_0_s c lf l0 n1 (f126_0 c lf l0 n1 n) x169 x170 := rfl
theorem f126_0_eq (c : Orc) (lf : Nat) (l0 : List T) (n1 : Int) (n : Nat) (x169 : Int) (x170 : Int) :
    lpK c env lf 6 fi126 2 3 [] [0, 1, 7, 8] (x126_3_0) n (f126_0_c l0 n1 x169 x170) = f126_0 c lf l0 n1 n x169 x170 := by
  induction n generalizing x169 x170 with
  | zero => rfl
  | succ n ih =>
    refine (f126_0_round c lf l0 n1 _ x169 x170).trans ?_
    have e : (fun x169 x170 => lpK c env lf 6 fi126 2 3 [] [0, 1, 7, 8] (x126_3_0) n (f126_0_c l0 n1 x169 x170)) = f126_0 c lf l0 n1 n := by funext x169 x170; exact ih x169 x170
    show f126_0_s c lf l0 n1 (fun x169 x170 => lpK c env lf 6 fi126 2 3 [] [0, 1, 7, 8] (x126_3_0) n (f126_0_c l0 n1 x169 x170)) x169 x170 = _
    rw [e]; rfl
/-- loop.example/g00285/spec.GetNum -/
def f126_t (c : Orc) (lf : Nat) (lp0 : List T → Int → Int → Int → Option (List T)) (l0 : List T) (n1 : Int) : Option (List T) :=
  (lp0 l0 n1 0 0).bind fun r171 =>
  bif asI (nth r171 0) == 0 then
    some [T.i .i64 (asI (nth r171 1)), T.i .i64 (asI (nth r171 2)), T.b (asB (nth r171 3))]
  else
    some [T.i .i64 0, T.i .i64 0, T.b false]
def f126 (c : Orc) (lf : Nat) (l0 : List T) (n1 : Int) : Option (List T) := f126_t c lf (fun (l0 : List T) (n1 : Int) (x169 : Int) (x170 : Int) => f126_0 c lf l0 n1 lf x169 x170) l0 n1
theorem f126_raw (c : Orc) (lf : Nat) (l0 : List T) (n1 : Int) : funK c env lf 6 fi126 [.sl l0, .i .i64 n1] = f126_t c lf (fun (l0 : List T) (n1 : Int) (x169 : Int) (x170 : Int) => lpK c env lf 6 fi126 2 3 [] [0, 1, 7, 8] (x126_3_0) lf (f126_0_c l0 n1 x169 x170)) l0 n1 := by kernel_rfl
theorem f126_eq (c : Orc) (lf : Nat) (l0 : List T) (n1 : Int) : funK c env lf 6 fi126 [.sl l0, .i .i64 n1] = f126 c lf l0 n1 := by
  refine (f126_raw c lf l0 n1).trans ?_
  have e0 : (fun (l0 : List T) (n1 : Int) (x169 : Int) (x170 : Int) => lpK c env lf 6 fi126 2 3 [] [0, 1, 7, 8] (x126_3_0) lf (f126_0_c l0 n1 x169 x170)) = (fun (l0 : List T) (n1 : Int) (x169 : Int) (x170 : Int) => f126_0 c lf l0 n1 lf x169 x170) := by funext l0 n1 x169 x170; exact f126_0_eq c lf l0 n1 lf x169 x170
  rw [e0]; rfl
/-- loop.example/g00285/spec.l3Num -/
def f75_t (c : Orc) (lf : Nat) (l0_0 : List T) (n0_1 : Int) (b0_2 : Bool) : Option (List T) :=
  (c 126 [T.sl l0_0, T.i .i64 n0_1]).bind fun r172 =>
  bif b0_2 then
    some [T.i .i64 0, T.st [T.sl l0_0, T.i .i64 n0_1, T.b true]]
  else
    bif !(asB (nth r172 2)) then
      some [T.i .i64 0, T.st [T.sl l0_0, T.i .i64 n0_1, T.b true]]
    else
      some [T.i .i64 (asI (nth r172 0)), T.st [T.sl l0_0, T.i .i64 (asI (nth r172 1)), T.b b0_2]]
def f75 (c : Orc) (lf : Nat) (l0_0 : List T) (n0_1 : Int) (b0_2 : Bool) : Option (List T) := f75_t c lf l0_0 n0_1 b0_2
theorem f75_raw (c : Orc) (lf : Nat) (l0_0 : List T) (n0_1 : Int) (b0_2 : Bool) : funK c env lf 6 fi75 [.st [.sl l0_0, .i .i64 n0_1, .b b0_2]] = f75_t c lf l0_0 n0_1 b0_2 := by kernel_rfl
theorem f75_eq (c : Orc) (lf : Nat) (l0_0 : List T) (n0_1 : Int) (b0_2 : Bool) : funK c env lf 6 fi75 [.st [.sl l0_0, .i .i64 n0_1, .b b0_2]] = f75 c lf l0_0 n0_1 b0_2 := by
  refine (f75_raw c lf l0_0 n0_1 b0_2).trans ?_
  rfl
/-- loop.example/g00285/spec.GetMap, the loop at region 5. -/
def f18_0_s (c : Orc) (lf : Nat) (l0 : List T) (r185 : List T) (r186 : List T) (L : Int → Int → Bool → List T → Option (List T)) (x189 : Int) (x190 : Int) (x191 : Bool) (x192 : List T) : Option (List T) :=
  bif iLt x189 (asI (nth r186 0)) then
    bif iLe x189 30 then
      bif !x191 then
        (c 75 [T.st [T.sl l0, T.i .i64 x190, T.b x191]]).bind fun r193 =>
        (c 75 [T.st [T.sl l0, T.i .i64 (asI (T.cell (nth r193 1) 1)), T.b (asB (T.cell (nth r193 1) 2))]]).bind fun r194 =>
        bif nLe (x192.length + ([T.st [T.i .i64 (asI (nth r193 0)), T.i .i64 (asI (nth r194 0))]] : List T).length) LIM then
        L (IntKind.wrap .i64 (x189 + 1)) (asI (T.cell (nth r194 1) 1)) (asB (T.cell (nth r194 1) 2)) (x192 ++ ([T.st [T.i .i64 (asI (nth r193 0)), T.i .i64 (asI (nth r194 0))]] : List T))
        else none
      else
        some [T.i .i64 0, T.sl l0, T.i .i64 (asI (nth r186 0)), T.i .i64 0, T.sl ([] : List T), T.sl l0, T.i .i64 x190, T.b x191, T.i .i64 (asI (nth r185 0)), T.sl x192]
    else
      some [T.i .i64 0, T.sl l0, T.i .i64 (asI (nth r186 0)), T.i .i64 0, T.sl ([] : List T), T.sl l0, T.i .i64 x190, T.b x191, T.i .i64 (asI (nth r185 0)), T.sl x192]
  else
    some [T.i .i64 0, T.sl l0, T.i .i64 (asI (nth r186 0)), T.i .i64 0, T.sl ([] : List T), T.sl l0, T.i .i64 x190, T.b x191, T.i .i64 (asI (nth r185 0)), T.sl x192]
def f18_0_c (l0 : List T) (r185 : List T) (r186 : List T) (x189 : Int) (x190 : Int) (x191 : Bool) (x192 : List T) : CSt := ⟨[.ro 0 false [.i .u8] l0, .bp 1 0, .bp 3 0, .bp 4 0, .i .i64 (asI (nth r186 0)), .i .i64 x189], [.dead, .box [.i .i64 0, .rf 2 [] 0 none], .row true [.i .i64, .i .i64] ([] : List T) 0 false, .box [.ro 0 false [.i .u8] l0, .i .i64 x190, .b x191], .box [.i .i64 (asI (nth r185 0)), .rf 5 [] 0 none], .row true [.i .i64, .i .i64] x192 0 false]⟩
theorem f18_0_round (c : Orc) (lf : Nat) (l0 : List T) (r185 : List T) (r186 : List T) (L : CSt → Option (List T)) (x189 : Int) (x190 : Int) (x191 : Bool) (x192 : List T) :
    roundK c env lf 6 fi18 1 5 [] [0, 2, 4, 5, 6, 7] (x18_5_0) L (f18_0_c l0 r185 r186 x189 x190 x191 x192) = f18_0_s c lf l0 r185 r186 (fun x189 x190 x191 x192 => L (f18_0_c l0 r185 r186 x189 x190 x191 x192)) x189 x190 x191 x192 := by kernel_rfl
def f18_0 (c : Orc) (lf : Nat) (l0 : List T) (r185 : List T) (r186 : List T) : Nat → Int → Int → Bool → List T → Option (List T)
  | 0 => fun _ _ _ _ => none
  | n + 1 => fun x189 x190 x191 x192 => f18_0_s c lf l0 r185 r186 (f18_0 c lf l0 r185 r186 n) x189 x190 x191 x192
theorem f18_0_u (c : Orc) (lf : Nat) (l0 : List T) (r185 : List T) (r186 : List T) (n : Nat) (x189 : Int) (x190 : Int) (x191 : Bool) (x192 : List T) : f18_0 c lf l0 r185 r186 (n + 1) x189 x190 x191 x192 = f18_0_s c lf l0 r185 r186 (f18_0 c lf l0 r185 r186 n) x189 x190 x191 x192 := rfl
theorem f18_0_eq (c : Orc) (lf : Nat) (l0 : List T) (r185 : List T) (r186 : List T) (n : Nat) (x189 : Int) (x190 : Int) (x191 : Bool) (x192 : List T) :
    lpK c env lf 6 fi18 1 5 [] [0, 2, 4, 5, 6, 7] (x18_5_0) n (f18_0_c l0 r185 r186 x189 x190 x191 x192) = f18_0 c lf l0 r185 r186 n x189 x190 x191 x192 := by
  induction n generalizing x189 x190 x191 x192 with
  | zero => rfl
  | succ n ih =>
    refine (f18_0_round c lf l0 r185 r186 _ x189 x190 x191 x192).trans ?_
    have e : (fun x189 x190 x191 x192 => lpK c env lf 6 fi18 1 5 [] [0, 2, 4, 5, 6, 7] (x18_5_0) n (f18_0_c l0 r185 r186 x189 x190 x191 x192)) = f18_0 c lf l0 r185 r186 n := by funext x189 x190 x191 x192; exact ih x189 x190 x191 x192
    show f18_0_s c lf l0 r185 r186 (fun x189 x190 x191 x192 => lpK c env lf 6 fi18 1 5 [] [0, 2, 4, 5, 6, 7] (x18_5_0) n (f18_0_c l0 r185 r186 x189 x190 x191 x192)) x189 x190 x191 x192 = _
    rw [e]; rfl
/-- loop.example/g00285/spec.GetMap -/
def f18_t (c : Orc) (lf : Nat) (lp0 : List T → List T → List T → Int → Int → Bool → List T → Option (List T)) (l0 : List T) : Option (List T) :=
  (c 75 [T.st [T.sl l0, T.i .i64 0, T.b false]]).bind fun r185 =>
  (c 75 [T.st [T.sl l0, T.i .i64 (asI (T.cell (nth r185 1) 1)), T.b (asB (T.cell (nth r185 1) 2))]]).bind fun r186 =>
  (lp0 l0 r185 r186 0 (asI (T.cell (nth r186 1) 1)) (asB (T.cell (nth r186 1) 2)) ([] : List T)).bind fun r195 =>
  bif asB (nth r195 7) then
    some [T.st [T.i .i64 0, T.sl []], T.b false]
  else
    bif (asI (nth r195 6)) != ((asL (nth r195 1)).length : Int) then
      some [T.st [T.i .i64 0, T.sl []], T.b false]
    else
      bif (asI (nth r195 2)) != ((asL (nth r195 9)).length : Int) then
        some [T.st [T.i .i64 0, T.sl []], T.b false]
      else
        (c 21 [T.st [T.i .i64 (asI (nth r195 8)), T.sl (asL (nth r195 9))]]).bind fun r196 =>
        bif !(asB (nth r196 0)) then
          some [T.st [T.i .i64 0, T.sl []], T.b false]
        else
          some [T.st [T.i .i64 (asI (nth r195 8)), T.sl (asL (nth r195 9))], T.b true]
def f18 (c : Orc) (lf : Nat) (l0 : List T) : Option (List T) := f18_t c lf (fun (l0 : List T) (r185 : List T) (r186 : List T) (x189 : Int) (x190 : Int) (x191 : Bool) (x192 : List T) => f18_0 c lf l0 r185 r186 lf x189 x190 x191 x192) l0
theorem f18_raw (c : Orc) (lf : Nat) (l0 : List T) : funK c env lf 6 fi18 [.sl l0] = f18_t c lf (fun (l0 : List T) (r185 : List T) (r186 : List T) (x189 : Int) (x190 : Int) (x191 : Bool) (x192 : List T) => lpK c env lf 6 fi18 1 5 [] [0, 2, 4, 5, 6, 7] (x18_5_0) lf (f18_0_c l0 r185 r186 x189 x190 x191 x192)) l0 := by kernel_rfl
theorem f18_eq (c : Orc) (lf : Nat) (l0 : List T) : funK c env lf 6 fi18 [.sl l0] = f18 c lf l0 := by
  refine (f18_raw c lf l0).trans ?_
  have e0 : (fun (l0 : List T) (r185 : List T) (r186 : List T) (x189 : Int) (x190 : Int) (x191 : Bool) (x192 : List T) => lpK c env lf 6 fi18 1 5 [] [0, 2, 4, 5, 6, 7] (x18_5_0) lf (f18_0_c l0 r185 r186 x189 x190 x191 x192)) = (fun (l0 : List T) (r185 : List T) (r186 : List T) (x189 : Int) (x190 : Int) (x191 : Bool) (x192 : List T) => f18_0 c lf l0 r185 r186 lf x189 x190 x191 x192) := by funext l0 r185 r186 x189 x190 x191 x192; exact f18_0_eq c lf l0 r185 r186 lf x189 x190 x191 x192
  rw [e0]; rfl
/-- loop.example/g00285/laws.sameBytes, the loop at region 4. -/
def f20_0_s (c : Orc) (lf : Nat) (l0 : List T) (l1 : List T) (L : Int → Option (List T)) (x199 : Int) : Option (List T) :=
  bif iLt x199 (l0.length : Int) then
    bif inR x199 l0.length then
    bif inR x199 l1.length then
    bif (asI (l0.getD x199.toNat T.u)) != (asI (l1.getD x199.toNat T.u)) then
      some [T.i .i64 0, T.b false]
    else
      L (IntKind.wrap .i64 (x199 + 1))
    else none
    else none
  else
    some [T.i .i64 1]
def f20_0_c (l0 : List T) (l1 : List T) (x199 : Int) : CSt := ⟨[.ro 0 false [.i .u8] l0, .ro 0 false [.i .u8] l1, .i .i64 x199], [.dead, .dead]⟩
theorem f20_0_round (c : Orc) (lf : Nat) (l0 : List T) (l1 : List T) (L : CSt → Option (List T)) (x199 : Int) :
    roundK c env lf 6 fi20 2 4 [] [0, 1, 5] (x20_4_0) L (f20_0_c l0 l1 x199) = f20_0_s c lf l0 l1 (fun x199 => L (f20_0_c l0 l1 x199)) x199 := by kernel_rfl
def f20_0 (c : Orc) (lf : Nat) (l0 : List T) (l1 : List T) : Nat → Int → Option (List T)
  | 0 => fun _ => none
  | n + 1 => fun x199 => f20_0_s c lf l0 l1 (f20_0 c lf l0 l1 n) x199
theorem f20_0_u (c : Orc) (lf : Nat) (l0 : List T) (l1 : List T) (n : Nat) (x199 : Int) : f20_0 c lf l0 l1 (n + 1) x199 = f20_0_s c lf l0 l1 (f20_0 c lf l0 l1 n) x199 := rfl
theorem f20_0_eq (c : Orc) (lf : Nat) (l0 : List T) (l1 : List T) (n : Nat) (x199 : Int) :
    lpK c env lf 6 fi20 2 4 [] [0, 1, 5] (x20_4_0) n (f20_0_c l0 l1 x199) = f20_0 c lf l0 l1 n x199 := by
  induction n generalizing x199 with
  | zero => rfl
  | succ n ih =>
    refine (f20_0_round c lf l0 l1 _ x199).trans ?_
    have e : (fun x199 => lpK c env lf 6 fi20 2 4 [] [0, 1, 5] (x20_4_0) n (f20_0_c l0 l1 x199)) = f20_0 c lf l0 l1 n := by funext x199; exact ih x199
    show f20_0_s c lf l0 l1 (fun x199 => lpK c env lf 6 fi20 2 4 [] [0, 1, 5] (x20_4_0) n (f20_0_c l0 l1 x199)) x199 = _
    rw [e]; rfl
/-- loop.example/g00285/laws.sameBytes -/
def f20_t (c : Orc) (lf : Nat) (lp0 : List T → List T → Int → Option (List T)) (l0 : List T) (l1 : List T) : Option (List T) :=
  bif (l0.length : Int) != (l1.length : Int) then
    some [T.b false]
  else
    (lp0 l0 l1 0).bind fun r200 =>
    bif asI (nth r200 0) == 0 then
      some [T.b (asB (nth r200 1))]
    else
      some [T.b true]
def f20 (c : Orc) (lf : Nat) (l0 : List T) (l1 : List T) : Option (List T) := f20_t c lf (fun (l0 : List T) (l1 : List T) (x199 : Int) => f20_0 c lf l0 l1 lf x199) l0 l1
theorem f20_raw (c : Orc) (lf : Nat) (l0 : List T) (l1 : List T) : funK c env lf 6 fi20 [.sl l0, .sl l1] = f20_t c lf (fun (l0 : List T) (l1 : List T) (x199 : Int) => lpK c env lf 6 fi20 2 4 [] [0, 1, 5] (x20_4_0) lf (f20_0_c l0 l1 x199)) l0 l1 := by kernel_rfl
theorem f20_eq (c : Orc) (lf : Nat) (l0 : List T) (l1 : List T) : funK c env lf 6 fi20 [.sl l0, .sl l1] = f20 c lf l0 l1 := by
  refine (f20_raw c lf l0 l1).trans ?_
  have e0 : (fun (l0 : List T) (l1 : List T) (x199 : Int) => lpK c env lf 6 fi20 2 4 [] [0, 1, 5] (x20_4_0) lf (f20_0_c l0 l1 x199)) = (fun (l0 : List T) (l1 : List T) (x199 : Int) => f20_0 c lf l0 l1 lf x199) := by funext l0 l1 x199; exact f20_0_eq c lf l0 l1 lf x199
  rw [e0]; rfl
/-- loop.example/g00285/impl.AddrOf, the loop at region 2. -/
def f22_0_s (c : Orc) (lf : Nat) (l0_1 : List T) (n1 : Int) (L : Int → Option (List T)) (x203 : Int) : Option (List T) :=
  bif iLt x203 (l0_1.length : Int) then
    bif inR x203 l0_1.length then
    bif (asI (T.cell (l0_1.getD x203.toNat T.u) 0)) == n1 then
      some [T.i .i64 0, T.i .i64 (asI (T.cell (l0_1.getD x203.toNat T.u) 1))]
    else
      L (IntKind.wrap .i64 (x203 + 1))
    else none
  else
    some [T.i .i64 1]
def f22_0_c (l0_1 : List T) (n1 : Int) (x203 : Int) : CSt := ⟨[.i .i64 n1, .ro 0 true [.i .i64, .i .i64] l0_1, .i .i64 (l0_1.length : Int), .i .i64 x203], [.dead, .dead, .dead]⟩
theorem f22_0_round (c : Orc) (lf : Nat) (l0_1 : List T) (n1 : Int) (L : CSt → Option (List T)) (x203 : Int) :
    roundK c env lf 6 fi22 3 2 [] [1, 8, 9, 10] (x22_2_0) L (f22_0_c l0_1 n1 x203) = f22_0_s c lf l0_1 n1 (fun x203 => L (f22_0_c l0_1 n1 x203)) x203 := by kernel_rfl
def f22_0 (c : Orc) (lf : Nat) (l0_1 : List T) (n1 : Int) : Nat → Int → Option (List T)
  | 0 => fun _ => none
  | n + 1 => fun x203 => f22_0_s c lf l0_1 n1 (f22_0 c lf l0_1 n1 n) x203
theorem f22_0_u (c : Orc) (lf : Nat) (l0_1 : List T) (n1 : Int) (n : Nat) (x203 : Int) : f22_0 c lf l0_1 n1 (n + 1) x203 = f22_0_s c lf l0_1 n1 (f22_0 c lf l0_1 n1 n) x203 := rfl
theorem f22_0_eq (c : Orc) (lf : Nat) (l0_1 : List T) (n1 : Int) (n : Nat) (x203 : Int) :
    lpK c env lf 6 fi22 3 2 [] [1, 8, 9, 10] (x22_2_0) n (f22_0_c l0_1 n1 x203) = f22_0 c lf l0_1 n1 n x203 := by
  induction n generalizing x203 with
  | zero => rfl
  | succ n ih =>
    refine (f22_0_round c lf l0_1 n1 _ x203).trans ?_
    have e : (fun x203 => lpK c env lf 6 fi22 3 2 [] [1, 8, 9, 10] (x22_2_0) n (f22_0_c l0_1 n1 x203)) = f22_0 c lf l0_1 n1 n := by funext x203; exact ih x203
    show f22_0_s c lf l0_1 n1 (fun x203 => lpK c env lf 6 fi22 3 2 [] [1, 8, 9, 10] (x22_2_0) n (f22_0_c l0_1 n1 x203)) x203 = _
    rw [e]; rfl
/-- loop.example/g00285/impl.AddrOf -/
def f22_t (c : Orc) (lf : Nat) (lp0 : List T → Int → Int → Option (List T)) (n0_0 : Int) (l0_1 : List T) (n1 : Int) : Option (List T) :=
  (lp0 l0_1 n1 0).bind fun r204 =>
  bif asI (nth r204 0) == 0 then
    some [T.i .i64 (asI (nth r204 1))]
  else
    some [T.i .i64 (-1)]
def f22 (c : Orc) (lf : Nat) (n0_0 : Int) (l0_1 : List T) (n1 : Int) : Option (List T) := f22_t c lf (fun (l0_1 : List T) (n1 : Int) (x203 : Int) => f22_0 c lf l0_1 n1 lf x203) n0_0 l0_1 n1
theorem f22_raw (c : Orc) (lf : Nat) (n0_0 : Int) (l0_1 : List T) (n1 : Int) : funK c env lf 6 fi22 [.st [.i .i64 n0_0, .sl l0_1], .i .i64 n1] = f22_t c lf (fun (l0_1 : List T) (n1 : Int) (x203 : Int) => lpK c env lf 6 fi22 3 2 [] [1, 8, 9, 10] (x22_2_0) lf (f22_0_c l0_1 n1 x203)) n0_0 l0_1 n1 := by kernel_rfl
theorem f22_eq (c : Orc) (lf : Nat) (n0_0 : Int) (l0_1 : List T) (n1 : Int) : funK c env lf 6 fi22 [.st [.i .i64 n0_0, .sl l0_1], .i .i64 n1] = f22 c lf n0_0 l0_1 n1 := by
  refine (f22_raw c lf n0_0 l0_1 n1).trans ?_
  have e0 : (fun (l0_1 : List T) (n1 : Int) (x203 : Int) => lpK c env lf 6 fi22 3 2 [] [1, 8, 9, 10] (x22_2_0) lf (f22_0_c l0_1 n1 x203)) = (fun (l0_1 : List T) (n1 : Int) (x203 : Int) => f22_0 c lf l0_1 n1 lf x203) := by funext l0_1 n1 x203; exact f22_0_eq c lf l0_1 n1 lf x203
  rw [e0]; rfl
/-- loop.example/g00285/laws.FnMaps, the loop at region 14. -/
def f3_0_s (c : Orc) (lf : Nat) (r233 : List T) (r234 : List T) (r243 : List T) (L : Int → Option (List T)) (x245 : Int) : Option (List T) :=
  bif iLt x245 ((asL (T.cell (nth r233 0) 1)).length : Int) then
    bif inR x245 ((asL (T.cell (nth r233 0) 1)).length) then
    (c 22 [T.st [T.i .i64 (asI (T.cell (nth r243 0) 0)), T.sl (asL (T.cell (nth r243 0) 1))], T.i .i64 (asI (T.cell ((asL (T.cell (nth r233 0) 1)).getD x245.toNat T.u) 0))]).bind fun r246 =>
    bif inR x245 ((asL (T.cell (nth r233 0) 1)).length) then
    bif (asI (nth r246 0)) != (asI (T.cell ((asL (T.cell (nth r233 0) 1)).getD x245.toNat T.u) 1)) then
      some [T.i .i64 0, T.b false]
    else
      L (IntKind.wrap .i64 (x245 + 1))
    else none
    else none
  else
    some [T.i .i64 1, T.b (asB (nth r243 1)), T.i .i64 (asI (T.cell (nth r233 0) 0)), T.sl (asL (T.cell (nth r233 0) 1)), T.sl (asL (nth r234 0)), T.i .i64 (asI (T.cell (nth r243 0) 0)), T.sl (asL (T.cell (nth r243 0) 1))]
def f3_0_c (r233 : List T) (r234 : List T) (r243 : List T) (x245 : Int) : CSt := ⟨[.bp 1 0, .rf 3 [] 0 none, .bp 4 0, .b (asB (nth r243 1)), .i .i64 x245], [.dead, .box [.i .i64 (asI (T.cell (nth r233 0) 0)), .rf 2 [] 0 none], .row true [.i .i64, .i .i64] (asL (T.cell (nth r233 0) 1)) 0 false, .row false [.i .u8] (asL (nth r234 0)) 0 false, .box [.i .i64 (asI (T.cell (nth r243 0) 0)), .rf 5 [] 0 none], .row true [.i .i64, .i .i64] (asL (T.cell (nth r243 0) 1)) 0 false]⟩
theorem f3_0_round (c : Orc) (lf : Nat) (r233 : List T) (r234 : List T) (r243 : List T) (L : CSt → Option (List T)) (x245 : Int) :
    roundK c env lf 6 fi3 1 14 [] [3, 4, 10, 11, 12] (x3_14_0) L (f3_0_c r233 r234 r243 x245) = f3_0_s c lf r233 r234 r243 (fun x245 => L (f3_0_c r233 r234 r243 x245)) x245 := by kernel_rfl
def f3_0 (c : Orc) (lf : Nat) (r233 : List T) (r234 : List T) (r243 : List T) : Nat → Int → Option (List T)
  | 0 => fun _ => none
  | n + 1 => fun x245 => f3_0_s c lf r233 r234 r243 (f3_0 c lf r233 r234 r243 n) x245
theorem f3_0_u (c : Orc) (lf : Nat) (r233 : List T) (r234 : List T) (r243 : List T) (n : Nat) (x245 : Int) : f3_0 c lf r233 r234 r243 (n + 1) x245 = f3_0_s c lf r233 r234 r243 (f3_0 c lf r233 r234 r243 n) x245 := rfl
theorem f3_0_eq (c : Orc) (lf : Nat) (r233 : List T) (r234 : List T) (r243 : List T) (n : Nat) (x245 : Int) :
    lpK c env lf 6 fi3 1 14 [] [3, 4, 10, 11, 12] (x3_14_0) n (f3_0_c r233 r234 r243 x245) = f3_0 c lf r233 r234 r243 n x245 := by
  induction n generalizing x245 with
  | zero => rfl
  | succ n ih =>
    refine (f3_0_round c lf r233 r234 r243 _ x245).trans ?_
    have e : (fun x245 => lpK c env lf 6 fi3 1 14 [] [3, 4, 10, 11, 12] (x3_14_0) n (f3_0_c r233 r234 r243 x245)) = f3_0 c lf r233 r234 r243 n := by funext x245; exact ih x245
    show f3_0_s c lf r233 r234 r243 (fun x245 => lpK c env lf 6 fi3 1 14 [] [3, 4, 10, 11, 12] (x3_14_0) n (f3_0_c r233 r234 r243 x245)) x245 = _
    rw [e]; rfl
/-- loop.example/g00285/laws.FnMaps, the loop at region 14. -/
def f3_1_s (c : Orc) (lf : Nat) (r233 : List T) (r234 : List T) (r252 : List T) (L : Int → Option (List T)) (x254 : Int) : Option (List T) :=
  bif iLt x254 ((asL (T.cell (nth r233 0) 1)).length : Int) then
    bif inR x254 ((asL (T.cell (nth r233 0) 1)).length) then
    (c 22 [T.st [T.i .i64 (asI (T.cell (nth r252 0) 0)), T.sl (asL (T.cell (nth r252 0) 1))], T.i .i64 (asI (T.cell ((asL (T.cell (nth r233 0) 1)).getD x254.toNat T.u) 0))]).bind fun r255 =>
    bif inR x254 ((asL (T.cell (nth r233 0) 1)).length) then
    bif (asI (nth r255 0)) != (asI (T.cell ((asL (T.cell (nth r233 0) 1)).getD x254.toNat T.u) 1)) then
      some [T.i .i64 0, T.b false]
    else
      L (IntKind.wrap .i64 (x254 + 1))
    else none
    else none
  else
    some [T.i .i64 1, T.b (asB (nth r252 1)), T.i .i64 (asI (T.cell (nth r233 0) 0)), T.sl (asL (T.cell (nth r233 0) 1)), T.sl (asL (nth r234 0)), T.i .i64 (asI (T.cell (nth r252 0) 0)), T.sl (asL (T.cell (nth r252 0) 1))]
def f3_1_c (r233 : List T) (r234 : List T) (r252 : List T) (x254 : Int) : CSt := ⟨[.bp 1 0, .rf 3 [] 0 none, .bp 4 0, .b (asB (nth r252 1)), .i .i64 x254], [.dead, .box [.i .i64 (asI (T.cell (nth r233 0) 0)), .rf 2 [] 0 none], .row true [.i .i64, .i .i64] (asL (T.cell (nth r233 0) 1)) 0 false, .row false [.i .u8] (asL (nth r234 0)) 0 false, .box [.i .i64 (asI (T.cell (nth r252 0) 0)), .rf 5 [] 0 none], .row true [.i .i64, .i .i64] (asL (T.cell (nth r252 0) 1)) 0 false]⟩
theorem f3_1_round (c : Orc) (lf : Nat) (r233 : List T) (r234 : List T) (r252 : List T) (L : CSt → Option (List T)) (x254 : Int) :
    roundK c env lf 6 fi3 1 14 [] [3, 4, 10, 11, 12] (x3_14_0) L (f3_1_c r233 r234 r252 x254) = f3_1_s c lf r233 r234 r252 (fun x254 => L (f3_1_c r233 r234 r252 x254)) x254 := by kernel_rfl
def f3_1 (c : Orc) (lf : Nat) (r233 : List T) (r234 : List T) (r252 : List T) : Nat → Int → Option (List T)
  | 0 => fun _ => none
  | n + 1 => fun x254 => f3_1_s c lf r233 r234 r252 (f3_1 c lf r233 r234 r252 n) x254
theorem f3_1_u (c : Orc) (lf : Nat) (r233 : List T) (r234 : List T) (r252 : List T) (n : Nat) (x254 : Int) : f3_1 c lf r233 r234 r252 (n + 1) x254 = f3_1_s c lf r233 r234 r252 (f3_1 c lf r233 r234 r252 n) x254 := rfl
theorem f3_1_eq (c : Orc) (lf : Nat) (r233 : List T) (r234 : List T) (r252 : List T) (n : Nat) (x254 : Int) :
    lpK c env lf 6 fi3 1 14 [] [3, 4, 10, 11, 12] (x3_14_0) n (f3_1_c r233 r234 r252 x254) = f3_1 c lf r233 r234 r252 n x254 := by
  induction n generalizing x254 with
  | zero => rfl
  | succ n ih =>
    refine (f3_1_round c lf r233 r234 r252 _ x254).trans ?_
    have e : (fun x254 => lpK c env lf 6 fi3 1 14 [] [3, 4, 10, 11, 12] (x3_14_0) n (f3_1_c r233 r234 r252 x254)) = f3_1 c lf r233 r234 r252 n := by funext x254; exact ih x254
    show f3_1_s c lf r233 r234 r252 (fun x254 => lpK c env lf 6 fi3 1 14 [] [3, 4, 10, 11, 12] (x3_14_0) n (f3_1_c r233 r234 r252 x254)) x254 = _
    rw [e]; rfl
/-- loop.example/g00285/laws.FnMaps -/
def f3_t (c : Orc) (lf : Nat) (lp0 : List T → List T → List T → Int → Option (List T)) (lp1 : List T → List T → List T → Int → Option (List T)) (l0 : List T) : Option (List T) :=
  (c 13 [T.sl l0]).bind fun r232 =>
  bif asB (nth r232 0) then
    some [T.b true]
  else
    (c 14 [T.sl l0]).bind fun r233 =>
    (c 15 [T.st [T.i .i64 (asI (T.cell (nth r233 0) 0)), T.sl (asL (T.cell (nth r233 0) 1))]]).bind fun r234 =>
    (c 16 [T.sl l0]).bind fun r235 =>
    (c 17 [T.sl (asL (nth r235 0))]).bind fun r236 =>
    (c 18 [T.sl (asL (nth r235 0))]).bind fun r237 =>
    bif !((asB (nth r236 1)) == (asB (nth r237 1))) then
      some [T.b false]
    else
      bif asB (nth r236 1) then
        (c 19 [T.st [T.i .i64 (asI (T.cell (nth r236 0) 0)), T.sl (asL (T.cell (nth r236 0) 1))]]).bind fun r238 =>
        bif !(asB (nth r238 0)) then
          some [T.b false]
        else
          (c 15 [T.st [T.i .i64 (asI (T.cell (nth r236 0) 0)), T.sl (asL (T.cell (nth r236 0) 1))]]).bind fun r239 =>
          (c 20 [T.sl (asL (nth r239 0)), T.sl (asL (nth r235 0))]).bind fun r240 =>
          bif !(asB (nth r240 0)) then
            some [T.b false]
          else
            (c 21 [T.st [T.i .i64 (asI (T.cell (nth r233 0) 0)), T.sl (asL (T.cell (nth r233 0) 1))]]).bind fun r241 =>
            bif !(asB (nth r241 0)) then
              bif ((asL (nth r234 0)).length : Int) == 0 then
                (c 19 [T.st [T.i .i64 (asI (T.cell (nth r233 0) 0)), T.sl (asL (T.cell (nth r233 0) 1))]]).bind fun r242 =>
                some [T.b (!(asB (nth r242 0)))]
              else
                some [T.b false]
            else
              (c 17 [T.sl (asL (nth r234 0))]).bind fun r243 =>
              (lp0 r233 r234 r243 0).bind fun r247 =>
              bif asI (nth r247 0) == 0 then
                some [T.b (asB (nth r247 1))]
              else
                bif asB (nth r247 1) then
                  bif (asI (nth r247 5)) == (asI (nth r247 2)) then
                    bif ((asL (nth r247 6)).length : Int) == ((asL (nth r247 3)).length : Int) then
                      (c 19 [T.st [T.i .i64 (asI (nth r247 2)), T.sl (asL (nth r247 3))]]).bind fun r248 =>
                      bif asB (nth r248 0) then
                        bif iLe ((asL (nth r247 4)).length : Int) 380 then
                          (c 22 [T.st [T.i .i64 (asI (nth r247 2)), T.sl (asL (nth r247 3))], T.i .i64 1001]).bind fun r249 =>
                          some [T.b ((asI (nth r249 0)) == (-1))]
                        else
                          some [T.b false]
                      else
                        some [T.b false]
                    else
                      some [T.b false]
                  else
                    some [T.b false]
                else
                  some [T.b false]
      else
        (c 21 [T.st [T.i .i64 (asI (T.cell (nth r233 0) 0)), T.sl (asL (T.cell (nth r233 0) 1))]]).bind fun r250 =>
        bif !(asB (nth r250 0)) then
          bif ((asL (nth r234 0)).length : Int) == 0 then
            (c 19 [T.st [T.i .i64 (asI (T.cell (nth r233 0) 0)), T.sl (asL (T.cell (nth r233 0) 1))]]).bind fun r251 =>
            some [T.b (!(asB (nth r251 0)))]
          else
            some [T.b false]
        else
          (c 17 [T.sl (asL (nth r234 0))]).bind fun r252 =>
          (lp1 r233 r234 r252 0).bind fun r256 =>
          bif asI (nth r256 0) == 0 then
            some [T.b (asB (nth r256 1))]
          else
            bif asB (nth r256 1) then
              bif (asI (nth r256 5)) == (asI (nth r256 2)) then
                bif ((asL (nth r256 6)).length : Int) == ((asL (nth r256 3)).length : Int) then
                  (c 19 [T.st [T.i .i64 (asI (nth r256 2)), T.sl (asL (nth r256 3))]]).bind fun r257 =>
                  bif asB (nth r257 0) then
                    bif iLe ((asL (nth r256 4)).length : Int) 380 then
                      (c 22 [T.st [T.i .i64 (asI (nth r256 2)), T.sl (asL (nth r256 3))], T.i .i64 1001]).bind fun r258 =>
                      some [T.b ((asI (nth r258 0)) == (-1))]
                    else
                      some [T.b false]
                  else
                    some [T.b false]
                else
                  some [T.b false]
              else
                some [T.b false]
            else
              some [T.b false]
def f3 (c : Orc) (lf : Nat) (l0 : List T) : Option (List T) := f3_t c lf (fun (r233 : List T) (r234 : List T) (r243 : List T) (x245 : Int) => f3_0 c lf r233 r234 r243 lf x245) (fun (r233 : List T) (r234 : List T) (r252 : List T) (x254 : Int) => f3_1 c lf r233 r234 r252 lf x254) l0
theorem f3_raw (c : Orc) (lf : Nat) (l0 : List T) : funK c env lf 6 fi3 [.sl l0] = f3_t c lf (fun (r233 : List T) (r234 : List T) (r243 : List T) (x245 : Int) => lpK c env lf 6 fi3 1 14 [] [3, 4, 10, 11, 12] (x3_14_0) lf (f3_0_c r233 r234 r243 x245)) (fun (r233 : List T) (r234 : List T) (r252 : List T) (x254 : Int) => lpK c env lf 6 fi3 1 14 [] [3, 4, 10, 11, 12] (x3_14_0) lf (f3_1_c r233 r234 r252 x254)) l0 := by kernel_rfl
theorem f3_eq (c : Orc) (lf : Nat) (l0 : List T) : funK c env lf 6 fi3 [.sl l0] = f3 c lf l0 := by
  refine (f3_raw c lf l0).trans ?_
  have e0 : (fun (r233 : List T) (r234 : List T) (r243 : List T) (x245 : Int) => lpK c env lf 6 fi3 1 14 [] [3, 4, 10, 11, 12] (x3_14_0) lf (f3_0_c r233 r234 r243 x245)) = (fun (r233 : List T) (r234 : List T) (r243 : List T) (x245 : Int) => f3_0 c lf r233 r234 r243 lf x245) := by funext r233 r234 r243 x245; exact f3_0_eq c lf r233 r234 r243 lf x245
  have e1 : (fun (r233 : List T) (r234 : List T) (r252 : List T) (x254 : Int) => lpK c env lf 6 fi3 1 14 [] [3, 4, 10, 11, 12] (x3_14_0) lf (f3_1_c r233 r234 r252 x254)) = (fun (r233 : List T) (r234 : List T) (r252 : List T) (x254 : Int) => f3_1 c lf r233 r234 r252 lf x254) := by funext r233 r234 r252 x254; exact f3_1_eq c lf r233 r234 r252 lf x254
  rw [e0, e1]; rfl
end Go.Proofs.Ytockabaoaneplaa.T
