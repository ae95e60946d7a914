/- What functions of the law FnExactGetTable come to, in trees; no condition. -/
import Derived.Test.YtockabaoaneplaaRows
import Derived.Test.YtockabaoaneplaaV4
import Derived.KernelRfl
set_option linter.unusedVariables false
set_option linter.constructorNameAsVariable false
set_option linter.unusedSimpArgs false
set_option linter.unnecessarySimpa false
namespace Go.Proofs.Ytockabaoaneplaa.T
open Go Go.Proofs.YtockabaoaneplaaV
def tyTab : List (Nat × Ti) := [
  (3, ⟨false, [.i .i64], .o⟩),
  (4, ⟨false, [.b], .o⟩),
  (5, ⟨false, [.i .u8], .o⟩),
  (9, ⟨false, [.s], .o⟩),
  (22, ⟨false, [.sl false [.i .u8]], .sl 5⟩),
  (42, ⟨false, [.sl true [.i .i64, .s, .b, .i .i64, .i .i64]], .sl 91⟩),
  (44, ⟨true, [.i .i64, .sl true [.i .i64, .s, .b, .i .i64, .i .i64]], .st [(0, 3), (1, 42)]⟩),
  (91, ⟨true, [.i .i64, .s, .b, .i .i64, .i .i64], .st [(0, 3), (1, 9), (2, 4), (3, 3), (4, 3)]⟩),
  (108, ⟨false, [.o], .o⟩),
  (110, ⟨true, [.sl false [.i .u8], .i .i64, .b], .st [(0, 22), (1, 3), (2, 4)]⟩),
  (113, ⟨false, [.o], .o⟩),
  (115, ⟨true, [.sl false [.i .u8], .i .i64, .b], .st [(0, 22), (1, 3), (2, 4)]⟩),
  (143, ⟨false, [.o], .o⟩),
  (159, ⟨false, [.i .u64], .o⟩)]
def x45_3_0 : List (Ex × List Nat × CSt) := [((.ex 0), [3], ⟨[.rf 1 [] 0 none], [.dead, .row false [.i .u8] [] 0 false]⟩)]
noncomputable def fi45 : Fi := ⟨Try.f45, [⟨3, [0, 3, 4], [], [(⟨[.ro 0 false [.i .u8] [], .rf 1 [] 0 none, .i .i64 0], [.dead, .row false [.i .u8] [] 0 false]⟩, x45_3_0)]⟩], false, [.ro (.sl false [.i .u8])], [.ow (.sl false [.i .u8])]⟩
def x126_3_0 : List (Ex × List Nat × CSt) := [(.ret, [4, 5, 6], ⟨[.i .i64 0, .i .i64 0, .b false], [.dead, .dead]⟩), ((.ex 0), [], ⟨[], [.dead, .dead]⟩)]
noncomputable def fi126 : Fi := ⟨Try.f126, [⟨3, [0, 1, 7, 8], [], [(⟨[.ro 0 false [.i .u8] [], .i .i64 0, .i .i64 0, .i .i64 0], [.dead, .dead]⟩, x126_3_0)]⟩], false, [.ro (.sl false [.i .u8]), .v (.i .i64)], [.v (.i .i64), .v (.i .i64), .v (.b)]⟩
noncomputable def fi75 : Fi := ⟨Try.f75, [], false, [.bx [.ro (.sl false [.i .u8]), .v (.i .i64), .v (.b)]], [.v (.i .i64)]⟩
noncomputable def fi139 : Fi := ⟨Try.f139, [], false, [.ro (.sl false [.i .u8]), .v (.i .i64)], [.v (.s), .v (.i .i64), .v (.b)]⟩
noncomputable def fi101 : Fi := ⟨Try.f101, [], false, [.bx [.ro (.sl false [.i .u8]), .v (.i .i64), .v (.b)]], [.v (.s)]⟩
noncomputable def fi77 : Fi := ⟨Try.f77, [], false, [.v (.i .i64), .v (.i .i64), .v (.i .i64)], [.v (.b)]⟩
def x109_2_0 : List (Ex × List Nat × CSt) := [(.ret, [2], ⟨[.b false], [.dead]⟩), ((.ex 0), [0], ⟨[.s (⟨#[]⟩ : ByteArray)], [.dead]⟩)]
noncomputable def fi109 : Fi := ⟨Try.f109, [⟨2, [0, 3], [], [(⟨[.s (⟨#[]⟩ : ByteArray), .i .i64 0], [.dead]⟩, x109_2_0)]⟩], false, [.v (.s)], [.v (.b)]⟩
def x53_2_0 : List (Ex × List Nat × CSt) := [(.ret, [2], ⟨[.b false], [.dead, .dead]⟩), ((.ex 0), [1], ⟨[.bp 2 0], [.dead, .dead, .box [.i .i64 0, .ro 0 true [.i .i64, .s, .b, .i .i64, .i .i64] []]]⟩)]
def x53_8_0 : List (Ex × List Nat × CSt) := [((.ex 2), [1, 3], ⟨[.bp 2 0, .i .i64 0], [.dead, .dead, .box [.i .i64 0, .ro 0 true [.i .i64, .s, .b, .i .i64, .i .i64] []]]⟩), (.ret, [2], ⟨[.b false], [.dead, .dead]⟩)]
noncomputable def fi53 : Fi := ⟨Try.f53, [⟨2, [1, 3], [], [(⟨[.bp 2 0, .i .i64 0], [.dead, .dead, .box [.i .i64 0, .ro 0 true [.i .i64, .s, .b, .i .i64, .i .i64] []]]⟩, x53_2_0)]⟩, ⟨8, [1, 3, 4, 5], [], [(⟨[.bp 2 0, .i .i64 0, .bp 3 0, .i .i64 0], [.dead, .dead, .box [.i .i64 0, .ro 0 true [.i .i64, .s, .b, .i .i64, .i .i64] []], .box [.i .i64 0, .s (⟨#[]⟩ : ByteArray), .b false, .i .i64 0, .i .i64 0]]⟩, x53_8_0)]⟩], false, [.ag [.v (.i .i64), .ro (.sl true [.i .i64, .s, .b, .i .i64, .i .i64])]], [.v (.b)]⟩
def x44_5_0 : List (Ex × List Nat × CSt) := [((.ex 0), [0, 2, 4, 5, 6], ⟨[.ro 0 false [.i .u8] [], .bp 1 0, .bp 3 0, .bp 4 0, .i .i64 0], [.dead, .box [.i .i64 0, .rf 2 [] 0 none], .row true [.i .i64, .s, .b, .i .i64, .i .i64] [] 0 false, .box [.ro 0 false [.i .u8] [], .i .i64 0, .b false], .box [.i .i64 0, .rf 5 [] 0 none], .row true [.i .i64, .s, .b, .i .i64, .i .i64] [] 0 false]⟩)]
noncomputable def fi44 : Fi := ⟨Try.f44, [⟨5, [0, 2, 4, 5, 6, 7], [], [(⟨[.ro 0 false [.i .u8] [], .bp 1 0, .bp 3 0, .bp 4 0, .i .i64 0, .i .i64 0], [.dead, .box [.i .i64 0, .rf 2 [] 0 none], .row true [.i .i64, .s, .b, .i .i64, .i .i64] [] 0 false, .box [.ro 0 false [.i .u8] [], .i .i64 0, .b false], .box [.i .i64 0, .rf 5 [] 0 none], .row true [.i .i64, .s, .b, .i .i64, .i .i64] [] 0 false]⟩, x44_5_0)]⟩], false, [.ro (.sl false [.i .u8])], [.ag [.v (.i .i64), .ow (.sl true [.i .i64, .s, .b, .i .i64, .i .i64])], .v (.b)]⟩
def x125_6_0 : List (Ex × List Nat × CSt) := [((.ex 0), [], ⟨[], [.dead, .dead]⟩), (.ret, [4, 5, 6], ⟨[.i .i64 0, .i .i64 0, .b false], [.dead, .dead]⟩)]
noncomputable def fi125 : Fi := ⟨Try.f125, [⟨6, [0, 1, 7, 8, 9], [], [(⟨[.ro 0 false [.i .u8] [], .i .i64 0, .i .i64 0, .i .i64 0, .i .i64 0], [.dead, .dead]⟩, x125_6_0)]⟩], false, [.ro (.sl false [.i .u8]), .v (.i .i64)], [.v (.i .i64), .v (.i .i64), .v (.b)]⟩
noncomputable def fi72 : Fi := ⟨Try.f72, [], false, [.bx [.ro (.sl false [.i .u8]), .v (.i .i64), .v (.b)]], [.v (.i .i64)]⟩
noncomputable def fi73 : Fi := ⟨Try.f73, [], false, [.bx [.ro (.sl false [.i .u8]), .v (.i .i64), .v (.b)]], [.v (.i .i64)]⟩
noncomputable def fi132 : Fi := ⟨Try.f132, [], false, [.ro (.sl false [.i .u8]), .v (.i .i64)], [.v (.s), .v (.i .i64), .v (.b)]⟩
noncomputable def fi91 : Fi := ⟨Try.f91, [], false, [.bx [.ro (.sl false [.i .u8]), .v (.i .i64), .v (.b)]], [.v (.s)]⟩
noncomputable def fi102 : Fi := ⟨Try.f102, [], false, [.bx [.ro (.sl false [.i .u8]), .v (.i .i64), .v (.b)]], [.v (.b)]⟩
noncomputable def fi74 : Fi := ⟨Try.f74, [], false, [.bx [.ro (.sl false [.i .u8]), .v (.i .i64), .v (.b)]], [.v (.b)]⟩
def x90_2_0 : List (Ex × List Nat × CSt) := [(.ret, [2], ⟨[.b false], [.dead]⟩), ((.ex 0), [0], ⟨[.s (⟨#[]⟩ : ByteArray)], [.dead]⟩)]
noncomputable def fi90 : Fi := ⟨Try.f90, [⟨2, [0, 6, 7], [], [(⟨[.s (⟨#[]⟩ : ByteArray), .i .i64 0, .i .i64 0], [.dead]⟩, x90_2_0)]⟩], false, [.v (.s)], [.v (.b)]⟩
noncomputable def fi76 : Fi := ⟨Try.f76, [], false, [.v (.i .i64), .v (.i .i64), .v (.i .i64)], [.v (.b)]⟩
noncomputable def fi106 : Fi := ⟨Try.f106, [], false, [.v (.i .i64)], [.v (.b)]⟩
noncomputable def fi108 : Fi := ⟨Try.f108, [], true, [], []⟩
def x140_2_0 : List (Ex × List Nat × CSt) := [(.ret, [4], ⟨[.i .i64 0], [.box [.i .i64 0, .s (⟨#[]⟩ : ByteArray), .b false, .i .i64 0, .i .i64 0]]⟩), ((.ex 0), [], ⟨[], [.box [.i .i64 0, .s (⟨#[]⟩ : ByteArray), .b false, .i .i64 0, .i .i64 0]]⟩)]
noncomputable def fi140 : Fi := ⟨Try.f140, [⟨2, [0, 1, 7, 8], [], [(⟨[.ro 0 true [.i .i64, .s, .b, .i .i64, .i .i64] [], .fn 108 [.bp 0 0], .i .i64 0, .i .i64 0], [.box [.i .i64 0, .s (⟨#[]⟩ : ByteArray), .b false, .i .i64 0, .i .i64 0]]⟩, x140_2_0)]⟩], true, [], []⟩
noncomputable def fi107 : Fi := ⟨Try.f107, [], true, [], []⟩
def x52_2_0 : List (Ex × List Nat × CSt) := [(.ret, [2], ⟨[.b false], [.dead, .dead]⟩), ((.ex 0), [1], ⟨[.bp 2 0], [.dead, .dead, .box [.i .i64 0, .ro 0 true [.i .i64, .s, .b, .i .i64, .i .i64] []]]⟩)]
noncomputable def fi52 : Fi := ⟨Try.f52, [⟨2, [1, 6, 7, 8], [], [(⟨[.bp 2 0, .ro 0 true [.i .i64, .s, .b, .i .i64, .i .i64] [], .i .i64 0, .i .i64 0], [.dead, .dead, .box [.i .i64 0, .ro 0 true [.i .i64, .s, .b, .i .i64, .i .i64] []]]⟩, x52_2_0)]⟩], false, [.ag [.v (.i .i64), .ro (.sl true [.i .i64, .s, .b, .i .i64, .i .i64])]], [.v (.b)]⟩
def x46_4_0 : List (Ex × List Nat × CSt) := [((.ex 0), [2, 4, 5], ⟨[.bp 1 0, .bp 3 0, .bp 4 0], [.dead, .box [.i .i64 0, .rf 2 [] 0 none], .row true [.i .i64, .s, .b, .i .i64, .i .i64] [] 0 false, .box [.ro 0 false [.i .u8] [], .i .i64 0, .b false], .box [.i .i64 0, .rf 5 [] 0 none], .row true [.i .i64, .s, .b, .i .i64, .i .i64] [] 0 false]⟩)]
noncomputable def fi46 : Fi := ⟨Try.f46, [⟨4, [2, 4, 5, 14, 15], [], [(⟨[.bp 1 0, .bp 3 0, .bp 4 0, .i .i64 0, .i .i64 0], [.dead, .box [.i .i64 0, .rf 2 [] 0 none], .row true [.i .i64, .s, .b, .i .i64, .i .i64] [] 0 false, .box [.ro 0 false [.i .u8] [], .i .i64 0, .b false], .box [.i .i64 0, .rf 5 [] 0 none], .row true [.i .i64, .s, .b, .i .i64, .i .i64] [] 0 false]⟩, x46_4_0)]⟩], false, [.ro (.sl false [.i .u8])], [.ag [.v (.i .i64), .ow (.sl true [.i .i64, .s, .b, .i .i64, .i .i64])], .v (.b)]⟩
noncomputable def fi129 : Fi := ⟨Try.f129, [], false, [.ag [.v (.i .i64), .v (.s), .v (.b), .v (.i .i64), .v (.i .i64)], .ag [.v (.i .i64), .v (.s), .v (.b), .v (.i .i64), .v (.i .i64)]], [.v (.b)]⟩
def x83_4_0 : List (Ex × List Nat × CSt) := [(.ret, [4], ⟨[.b false], [.dead, .dead]⟩), ((.ex 0), [], ⟨[], [.dead, .dead]⟩)]
noncomputable def fi83 : Fi := ⟨Try.f83, [⟨4, [0, 1, 5], [], [(⟨[.ro 0 true [.i .i64, .s, .b, .i .i64, .i .i64] [], .ro 0 true [.i .i64, .s, .b, .i .i64, .i .i64] [], .i .i64 0], [.dead, .dead]⟩, x83_4_0)]⟩], false, [.ro (.sl true [.i .i64, .s, .b, .i .i64, .i .i64]), .ro (.sl true [.i .i64, .s, .b, .i .i64, .i .i64])], [.v (.b)]⟩
noncomputable def fi28 : Fi := ⟨Try.f28, [], false, [.ag [.v (.i .i64), .ro (.sl true [.i .i64, .s, .b, .i .i64, .i .i64])], .ag [.v (.i .i64), .ro (.sl true [.i .i64, .s, .b, .i .i64, .i .i64])]], [.v (.b)]⟩
def x27_4_0 : List (Ex × List Nat × CSt) := [(.ret, [4], ⟨[.b false], [.dead, .dead]⟩), ((.ex 0), [], ⟨[], [.dead, .dead]⟩)]
noncomputable def fi27 : Fi := ⟨Try.f27, [⟨4, [0, 1, 5], [], [(⟨[.ro 0 false [.i .u8] [], .ro 0 false [.i .u8] [], .i .i64 0], [.dead, .dead]⟩, x27_4_0)]⟩], false, [.ro (.sl false [.i .u8]), .ro (.sl false [.i .u8])], [.v (.b)]⟩
def x30_2_0 : List (Ex × List Nat × CSt) := [((.ex 0), [1], ⟨[.i .i64 0], [.row false [.i .u8] [] 0 false, .dead]⟩)]
noncomputable def fi30 : Fi := ⟨Try.f30, [⟨2, [0, 1, 5], [], [(⟨[.rf 0 [] 0 none, .i .i64 0, .i .i64 0], [.row false [.i .u8] [] 0 false, .dead]⟩, x30_2_0)]⟩], false, [.ow (.sl false [.i .u8]), .v (.i .i64)], [.v (.i .i64)]⟩
def x130_4_0 : List (Ex × List Nat × CSt) := [((.ex 0), [3], ⟨[.s (⟨#[]⟩ : ByteArray)], [.dead]⟩)]
noncomputable def fi130 : Fi := ⟨Try.f130, [⟨4, [0, 3], [], [(⟨[.i .i64 0, .s (⟨#[]⟩ : ByteArray)], [.dead]⟩, x130_4_0)]⟩], false, [.v (.i .i64)], [.v (.s)]⟩
def x84_2_0 : List (Ex × List Nat × CSt) := [((.ex 0), [1], ⟨[.i .i64 0], [.row true [.i .i64, .s, .b, .i .i64, .i .i64] [] 0 false, .dead]⟩)]
noncomputable def fi84 : Fi := ⟨Try.f84, [⟨2, [0, 1, 5], [], [(⟨[.rf 0 [] 0 none, .i .i64 0, .i .i64 0], [.row true [.i .i64, .s, .b, .i .i64, .i .i64] [] 0 false, .dead]⟩, x84_2_0)]⟩], false, [.ow (.sl true [.i .i64, .s, .b, .i .i64, .i .i64]), .v (.i .i64)], [.v (.i .i64)]⟩
noncomputable def fi29 : Fi := ⟨Try.f29, [], false, [.ag [.v (.i .i64), .ow (.sl true [.i .i64, .s, .b, .i .i64, .i .i64])], .v (.i .i64)], [.v (.i .i64)]⟩
def x103_2_0 : List (Ex × List Nat × CSt) := [(.ret, [4], ⟨[.i .i64 0], [.dead, .dead]⟩), ((.ex 0), [1], ⟨[.i .i64 0], [.dead, .dead]⟩)]
noncomputable def fi103 : Fi := ⟨Try.f103, [⟨2, [0, 1, 5], [], [(⟨[.ro 0 true [.i .i64, .s, .b, .i .i64, .i .i64] [], .i .i64 0, .i .i64 0], [.dead, .dead]⟩, x103_2_0)]⟩], false, [.ro (.sl true [.i .i64, .s, .b, .i .i64, .i .i64]), .v (.i .i64)], [.v (.i .i64)]⟩
noncomputable def fi47 : Fi := ⟨Try.f47, [], false, [.ag [.v (.i .i64), .ro (.sl true [.i .i64, .s, .b, .i .i64, .i .i64])], .v (.i .i64)], [.v (.i .i64)]⟩
noncomputable def fi7 : Fi := ⟨Try.f7, [], false, [.ro (.sl false [.i .u8])], [.v (.b)]⟩
noncomputable def fiTab : List (Nat × Fi) := [(45, fi45), (126, fi126), (75, fi75), (139, fi139), (101, fi101), (77, fi77), (109, fi109), (53, fi53), (44, fi44), (125, fi125), (72, fi72), (73, fi73), (132, fi132), (91, fi91), (102, fi102), (74, fi74), (90, fi90), (76, fi76), (106, fi106), (108, fi108), (140, fi140), (107, fi107), (52, fi52), (46, fi46), (129, fi129), (83, fi83), (28, fi28), (27, fi27), (30, fi30), (130, fi130), (84, fi84), (29, fi29), (103, fi103), (47, fi47), (7, fi7)]
def X : Nat → Option (List T → Option (List T)) := lookN []
noncomputable def env : Env := ⟨lookN fiTab, lookN tyTab⟩
-- FUNCTIONS
/-- loop.example/g00285/laws.toByteS, the loop at region 3. -/
def f45_0_s (c : Orc) (lf : Nat) (l0 : List T) (L : Int → List T → Option (List T)) (x4 : Int) (x5 : List T) : Option (List T) :=
  bif iLt x4 (l0.length : Int) then
    bif inR x4 l0.length then
    bif inR x4 x5.length then
    L (IntKind.wrap .i64 (x4 + 1)) (x5.set x4.toNat (T.i .u8 (asI (l0.getD x4.toNat T.u))))
    else none
    else none
  else
    some [T.i .i64 0, T.sl x5]
def f45_0_c (l0 : List T) (x4 : Int) (x5 : List T) : CSt := ⟨[.ro 0 false [.i .u8] l0, .rf 1 [] 0 none, .i .i64 x4], [.dead, .row false [.i .u8] x5 0 false]⟩
theorem f45_0_round (c : Orc) (lf : Nat) (l0 : List T) (L : CSt → Option (List T)) (x4 : Int) (x5 : List T) :
    roundK c env lf 6 fi45 1 3 [] [0, 3, 4] (x45_3_0) L (f45_0_c l0 x4 x5) = f45_0_s c lf l0 (fun x4 x5 => L (f45_0_c l0 x4 x5)) x4 x5 := by kernel_rfl
def f45_0 (c : Orc) (lf : Nat) (l0 : List T) : Nat → Int → List T → Option (List T)
  | 0 => fun _ _ => none
  | n + 1 => fun x4 x5 => f45_0_s c lf l0 (f45_0 c lf l0 n) x4 x5
theorem f45_0_u (c : Orc) (lf : Nat) (l0 : List T) (n : Nat) (x4 : Int) (x5 : List T) : f45_0 c lf l0 (n + 1) x4 x5 = f45_0_s c lf l0 (f45_0 c lf l0 n) x4 x5 := rfl
theorem f45_0_eq (c : Orc) (lf : Nat) (l0 : List T) (n : Nat) (x4 : Int) (x5 : List T) :
    lpK c env lf 6 fi45 1 3 [] [0, 3, 4] (x45_3_0) n (f45_0_c l0 x4 x5) = f45_0 c lf l0 n x4 x5 := by
  induction n generalizing x4 x5 with
  | zero => rfl
  | succ n ih =>
    refine (f45_0_round c lf l0 _ x4 x5).trans ?_
    have e : (fun x4 x5 => lpK c env lf 6 fi45 1 3 [] [0, 3, 4] (x45_3_0) n (f45_0_c l0 x4 x5)) = f45_0 c lf l0 n := by funext x4 x5; exact ih x4 x5
    show f45_0_s c lf l0 (fun x4 x5 => lpK c env lf 6 fi45 1 3 [] [0, 3, 4] (x45_3_0) n (f45_0_c l0 x4 x5)) x4 x5 = _
    rw [e]; rfl
/-- loop.example/g00285/laws.toByteS -/
def f45_t (c : Orc) (lf : Nat) (lp0 : List T → Int → List T → Option (List T)) (l0 : List T) : Option (List T) :=
  bif iLe 0 (l0.length : Int) && iLe (l0.length : Int) (LIM : Int) && ((l0.length : Int) == (l0.length : Int)) then
  (lp0 l0 0 (List.replicate (l0.length : Int).toNat (T.i .u8 0))).bind fun r6 =>
  some [T.sl (asL (nth r6 1))]
  else none
def f45 (c : Orc) (lf : Nat) (l0 : List T) : Option (List T) := f45_t c lf (fun (l0 : List T) (x4 : Int) (x5 : List T) => f45_0 c lf l0 lf x4 x5) l0
theorem f45_raw (c : Orc) (lf : Nat) (l0 : List T) : funK c env lf 6 fi45 [.sl l0] = f45_t c lf (fun (l0 : List T) (x4 : Int) (x5 : List T) => lpK c env lf 6 fi45 1 3 [] [0, 3, 4] (x45_3_0) lf (f45_0_c l0 x4 x5)) l0 := by kernel_rfl
theorem f45_eq (c : Orc) (lf : Nat) (l0 : List T) : funK c env lf 6 fi45 [.sl l0] = f45 c lf l0 := by
  refine (f45_raw c lf l0).trans ?_
  have e0 : (fun (l0 : List T) (x4 : Int) (x5 : List T) => lpK c env lf 6 fi45 1 3 [] [0, 3, 4] (x45_3_0) lf (f45_0_c l0 x4 x5)) = (fun (l0 : List T) (x4 : Int) (x5 : List T) => f45_0 c lf l0 lf x4 x5) := by funext l0 x4 x5; exact f45_0_eq c lf l0 lf x4 x5
  rw [e0]; rfl
/-- loop.example/g00285/spec.GetNum, the loop at region 3. -/
def f126_0_s (c : Orc) (lf : Nat) (l0 : List T) (n1 : Int) (L : Int → Int → Option (List T)) (x10 : Int) (x11 : Int) : Option (List T) :=
  bif iLt x11 3 then
    bif iLe 0 n1 then
      bif iLt n1 (l0.length : Int) then
        bif iLt (IntKind.wrap .i64 (n1 + x11)) (l0.length : Int) then
          bif inR (IntKind.wrap .i64 (n1 + x11)) l0.length then
          bif iLe 0 (IntKind.wrap .u64 (IntKind.wrap .i64 (7 * x11))) then
          bif iLt 127 (IntKind.wrap .i64 (asI (l0.getD ((IntKind.wrap .i64 (n1 + x11)).toNat) T.u))) then
            L (intBits .or .i64 x10 (shiftI .shl .i64 (intBits .and .i64 (IntKind.wrap .i64 (asI (l0.getD ((IntKind.wrap .i64 (n1 + x11)).toNat) T.u))) 127) (IntKind.wrap .u64 (IntKind.wrap .i64 (7 * x11))))) (IntKind.wrap .i64 (x11 + 1))
          else
            bif iLt 0 x11 then
              bif (IntKind.wrap .i64 (asI (l0.getD ((IntKind.wrap .i64 (n1 + x11)).toNat) T.u))) == 0 then
                some [T.i .i64 0, T.i .i64 0, T.i .i64 0, T.b false]
              else
                bif iLt 1000000 (intBits .or .i64 x10 (shiftI .shl .i64 (intBits .and .i64 (IntKind.wrap .i64 (asI (l0.getD ((IntKind.wrap .i64 (n1 + x11)).toNat) T.u))) 127) (IntKind.wrap .u64 (IntKind.wrap .i64 (7 * x11))))) then
                  some [T.i .i64 0, T.i .i64 0, T.i .i64 0, T.b false]
                else
                  some [T.i .i64 0, T.i .i64 (intBits .or .i64 x10 (shiftI .shl .i64 (intBits .and .i64 (IntKind.wrap .i64 (asI (l0.getD ((IntKind.wrap .i64 (n1 + x11)).toNat) T.u))) 127) (IntKind.wrap .u64 (IntKind.wrap .i64 (7 * x11))))), T.i .i64 (IntKind.wrap .i64 ((IntKind.wrap .i64 (n1 + x11)) + 1)), T.b true]
            else
              bif iLt 1000000 (intBits .or .i64 x10 (shiftI .shl .i64 (intBits .and .i64 (IntKind.wrap .i64 (asI (l0.getD ((IntKind.wrap .i64 (n1 + x11)).toNat) T.u))) 127) (IntKind.wrap .u64 (IntKind.wrap .i64 (7 * x11))))) then
                some [T.i .i64 0, T.i .i64 0, T.i .i64 0, T.b false]
              else
                some [T.i .i64 0, T.i .i64 (intBits .or .i64 x10 (shiftI .shl .i64 (intBits .and .i64 (IntKind.wrap .i64 (asI (l0.getD ((IntKind.wrap .i64 (n1 + x11)).toNat) T.u))) 127) (IntKind.wrap .u64 (IntKind.wrap .i64 (7 * x11))))), T.i .i64 (IntKind.wrap .i64 ((IntKind.wrap .i64 (n1 + x11)) + 1)), T.b true]
          else none
          else none
        else
          some [T.i .i64 1]
      else
        some [T.i .i64 1]
    else
      some [T.i .i64 1]
  else
    some [T.i .i64 1]
def f126_0_c (l0 : List T) (n1 : Int) (x10 : Int) (x11 : Int) : CSt := ⟨[.ro 0 false [.i .u8] l0, .i .i64 n1, .i .i64 x10, .i .i64 x11], [.dead, .dead]⟩
theorem f126_0_round (c : Orc) (lf : Nat) (l0 : List T) (n1 : Int) (L : CSt → Option (List T)) (x10 : Int) (x11 : Int) :
    roundK c env lf 6 fi126 2 3 [] [0, 1, 7, 8] (x126_3_0) L (f126_0_c l0 n1 x10 x11) = f126_0_s c lf l0 n1 (fun x10 x11 => L (f126_0_c l0 n1 x10 x11)) x10 x11 := by kernel_rfl
def f126_0 (c : Orc) (lf : Nat) (l0 : List T) (n1 : Int) : Nat → Int → Int → Option (List T)
  | 0 => fun _ _ => none
  | n + 1 => fun x10 x11 => f126_0_s c lf l0 n1 (f126_0 c lf l0 n1 n) x10 x11
theorem f126_0_u (c : Orc) (lf : Nat) (l0 : List T) (n1 : Int) (n : Nat) (x10 : Int) (x11 : Int) : f126_0 c lf l0 n1 (n + 1) x10 x11 = f126_0_s c lf l0 n1 (f126_0 c lf l0 n1 n) x10 x11 := rfl
theorem f126_0_eq (c : Orc) (lf : Nat) (l0 : List T) (n1 : Int) (n : Nat) (x10 : Int) (x11 : Int) :
    lpK c env lf 6 fi126 2 3 [] [0, 1, 7, 8] (x126_3_0) n (f126_0_c l0 n1 x10 x11) = f126_0 c lf l0 n1 n x10 x11 := by
  induction n generalizing x10 x11 with
  | zero => rfl
  | succ n ih =>
    refine (f126_0_round c lf l0 n1 _ x10 x11).trans ?_
    have e : (fun x10 x11 => lpK c env lf 6 fi126 2 3 [] [0, 1, 7, 8] (x126_3_0) n (f126_0_c l0 n1 x10 x11)) = f126_0 c lf l0 n1 n := by funext x10 x11; exact ih x10 x11
    show f126_0_s c lf l0 n1 (fun x10 x11 => lpK c env lf 6 fi126 2 3 [] [0, 1, 7, 8] (x126_3_0) n (f126_0_c l0 n1 x10 x11)) x10 x11 = _
    rw [e]; rfl
/-- loop.example/g00285/spec.GetNum -/
def f126_t (c : Orc) (lf : Nat) (lp0 : List T → Int → Int → Int → Option (List T)) (l0 : List T) (n1 : Int) : Option (List T) :=
  (lp0 l0 n1 0 0).bind fun r12 =>
  bif asI (nth r12 0) == 0 then
    some [T.i .i64 (asI (nth r12 1)), T.i .i64 (asI (nth r12 2)), T.b (asB (nth r12 3))]
  else
    some [T.i .i64 0, T.i .i64 0, T.b false]
def f126 (c : Orc) (lf : Nat) (l0 : List T) (n1 : Int) : Option (List T) := f126_t c lf (fun (l0 : List T) (n1 : Int) (x10 : Int) (x11 : Int) => f126_0 c lf l0 n1 lf x10 x11) l0 n1
theorem f126_raw (c : Orc) (lf : Nat) (l0 : List T) (n1 : Int) : funK c env lf 6 fi126 [.sl l0, .i .i64 n1] = f126_t c lf (fun (l0 : List T) (n1 : Int) (x10 : Int) (x11 : Int) => lpK c env lf 6 fi126 2 3 [] [0, 1, 7, 8] (x126_3_0) lf (f126_0_c l0 n1 x10 x11)) l0 n1 := by kernel_rfl
theorem f126_eq (c : Orc) (lf : Nat) (l0 : List T) (n1 : Int) : funK c env lf 6 fi126 [.sl l0, .i .i64 n1] = f126 c lf l0 n1 := by
  refine (f126_raw c lf l0 n1).trans ?_
  have e0 : (fun (l0 : List T) (n1 : Int) (x10 : Int) (x11 : Int) => lpK c env lf 6 fi126 2 3 [] [0, 1, 7, 8] (x126_3_0) lf (f126_0_c l0 n1 x10 x11)) = (fun (l0 : List T) (n1 : Int) (x10 : Int) (x11 : Int) => f126_0 c lf l0 n1 lf x10 x11) := by funext l0 n1 x10 x11; exact f126_0_eq c lf l0 n1 lf x10 x11
  rw [e0]; rfl
/-- loop.example/g00285/spec.l3Num -/
def f75_t (c : Orc) (lf : Nat) (l0_0 : List T) (n0_1 : Int) (b0_2 : Bool) : Option (List T) :=
  (c 126 [T.sl l0_0, T.i .i64 n0_1]).bind fun r13 =>
  bif b0_2 then
    some [T.i .i64 0, T.st [T.sl l0_0, T.i .i64 n0_1, T.b true]]
  else
    bif !(asB (nth r13 2)) then
      some [T.i .i64 0, T.st [T.sl l0_0, T.i .i64 n0_1, T.b true]]
    else
      some [T.i .i64 (asI (nth r13 0)), T.st [T.sl l0_0, T.i .i64 (asI (nth r13 1)), T.b b0_2]]
def f75 (c : Orc) (lf : Nat) (l0_0 : List T) (n0_1 : Int) (b0_2 : Bool) : Option (List T) := f75_t c lf l0_0 n0_1 b0_2
theorem f75_raw (c : Orc) (lf : Nat) (l0_0 : List T) (n0_1 : Int) (b0_2 : Bool) : funK c env lf 6 fi75 [.st [.sl l0_0, .i .i64 n0_1, .b b0_2]] = f75_t c lf l0_0 n0_1 b0_2 := by kernel_rfl
theorem f75_eq (c : Orc) (lf : Nat) (l0_0 : List T) (n0_1 : Int) (b0_2 : Bool) : funK c env lf 6 fi75 [.st [.sl l0_0, .i .i64 n0_1, .b b0_2]] = f75 c lf l0_0 n0_1 b0_2 := by
  refine (f75_raw c lf l0_0 n0_1 b0_2).trans ?_
  rfl
/-- loop.example/g00285/spec.GetText -/
def f139_t (c : Orc) (lf : Nat) (l0 : List T) (n1 : Int) : Option (List T) :=
  (c 126 [T.sl l0, T.i .i64 n1]).bind fun r14 =>
  bif !(asB (nth r14 2)) then
    some [T.s (⟨#[]⟩ : ByteArray), T.i .i64 0, T.b false]
  else
    bif iLt (IntKind.wrap .i64 ((l0.length : Int) - (asI (nth r14 1)))) (asI (nth r14 0)) then
      some [T.s (⟨#[]⟩ : ByteArray), T.i .i64 0, T.b false]
    else
      bif iLe 0 (asI (nth r14 1)) && iLe (asI (nth r14 1)) (IntKind.wrap .i64 ((asI (nth r14 1)) + (asI (nth r14 0)))) && iLe (IntKind.wrap .i64 ((asI (nth r14 1)) + (asI (nth r14 0)))) (l0.length : Int) then
      some [T.s (bytesOf ((l0.drop ((asI (nth r14 1)).toNat)).take (((IntKind.wrap .i64 ((asI (nth r14 1)) + (asI (nth r14 0)))).toNat) - ((asI (nth r14 1)).toNat)))), T.i .i64 (IntKind.wrap .i64 ((asI (nth r14 1)) + (asI (nth r14 0)))), T.b true]
      else none
def f139 (c : Orc) (lf : Nat) (l0 : List T) (n1 : Int) : Option (List T) := f139_t c lf l0 n1
theorem f139_raw (c : Orc) (lf : Nat) (l0 : List T) (n1 : Int) : funK c env lf 6 fi139 [.sl l0, .i .i64 n1] = f139_t c lf l0 n1 := by kernel_rfl
theorem f139_eq (c : Orc) (lf : Nat) (l0 : List T) (n1 : Int) : funK c env lf 6 fi139 [.sl l0, .i .i64 n1] = f139 c lf l0 n1 := by
  refine (f139_raw c lf l0 n1).trans ?_
  rfl
/-- loop.example/g00285/spec.l3Text -/
def f101_t (c : Orc) (lf : Nat) (l0_0 : List T) (n0_1 : Int) (b0_2 : Bool) : Option (List T) :=
  (c 139 [T.sl l0_0, T.i .i64 n0_1]).bind fun r15 =>
  bif b0_2 then
    some [T.s (⟨#[]⟩ : ByteArray), T.st [T.sl l0_0, T.i .i64 n0_1, T.b true]]
  else
    bif !(asB (nth r15 2)) then
      some [T.s (⟨#[]⟩ : ByteArray), T.st [T.sl l0_0, T.i .i64 n0_1, T.b true]]
    else
      some [T.s (asS (nth r15 0)), T.st [T.sl l0_0, T.i .i64 (asI (nth r15 1)), T.b b0_2]]
def f101 (c : Orc) (lf : Nat) (l0_0 : List T) (n0_1 : Int) (b0_2 : Bool) : Option (List T) := f101_t c lf l0_0 n0_1 b0_2
theorem f101_raw (c : Orc) (lf : Nat) (l0_0 : List T) (n0_1 : Int) (b0_2 : Bool) : funK c env lf 6 fi101 [.st [.sl l0_0, .i .i64 n0_1, .b b0_2]] = f101_t c lf l0_0 n0_1 b0_2 := by kernel_rfl
theorem f101_eq (c : Orc) (lf : Nat) (l0_0 : List T) (n0_1 : Int) (b0_2 : Bool) : funK c env lf 6 fi101 [.st [.sl l0_0, .i .i64 n0_1, .b b0_2]] = f101 c lf l0_0 n0_1 b0_2 := by
  refine (f101_raw c lf l0_0 n0_1 b0_2).trans ?_
  rfl
/-- loop.example/g00285/spec.l1In -/
def f77_t (c : Orc) (lf : Nat) (n0 : Int) (n1 : Int) (n2 : Int) : Option (List T) :=
  bif iLe n1 n0 then
    some [T.b (iLe n0 n2)]
  else
    some [T.b false]
def f77 (c : Orc) (lf : Nat) (n0 : Int) (n1 : Int) (n2 : Int) : Option (List T) := f77_t c lf n0 n1 n2
theorem f77_raw (c : Orc) (lf : Nat) (n0 : Int) (n1 : Int) (n2 : Int) : funK c env lf 6 fi77 [.i .i64 n0, .i .i64 n1, .i .i64 n2] = f77_t c lf n0 n1 n2 := by kernel_rfl
theorem f77_eq (c : Orc) (lf : Nat) (n0 : Int) (n1 : Int) (n2 : Int) : funK c env lf 6 fi77 [.i .i64 n0, .i .i64 n1, .i .i64 n2] = f77 c lf n0 n1 n2 := by
  refine (f77_raw c lf n0 n1 n2).trans ?_
  rfl
/-- loop.example/g00285/spec.NameOk, the loop at region 2. -/
def f109_0_s (c : Orc) (lf : Nat) (s0 : ByteArray) (L : Int → Option (List T)) (x25 : Int) : Option (List T) :=
  bif iLt x25 (s0.size : Int) then
    bif inR x25 s0.size then
    (c 77 [T.i .i64 (IntKind.wrap .i64 (byteAt s0 x25)), T.i .i64 97, T.i .i64 122]).bind fun r26 =>
    bif !(asB (nth r26 0)) then
      (c 77 [T.i .i64 (IntKind.wrap .i64 (byteAt s0 x25)), T.i .i64 48, T.i .i64 57]).bind fun r27 =>
      bif !(asB (nth r27 0)) then
        bif (IntKind.wrap .i64 (byteAt s0 x25)) != 95 then
          bif (IntKind.wrap .i64 (byteAt s0 x25)) != 45 then
            bif (IntKind.wrap .i64 (byteAt s0 x25)) != 46 then
              some [T.i .i64 0, T.b false]
            else
              L (IntKind.wrap .i64 (x25 + 1))
          else
            L (IntKind.wrap .i64 (x25 + 1))
        else
          L (IntKind.wrap .i64 (x25 + 1))
      else
        L (IntKind.wrap .i64 (x25 + 1))
    else
      L (IntKind.wrap .i64 (x25 + 1))
    else none
  else
    some [T.i .i64 1, T.s s0]
def f109_0_c (s0 : ByteArray) (x25 : Int) : CSt := ⟨[.s s0, .i .i64 x25], [.dead]⟩
theorem f109_0_round (c : Orc) (lf : Nat) (s0 : ByteArray) (L : CSt → Option (List T)) (x25 : Int) :
    roundK c env lf 6 fi109 1 2 [] [0, 3] (x109_2_0) L (f109_0_c s0 x25) = f109_0_s c lf s0 (fun x25 => L (f109_0_c s0 x25)) x25 := by kernel_rfl
def f109_0 (c : Orc) (lf : Nat) (s0 : ByteArray) : Nat → Int → Option (List T)
  | 0 => fun _ => none
  | n + 1 => fun x25 => f109_0_s c lf s0 (f109_0 c lf s0 n) x25
theorem f109_0_u (c : Orc) (lf : Nat) (s0 : ByteArray) (n : Nat) (x25 : Int) : f109_0 c lf s0 (n + 1) x25 = f109_0_s c lf s0 (f109_0 c lf s0 n) x25 := rfl
theorem f109_0_eq (c : Orc) (lf : Nat) (s0 : ByteArray) (n : Nat) (x25 : Int) :
    lpK c env lf 6 fi109 1 2 [] [0, 3] (x109_2_0) n (f109_0_c s0 x25) = f109_0 c lf s0 n x25 := by
  induction n generalizing x25 with
  | zero => rfl
  | succ n ih =>
    refine (f109_0_round c lf s0 _ x25).trans ?_
    have e : (fun x25 => lpK c env lf 6 fi109 1 2 [] [0, 3] (x109_2_0) n (f109_0_c s0 x25)) = f109_0 c lf s0 n := by funext x25; exact ih x25
    show f109_0_s c lf s0 (fun x25 => lpK c env lf 6 fi109 1 2 [] [0, 3] (x109_2_0) n (f109_0_c s0 x25)) x25 = _
    rw [e]; rfl
/-- loop.example/g00285/spec.NameOk -/
def f109_t (c : Orc) (lf : Nat) (lp0 : ByteArray → Int → Option (List T)) (s0 : ByteArray) : Option (List T) :=
  (lp0 s0 0).bind fun r28 =>
  bif asI (nth r28 0) == 0 then
    some [T.b (asB (nth r28 1))]
  else
    (c 77 [T.i .i64 ((asS (nth r28 1)).size : Int), T.i .i64 1, T.i .i64 14]).bind fun r29 =>
    bif asB (nth r29 0) then
      bif !((asS (nth r28 1)).toList == (⟨#[46]⟩ : ByteArray).toList) then
        some [T.b (!((asS (nth r28 1)).toList == (⟨#[46, 46]⟩ : ByteArray).toList))]
      else
        some [T.b false]
    else
      some [T.b false]
def f109 (c : Orc) (lf : Nat) (s0 : ByteArray) : Option (List T) := f109_t c lf (fun (s0 : ByteArray) (x25 : Int) => f109_0 c lf s0 lf x25) s0
theorem f109_raw (c : Orc) (lf : Nat) (s0 : ByteArray) : funK c env lf 6 fi109 [.s s0] = f109_t c lf (fun (s0 : ByteArray) (x25 : Int) => lpK c env lf 6 fi109 1 2 [] [0, 3] (x109_2_0) lf (f109_0_c s0 x25)) s0 := by kernel_rfl
theorem f109_eq (c : Orc) (lf : Nat) (s0 : ByteArray) : funK c env lf 6 fi109 [.s s0] = f109 c lf s0 := by
  refine (f109_raw c lf s0).trans ?_
  have e0 : (fun (s0 : ByteArray) (x25 : Int) => lpK c env lf 6 fi109 1 2 [] [0, 3] (x109_2_0) lf (f109_0_c s0 x25)) = (fun (s0 : ByteArray) (x25 : Int) => f109_0 c lf s0 lf x25) := by funext s0 x25; exact f109_0_eq c lf s0 lf x25
  rw [e0]; rfl
/-- loop.example/g00285/spec.TableOk, the loop at region 8. -/
def f53_1_s (c : Orc) (lf : Nat) (x50 : Int) (x51 : Int) (x52 : List T) (L : Int → Option (List T)) (x56 : Int) : Option (List T) :=
  bif iLt x56 x50 then
    bif inR x56 x52.length then
    bif (asS (T.cell (x52.getD x56.toNat T.u) 1)).toList == (asS (T.cell (x52.getD x50.toNat T.u) 1)).toList then
      some [T.i .i64 1, T.b false]
    else
      L (IntKind.wrap .i64 (x56 + 1))
    else none
  else
    some [T.i .i64 0, T.i .i64 x50, T.i .i64 x51, T.sl x52]
def f53_1_c (x50 : Int) (x51 : Int) (x52 : List T) (x56 : Int) : CSt := ⟨[.bp 2 0, .i .i64 x50, .bp 3 0, .i .i64 x56], [.dead, .dead, .box [.i .i64 x51, .ro 0 true [.i .i64, .s, .b, .i .i64, .i .i64] x52], .box [.i .i64 (asI (T.cell (x52.getD x50.toNat T.u) 0)), .s (asS (T.cell (x52.getD x50.toNat T.u) 1)), .b (asB (T.cell (x52.getD x50.toNat T.u) 2)), .i .i64 (asI (T.cell (x52.getD x50.toNat T.u) 3)), .i .i64 (asI (T.cell (x52.getD x50.toNat T.u) 4))]]⟩
theorem f53_1_round (c : Orc) (lf : Nat) (x50 : Int) (x51 : Int) (x52 : List T) (L : CSt → Option (List T)) (x56 : Int) :
    roundK c env lf 6 fi53 2 8 [] [1, 3, 4, 5] (x53_8_0) L (f53_1_c x50 x51 x52 x56) = f53_1_s c lf x50 x51 x52 (fun x56 => L (f53_1_c x50 x51 x52 x56)) x56 := by kernel_rfl
def f53_1 (c : Orc) (lf : Nat) (x50 : Int) (x51 : Int) (x52 : List T) : Nat → Int → Option (List T)
  | 0 => fun _ => none
  | n + 1 => fun x56 => f53_1_s c lf x50 x51 x52 (f53_1 c lf x50 x51 x52 n) x56
theorem f53_1_u (c : Orc) (lf : Nat) (x50 : Int) (x51 : Int) (x52 : List T) (n : Nat) (x56 : Int) : f53_1 c lf x50 x51 x52 (n + 1) x56 = f53_1_s c lf x50 x51 x52 (f53_1 c lf x50 x51 x52 n) x56 := rfl
theorem f53_1_eq (c : Orc) (lf : Nat) (x50 : Int) (x51 : Int) (x52 : List T) (n : Nat) (x56 : Int) :
    lpK c env lf 6 fi53 2 8 [] [1, 3, 4, 5] (x53_8_0) n (f53_1_c x50 x51 x52 x56) = f53_1 c lf x50 x51 x52 n x56 := by
  induction n generalizing x56 with
  | zero => rfl
  | succ n ih =>
    refine (f53_1_round c lf x50 x51 x52 _ x56).trans ?_
    have e : (fun x56 => lpK c env lf 6 fi53 2 8 [] [1, 3, 4, 5] (x53_8_0) n (f53_1_c x50 x51 x52 x56)) = f53_1 c lf x50 x51 x52 n := by funext x56; exact ih x56
    show f53_1_s c lf x50 x51 x52 (fun x56 => lpK c env lf 6 fi53 2 8 [] [1, 3, 4, 5] (x53_8_0) n (f53_1_c x50 x51 x52 x56)) x56 = _
    rw [e]; rfl
/-- loop.example/g00285/spec.TableOk, the loop at region 8. -/
def f53_2_s (c : Orc) (lf : Nat) (x50 : Int) (x51 : Int) (x52 : List T) (L : Int → Option (List T)) (x58 : Int) : Option (List T) :=
  bif iLt x58 x50 then
    bif inR x58 x52.length then
    bif (asS (T.cell (x52.getD x58.toNat T.u) 1)).toList == (asS (T.cell (x52.getD x50.toNat T.u) 1)).toList then
      some [T.i .i64 1, T.b false]
    else
      L (IntKind.wrap .i64 (x58 + 1))
    else none
  else
    some [T.i .i64 0, T.i .i64 x50, T.i .i64 x51, T.sl x52]
def f53_2_c (x50 : Int) (x51 : Int) (x52 : List T) (x58 : Int) : CSt := ⟨[.bp 2 0, .i .i64 x50, .bp 3 0, .i .i64 x58], [.dead, .dead, .box [.i .i64 x51, .ro 0 true [.i .i64, .s, .b, .i .i64, .i .i64] x52], .box [.i .i64 (asI (T.cell (x52.getD x50.toNat T.u) 0)), .s (asS (T.cell (x52.getD x50.toNat T.u) 1)), .b (asB (T.cell (x52.getD x50.toNat T.u) 2)), .i .i64 (asI (T.cell (x52.getD x50.toNat T.u) 3)), .i .i64 (asI (T.cell (x52.getD x50.toNat T.u) 4))]]⟩
theorem f53_2_round (c : Orc) (lf : Nat) (x50 : Int) (x51 : Int) (x52 : List T) (L : CSt → Option (List T)) (x58 : Int) :
    roundK c env lf 6 fi53 2 8 [] [1, 3, 4, 5] (x53_8_0) L (f53_2_c x50 x51 x52 x58) = f53_2_s c lf x50 x51 x52 (fun x58 => L (f53_2_c x50 x51 x52 x58)) x58 := by kernel_rfl
def f53_2 (c : Orc) (lf : Nat) (x50 : Int) (x51 : Int) (x52 : List T) : Nat → Int → Option (List T)
  | 0 => fun _ => none
  | n + 1 => fun x58 => f53_2_s c lf x50 x51 x52 (f53_2 c lf x50 x51 x52 n) x58
theorem f53_2_u (c : Orc) (lf : Nat) (x50 : Int) (x51 : Int) (x52 : List T) (n : Nat) (x58 : Int) : f53_2 c lf x50 x51 x52 (n + 1) x58 = f53_2_s c lf x50 x51 x52 (f53_2 c lf x50 x51 x52 n) x58 := rfl
theorem f53_2_eq (c : Orc) (lf : Nat) (x50 : Int) (x51 : Int) (x52 : List T) (n : Nat) (x58 : Int) :
    lpK c env lf 6 fi53 2 8 [] [1, 3, 4, 5] (x53_8_0) n (f53_2_c x50 x51 x52 x58) = f53_2 c lf x50 x51 x52 n x58 := by
  induction n generalizing x58 with
  | zero => rfl
  | succ n ih =>
    refine (f53_2_round c lf x50 x51 x52 _ x58).trans ?_
    have e : (fun x58 => lpK c env lf 6 fi53 2 8 [] [1, 3, 4, 5] (x53_8_0) n (f53_2_c x50 x51 x52 x58)) = f53_2 c lf x50 x51 x52 n := by funext x58; exact ih x58
    show f53_2_s c lf x50 x51 x52 (fun x58 => lpK c env lf 6 fi53 2 8 [] [1, 3, 4, 5] (x53_8_0) n (f53_2_c x50 x51 x52 x58)) x58 = _
    rw [e]; rfl
/-- loop.example/g00285/spec.TableOk, the loop at region 2. -/
def f53_0_s (c : Orc) (lf : Nat) (L : Int → Int → List T → Option (List T)) (lp0 : Int → Int → List T → Int → Option (List T)) (lp1 : Int → Int → List T → Int → Option (List T)) (x50 : Int) (x51 : Int) (x52 : List T) : Option (List T) :=
  bif iLt x50 (x52.length : Int) then
    bif inR x50 x52.length then
    bif iLt (asI (T.cell (x52.getD x50.toNat T.u) 0)) 1 then
      some [T.i .i64 0, T.b false]
    else
      bif iLe x51 (asI (T.cell (x52.getD x50.toNat T.u) 0)) then
        some [T.i .i64 0, T.b false]
      else
        (c 109 [T.s (asS (T.cell (x52.getD x50.toNat T.u) 1))]).bind fun r53 =>
        bif !(asB (nth r53 0)) then
          some [T.i .i64 0, T.b false]
        else
          (c 77 [T.i .i64 (asI (T.cell (x52.getD x50.toNat T.u) 3)), T.i .i64 32, T.i .i64 4000]).bind fun r54 =>
          bif !(asB (nth r54 0)) then
            some [T.i .i64 0, T.b false]
          else
            (c 77 [T.i .i64 (asI (T.cell (x52.getD x50.toNat T.u) 4)), T.i .i64 0, T.i .i64 191]).bind fun r55 =>
            bif !(asB (nth r55 0)) then
              some [T.i .i64 0, T.b false]
            else
              bif iLt 0 x50 then
                bif inR (IntKind.wrap .i64 (x50 - 1)) x52.length then
                bif iLe (asI (T.cell (x52.getD x50.toNat T.u) 0)) (asI (T.cell (x52.getD ((IntKind.wrap .i64 (x50 - 1)).toNat) T.u) 0)) then
                  some [T.i .i64 0, T.b false]
                else
                  (lp0 x50 x51 x52 0).bind fun r57 =>
                  bif asI (nth r57 0) == 0 then
                    L (IntKind.wrap .i64 ((asI (nth r57 1)) + 1)) (asI (nth r57 2)) (asL (nth r57 3))
                  else
                    some [T.i .i64 0, T.b (asB (nth r57 1))]
                else none
              else
                (lp1 x50 x51 x52 0).bind fun r59 =>
                bif asI (nth r59 0) == 0 then
                  L (IntKind.wrap .i64 ((asI (nth r59 1)) + 1)) (asI (nth r59 2)) (asL (nth r59 3))
                else
                  some [T.i .i64 0, T.b (asB (nth r59 1))]
    else none
  else
    some [T.i .i64 1, T.i .i64 x51, T.sl x52]
def f53_0_c (x50 : Int) (x51 : Int) (x52 : List T) : CSt := ⟨[.bp 2 0, .i .i64 x50], [.dead, .dead, .box [.i .i64 x51, .ro 0 true [.i .i64, .s, .b, .i .i64, .i .i64] x52]]⟩
theorem f53_0_round (c : Orc) (lf : Nat) (L : CSt → Option (List T)) (x50 : Int) (x51 : Int) (x52 : List T) :
    roundK c env lf 6 fi53 2 2 [] [1, 3] (x53_2_0) L (f53_0_c x50 x51 x52) = f53_0_s c lf (fun x50 x51 x52 => L (f53_0_c x50 x51 x52)) (fun (x50 : Int) (x51 : Int) (x52 : List T) (x56 : Int) => lpK c env lf 6 fi53 2 8 [] [1, 3, 4, 5] (x53_8_0) lf (f53_1_c x50 x51 x52 x56)) (fun (x50 : Int) (x51 : Int) (x52 : List T) (x58 : Int) => lpK c env lf 6 fi53 2 8 [] [1, 3, 4, 5] (x53_8_0) lf (f53_2_c x50 x51 x52 x58)) x50 x51 x52 := by kernel_rfl
def f53_0 (c : Orc) (lf : Nat) : Nat → Int → Int → List T → Option (List T)
  | 0 => fun _ _ _ => none
  | n + 1 => fun x50 x51 x52 => f53_0_s c lf (f53_0 c lf n) (fun (x50 : Int) (x51 : Int) (x52 : List T) (x56 : Int) => f53_1 c lf x50 x51 x52 lf x56) (fun (x50 : Int) (x51 : Int) (x52 : List T) (x58 : Int) => f53_2 c lf x50 x51 x52 lf x58) x50 x51 x52
theorem f53_0_u (c : Orc) (lf : Nat) (n : Nat) (x50 : Int) (x51 : Int) (x52 : List T) : f53_0 c lf (n + 1) x50 x51 x52 = f53_0_s c lf (f53_0 c lf n) (fun (x50 : Int) (x51 : Int) (x52 : List T) (x56 : Int) => f53_1 c lf x50 x51 x52 lf x56) (fun (x50 : Int) (x51 : Int) (x52 : List T) (x58 : Int) => f53_2 c lf x50 x51 x52 lf x58) x50 x51 x52 := rfl
theorem f53_0_eq (c : Orc) (lf : Nat) (n : Nat) (x50 : Int) (x51 : Int) (x52 : List T) :
    lpK c env lf 6 fi53 2 2 [] [1, 3] (x53_2_0) n (f53_0_c x50 x51 x52) = f53_0 c lf n x50 x51 x52 := by
  induction n generalizing x50 x51 x52 with
  | zero => rfl
  | succ n ih =>
    refine (f53_0_round c lf _ x50 x51 x52).trans ?_
    have e : (fun x50 x51 x52 => lpK c env lf 6 fi53 2 2 [] [1, 3] (x53_2_0) n (f53_0_c x50 x51 x52)) = f53_0 c lf n := by funext x50 x51 x52; exact ih x50 x51 x52
    have e0 : (fun (x50 : Int) (x51 : Int) (x52 : List T) (x56 : Int) => lpK c env lf 6 fi53 2 8 [] [1, 3, 4, 5] (x53_8_0) lf (f53_1_c x50 x51 x52 x56)) = (fun (x50 : Int) (x51 : Int) (x52 : List T) (x56 : Int) => f53_1 c lf x50 x51 x52 lf x56) := by funext x50 x51 x52 x56; exact f53_1_eq c lf x50 x51 x52 lf x56
    have e1 : (fun (x50 : Int) (x51 : Int) (x52 : List T) (x58 : Int) => lpK c env lf 6 fi53 2 8 [] [1, 3, 4, 5] (x53_8_0) lf (f53_2_c x50 x51 x52 x58)) = (fun (x50 : Int) (x51 : Int) (x52 : List T) (x58 : Int) => f53_2 c lf x50 x51 x52 lf x58) := by funext x50 x51 x52 x58; exact f53_2_eq c lf x50 x51 x52 lf x58
    show f53_0_s c lf (fun x50 x51 x52 => lpK c env lf 6 fi53 2 2 [] [1, 3] (x53_2_0) n (f53_0_c x50 x51 x52)) (fun (x50 : Int) (x51 : Int) (x52 : List T) (x56 : Int) => lpK c env lf 6 fi53 2 8 [] [1, 3, 4, 5] (x53_8_0) lf (f53_1_c x50 x51 x52 x56)) (fun (x50 : Int) (x51 : Int) (x52 : List T) (x58 : Int) => lpK c env lf 6 fi53 2 8 [] [1, 3, 4, 5] (x53_8_0) lf (f53_2_c x50 x51 x52 x58)) x50 x51 x52 = _
    rw [e, e0, e1]; rfl
/-- loop.example/g00285/spec.TableOk -/
def f53_t (c : Orc) (lf : Nat) (lp0 : Int → Int → List T → Option (List T)) (n0_0 : Int) (l0_1 : List T) : Option (List T) :=
  (lp0 0 n0_0 l0_1).bind fun r60 =>
  bif asI (nth r60 0) == 0 then
    some [T.b (asB (nth r60 1))]
  else
    bif iLe ((asL (nth r60 2)).length : Int) 6 then
      (c 77 [T.i .i64 (asI (nth r60 1)), T.i .i64 1, T.i .i64 99]).bind fun r61 =>
      some [T.b (asB (nth r61 0))]
    else
      some [T.b false]
def f53 (c : Orc) (lf : Nat) (n0_0 : Int) (l0_1 : List T) : Option (List T) := f53_t c lf (fun (x50 : Int) (x51 : Int) (x52 : List T) => f53_0 c lf lf x50 x51 x52) n0_0 l0_1
theorem f53_raw (c : Orc) (lf : Nat) (n0_0 : Int) (l0_1 : List T) : funK c env lf 6 fi53 [.st [.i .i64 n0_0, .sl l0_1]] = f53_t c lf (fun (x50 : Int) (x51 : Int) (x52 : List T) => lpK c env lf 6 fi53 2 2 [] [1, 3] (x53_2_0) lf (f53_0_c x50 x51 x52)) n0_0 l0_1 := by kernel_rfl
theorem f53_eq (c : Orc) (lf : Nat) (n0_0 : Int) (l0_1 : List T) : funK c env lf 6 fi53 [.st [.i .i64 n0_0, .sl l0_1]] = f53 c lf n0_0 l0_1 := by
  refine (f53_raw c lf n0_0 l0_1).trans ?_
  have e0 : (fun (x50 : Int) (x51 : Int) (x52 : List T) => lpK c env lf 6 fi53 2 2 [] [1, 3] (x53_2_0) lf (f53_0_c x50 x51 x52)) = (fun (x50 : Int) (x51 : Int) (x52 : List T) => f53_0 c lf lf x50 x51 x52) := by funext x50 x51 x52; exact f53_0_eq c lf lf x50 x51 x52
  rw [e0]; rfl
/-- loop.example/g00285/spec.GetTable, the loop at region 5. -/
def f44_0_s (c : Orc) (lf : Nat) (l0 : List T) (r84 : List T) (r85 : List T) (L : Int → Int → Bool → List T → Option (List T)) (x93 : Int) (x94 : Int) (x95 : Bool) (x96 : List T) : Option (List T) :=
  bif iLt x93 (asI (nth r85 0)) then
    bif iLe x93 6 then
      bif !x95 then
        (c 75 [T.st [T.sl l0, T.i .i64 x94, T.b x95]]).bind fun r97 =>
        (c 101 [T.st [T.sl l0, T.i .i64 (asI (T.cell (nth r97 1) 1)), T.b (asB (T.cell (nth r97 1) 2))]]).bind fun r98 =>
        (c 75 [T.st [T.sl l0, T.i .i64 (asI (T.cell (nth r98 1) 1)), T.b (asB (T.cell (nth r98 1) 2))]]).bind fun r99 =>
        bif asB (T.cell (nth r99 1) 2) then
          (c 75 [T.st [T.sl l0, T.i .i64 (asI (T.cell (nth r99 1) 1)), T.b true]]).bind fun r100 =>
          (c 75 [T.st [T.sl l0, T.i .i64 (asI (T.cell (nth r100 1) 1)), T.b (asB (T.cell (nth r100 1) 2))]]).bind fun r101 =>
          bif nLe (x96.length + ([T.st [T.i .i64 (asI (nth r97 0)), T.s (asS (nth r98 0)), T.b ((asI (nth r99 0)) == 1), T.i .i64 (asI (nth r100 0)), T.i .i64 (asI (nth r101 0))]] : List T).length) LIM then
          L (IntKind.wrap .i64 (x93 + 1)) (asI (T.cell (nth r101 1) 1)) (asB (T.cell (nth r101 1) 2)) (x96 ++ ([T.st [T.i .i64 (asI (nth r97 0)), T.s (asS (nth r98 0)), T.b ((asI (nth r99 0)) == 1), T.i .i64 (asI (nth r100 0)), T.i .i64 (asI (nth r101 0))]] : List T))
          else none
        else
          (c 75 [T.st [T.sl l0, T.i .i64 (asI (T.cell (nth r99 1) 1)), T.b (iLt 1 (asI (nth r99 0)))]]).bind fun r102 =>
          (c 75 [T.st [T.sl l0, T.i .i64 (asI (T.cell (nth r102 1) 1)), T.b (asB (T.cell (nth r102 1) 2))]]).bind fun r103 =>
          bif nLe (x96.length + ([T.st [T.i .i64 (asI (nth r97 0)), T.s (asS (nth r98 0)), T.b ((asI (nth r99 0)) == 1), T.i .i64 (asI (nth r102 0)), T.i .i64 (asI (nth r103 0))]] : List T).length) LIM then
          L (IntKind.wrap .i64 (x93 + 1)) (asI (T.cell (nth r103 1) 1)) (asB (T.cell (nth r103 1) 2)) (x96 ++ ([T.st [T.i .i64 (asI (nth r97 0)), T.s (asS (nth r98 0)), T.b ((asI (nth r99 0)) == 1), T.i .i64 (asI (nth r102 0)), T.i .i64 (asI (nth r103 0))]] : List T))
          else none
      else
        some [T.i .i64 0, T.sl l0, T.i .i64 (asI (nth r85 0)), T.i .i64 0, T.sl ([] : List T), T.sl l0, T.i .i64 x94, T.b x95, T.i .i64 (asI (nth r84 0)), T.sl x96]
    else
      some [T.i .i64 0, T.sl l0, T.i .i64 (asI (nth r85 0)), T.i .i64 0, T.sl ([] : List T), T.sl l0, T.i .i64 x94, T.b x95, T.i .i64 (asI (nth r84 0)), T.sl x96]
  else
    some [T.i .i64 0, T.sl l0, T.i .i64 (asI (nth r85 0)), T.i .i64 0, T.sl ([] : List T), T.sl l0, T.i .i64 x94, T.b x95, T.i .i64 (asI (nth r84 0)), T.sl x96]
def f44_0_c (l0 : List T) (r84 : List T) (r85 : List T) (x93 : Int) (x94 : Int) (x95 : Bool) (x96 : List T) : CSt := ⟨[.ro 0 false [.i .u8] l0, .bp 1 0, .bp 3 0, .bp 4 0, .i .i64 (asI (nth r85 0)), .i .i64 x93], [.dead, .box [.i .i64 0, .rf 2 [] 0 none], .row true [.i .i64, .s, .b, .i .i64, .i .i64] ([] : List T) 0 false, .box [.ro 0 false [.i .u8] l0, .i .i64 x94, .b x95], .box [.i .i64 (asI (nth r84 0)), .rf 5 [] 0 none], .row true [.i .i64, .s, .b, .i .i64, .i .i64] x96 0 false]⟩
theorem f44_0_round (c : Orc) (lf : Nat) (l0 : List T) (r84 : List T) (r85 : List T) (L : CSt → Option (List T)) (x93 : Int) (x94 : Int) (x95 : Bool) (x96 : List T) :
    roundK c env lf 6 fi44 1 5 [] [0, 2, 4, 5, 6, 7] (x44_5_0) L (f44_0_c l0 r84 r85 x93 x94 x95 x96) = f44_0_s c lf l0 r84 r85 (fun x93 x94 x95 x96 => L (f44_0_c l0 r84 r85 x93 x94 x95 x96)) x93 x94 x95 x96 := by kernel_rfl
def f44_0 (c : Orc) (lf : Nat) (l0 : List T) (r84 : List T) (r85 : List T) : Nat → Int → Int → Bool → List T → Option (List T)
  | 0 => fun _ _ _ _ => none
  | n + 1 => fun x93 x94 x95 x96 => f44_0_s c lf l0 r84 r85 (f44_0 c lf l0 r84 r85 n) x93 x94 x95 x96
theorem f44_0_u (c : Orc) (lf : Nat) (l0 : List T) (r84 : List T) (r85 : List T) (n : Nat) (x93 : Int) (x94 : Int) (x95 : Bool) (x96 : List T) : f44_0 c lf l0 r84 r85 (n + 1) x93 x94 x95 x96 = f44_0_s c lf l0 r84 r85 (f44_0 c lf l0 r84 r85 n) x93 x94 x95 x96 := rfl
theorem f44_0_eq (c : Orc) (lf : Nat) (l0 : List T) (r84 : List T) (r85 : List T) (n : Nat) (x93 : Int) (x94 : Int) (x95 : Bool) (x96 : List T) :
    lpK c env lf 6 fi44 1 5 [] [0, 2, 4, 5, 6, 7] (x44_5_0) n (f44_0_c l0 r84 r85 x93 x94 x95 x96) = f44_0 c lf l0 r84 r85 n x93 x94 x95 x96 := by
  induction n generalizing x93 x94 x95 x96 with
  | zero => rfl
  | succ n ih =>
    refine (f44_0_round c lf l0 r84 r85 _ x93 x94 x95 x96).trans ?_
    have e : (fun x93 x94 x95 x96 => lpK c env lf 6 fi44 1 5 [] [0, 2, 4, 5, 6, 7] (x44_5_0) n (f44_0_c l0 r84 r85 x93 x94 x95 x96)) = f44_0 c lf l0 r84 r85 n := by funext x93 x94 x95 x96; exact ih x93 x94 x95 x96
    show f44_0_s c lf l0 r84 r85 (fun x93 x94 x95 x96 => lpK c env lf 6 fi44 1 5 [] [0, 2, 4, 5, 6, 7] (x44_5_0) n (f44_0_c l0 r84 r85 x93 x94 x95 x96)) x93 x94 x95 x96 = _
    rw [e]; rfl
/-- loop.example/g00285/spec.GetTable -/
def f44_t (c : Orc) (lf : Nat) (lp0 : List T → List T → List T → Int → Int → Bool → List T → Option (List T)) (l0 : List T) : Option (List T) :=
  (c 75 [T.st [T.sl l0, T.i .i64 0, T.b false]]).bind fun r84 =>
  (c 75 [T.st [T.sl l0, T.i .i64 (asI (T.cell (nth r84 1) 1)), T.b (asB (T.cell (nth r84 1) 2))]]).bind fun r85 =>
  (lp0 l0 r84 r85 0 (asI (T.cell (nth r85 1) 1)) (asB (T.cell (nth r85 1) 2)) ([] : List T)).bind fun r104 =>
  bif asB (nth r104 7) then
    some [T.st [T.i .i64 0, T.sl []], T.b false]
  else
    bif (asI (nth r104 6)) != ((asL (nth r104 1)).length : Int) then
      some [T.st [T.i .i64 0, T.sl []], T.b false]
    else
      bif (asI (nth r104 2)) != ((asL (nth r104 9)).length : Int) then
        some [T.st [T.i .i64 0, T.sl []], T.b false]
      else
        (c 53 [T.st [T.i .i64 (asI (nth r104 8)), T.sl (asL (nth r104 9))]]).bind fun r105 =>
        bif !(asB (nth r105 0)) then
          some [T.st [T.i .i64 0, T.sl []], T.b false]
        else
          some [T.st [T.i .i64 (asI (nth r104 8)), T.sl (asL (nth r104 9))], T.b true]
def f44 (c : Orc) (lf : Nat) (l0 : List T) : Option (List T) := f44_t c lf (fun (l0 : List T) (r84 : List T) (r85 : List T) (x93 : Int) (x94 : Int) (x95 : Bool) (x96 : List T) => f44_0 c lf l0 r84 r85 lf x93 x94 x95 x96) l0
theorem f44_raw (c : Orc) (lf : Nat) (l0 : List T) : funK c env lf 6 fi44 [.sl l0] = f44_t c lf (fun (l0 : List T) (r84 : List T) (r85 : List T) (x93 : Int) (x94 : Int) (x95 : Bool) (x96 : List T) => lpK c env lf 6 fi44 1 5 [] [0, 2, 4, 5, 6, 7] (x44_5_0) lf (f44_0_c l0 r84 r85 x93 x94 x95 x96)) l0 := by kernel_rfl
theorem f44_eq (c : Orc) (lf : Nat) (l0 : List T) : funK c env lf 6 fi44 [.sl l0] = f44 c lf l0 := by
  refine (f44_raw c lf l0).trans ?_
  have e0 : (fun (l0 : List T) (r84 : List T) (r85 : List T) (x93 : Int) (x94 : Int) (x95 : Bool) (x96 : List T) => lpK c env lf 6 fi44 1 5 [] [0, 2, 4, 5, 6, 7] (x44_5_0) lf (f44_0_c l0 r84 r85 x93 x94 x95 x96)) = (fun (l0 : List T) (r84 : List T) (r85 : List T) (x93 : Int) (x94 : Int) (x95 : Bool) (x96 : List T) => f44_0 c lf l0 r84 r85 lf x93 x94 x95 x96) := by funext l0 r84 r85 x93 x94 x95 x96; exact f44_0_eq c lf l0 r84 r85 lf x93 x94 x95 x96
  rw [e0]; rfl
/-- loop.example/g00285/impl.GetNum, the loop at region 6. -/
def f125_0_s (c : Orc) (lf : Nat) (l0 : List T) (n1 : Int) (L : Int → Int → Int → Option (List T)) (x110 : Int) (x111 : Int) (x112 : Int) : Option (List T) :=
  bif iLt x112 3 then
    bif iLt n1 (IntKind.wrap .i64 ((l0.length : Int) - x112)) then
      bif inR (IntKind.wrap .i64 (n1 + x112)) l0.length then
      bif iLe 128 (IntKind.wrap .i64 (asI (l0.getD ((IntKind.wrap .i64 (n1 + x112)).toNat) T.u))) then
        L (IntKind.wrap .i64 (x110 + (IntKind.wrap .i64 (((IntKind.wrap .i64 (asI (l0.getD ((IntKind.wrap .i64 (n1 + x112)).toNat) T.u))).tmod 128) * x111)))) (IntKind.wrap .i64 (x111 * 128)) (IntKind.wrap .i64 (x112 + 1))
      else
        bif iLt 1000000 (IntKind.wrap .i64 (x110 + (IntKind.wrap .i64 (((IntKind.wrap .i64 (asI (l0.getD ((IntKind.wrap .i64 (n1 + x112)).toNat) T.u))).tmod 128) * x111)))) then
          some [T.i .i64 0]
        else
          bif (IntKind.wrap .i64 (asI (l0.getD ((IntKind.wrap .i64 (n1 + x112)).toNat) T.u))) == 0 then
            bif iLt 0 x112 then
              some [T.i .i64 0]
            else
              some [T.i .i64 1, T.i .i64 (IntKind.wrap .i64 (x110 + (IntKind.wrap .i64 (((IntKind.wrap .i64 (asI (l0.getD ((IntKind.wrap .i64 (n1 + x112)).toNat) T.u))).tmod 128) * x111)))), T.i .i64 (IntKind.wrap .i64 ((IntKind.wrap .i64 (n1 + x112)) + 1)), T.b true]
          else
            some [T.i .i64 1, T.i .i64 (IntKind.wrap .i64 (x110 + (IntKind.wrap .i64 (((IntKind.wrap .i64 (asI (l0.getD ((IntKind.wrap .i64 (n1 + x112)).toNat) T.u))).tmod 128) * x111)))), T.i .i64 (IntKind.wrap .i64 ((IntKind.wrap .i64 (n1 + x112)) + 1)), T.b true]
      else none
    else
      some [T.i .i64 0]
  else
    some [T.i .i64 0]
def f125_0_c (l0 : List T) (n1 : Int) (x110 : Int) (x111 : Int) (x112 : Int) : CSt := ⟨[.ro 0 false [.i .u8] l0, .i .i64 n1, .i .i64 x110, .i .i64 x111, .i .i64 x112], [.dead, .dead]⟩
theorem f125_0_round (c : Orc) (lf : Nat) (l0 : List T) (n1 : Int) (L : CSt → Option (List T)) (x110 : Int) (x111 : Int) (x112 : Int) :
    roundK c env lf 6 fi125 2 6 [] [0, 1, 7, 8, 9] (x125_6_0) L (f125_0_c l0 n1 x110 x111 x112) = f125_0_s c lf l0 n1 (fun x110 x111 x112 => L (f125_0_c l0 n1 x110 x111 x112)) x110 x111 x112 := by kernel_rfl
def f125_0 (c : Orc) (lf : Nat) (l0 : List T) (n1 : Int) : Nat → Int → Int → Int → Option (List T)
  | 0 => fun _ _ _ => none
  | n + 1 => fun x110 x111 x112 => f125_0_s c lf l0 n1 (f125_0 c lf l0 n1 n) x110 x111 x112
theorem f125_0_u (c : Orc) (lf : Nat) (l0 : List T) (n1 : Int) (n : Nat) (x110 : Int) (x111 : Int) (x112 : Int) : f125_0 c lf l0 n1 (n + 1) x110 x111 x112 = f125_0_s c lf l0 n1 (f125_0 c lf l0 n1 n) x110 x111 x112 := rfl
theorem f125_0_eq (c : Orc) (lf : Nat) (l0 : List T) (n1 : Int) (n : Nat) (x110 : Int) (x111 : Int) (x112 : Int) :
    lpK c env lf 6 fi125 2 6 [] [0, 1, 7, 8, 9] (x125_6_0) n (f125_0_c l0 n1 x110 x111 x112) = f125_0 c lf l0 n1 n x110 x111 x112 := by
  induction n generalizing x110 x111 x112 with
  | zero => rfl
  | succ n ih =>
    refine (f125_0_round c lf l0 n1 _ x110 x111 x112).trans ?_
    have e : (fun x110 x111 x112 => lpK c env lf 6 fi125 2 6 [] [0, 1, 7, 8, 9] (x125_6_0) n (f125_0_c l0 n1 x110 x111 x112)) = f125_0 c lf l0 n1 n := by funext x110 x111 x112; exact ih x110 x111 x112
    show f125_0_s c lf l0 n1 (fun x110 x111 x112 => lpK c env lf 6 fi125 2 6 [] [0, 1, 7, 8, 9] (x125_6_0) n (f125_0_c l0 n1 x110 x111 x112)) x110 x111 x112 = _
    rw [e]; rfl
/-- loop.example/g00285/impl.GetNum -/
def f125_t (c : Orc) (lf : Nat) (lp0 : List T → Int → Int → Int → Int → Option (List T)) (l0 : List T) (n1 : Int) : Option (List T) :=
  bif iLt n1 0 then
    some [T.i .i64 0, T.i .i64 0, T.b false]
  else
    (lp0 l0 n1 0 1 0).bind fun r113 =>
    bif asI (nth r113 0) == 0 then
      some [T.i .i64 0, T.i .i64 0, T.b false]
    else
      some [T.i .i64 (asI (nth r113 1)), T.i .i64 (asI (nth r113 2)), T.b (asB (nth r113 3))]
def f125 (c : Orc) (lf : Nat) (l0 : List T) (n1 : Int) : Option (List T) := f125_t c lf (fun (l0 : List T) (n1 : Int) (x110 : Int) (x111 : Int) (x112 : Int) => f125_0 c lf l0 n1 lf x110 x111 x112) l0 n1
theorem f125_raw (c : Orc) (lf : Nat) (l0 : List T) (n1 : Int) : funK c env lf 6 fi125 [.sl l0, .i .i64 n1] = f125_t c lf (fun (l0 : List T) (n1 : Int) (x110 : Int) (x111 : Int) (x112 : Int) => lpK c env lf 6 fi125 2 6 [] [0, 1, 7, 8, 9] (x125_6_0) lf (f125_0_c l0 n1 x110 x111 x112)) l0 n1 := by kernel_rfl
theorem f125_eq (c : Orc) (lf : Nat) (l0 : List T) (n1 : Int) : funK c env lf 6 fi125 [.sl l0, .i .i64 n1] = f125 c lf l0 n1 := by
  refine (f125_raw c lf l0 n1).trans ?_
  have e0 : (fun (l0 : List T) (n1 : Int) (x110 : Int) (x111 : Int) (x112 : Int) => lpK c env lf 6 fi125 2 6 [] [0, 1, 7, 8, 9] (x125_6_0) lf (f125_0_c l0 n1 x110 x111 x112)) = (fun (l0 : List T) (n1 : Int) (x110 : Int) (x111 : Int) (x112 : Int) => f125_0 c lf l0 n1 lf x110 x111 x112) := by funext l0 n1 x110 x111 x112; exact f125_0_eq c lf l0 n1 lf x110 x111 x112
  rw [e0]; rfl
/-- (*loop.example/g00285/impl.reader).num -/
def f72_t (c : Orc) (lf : Nat) (l0_0 : List T) (n0_1 : Int) (b0_2 : Bool) : Option (List T) :=
  bif !b0_2 then
    some [T.i .i64 0, T.st [T.sl l0_0, T.i .i64 n0_1, T.b b0_2]]
  else
    (c 125 [T.sl l0_0, T.i .i64 n0_1]).bind fun r114 =>
    some [T.i .i64 (asI (nth r114 0)), T.st [T.sl l0_0, T.i .i64 (asI (nth r114 1)), T.b (asB (nth r114 2))]]
def f72 (c : Orc) (lf : Nat) (l0_0 : List T) (n0_1 : Int) (b0_2 : Bool) : Option (List T) := f72_t c lf l0_0 n0_1 b0_2
theorem f72_raw (c : Orc) (lf : Nat) (l0_0 : List T) (n0_1 : Int) (b0_2 : Bool) : funK c env lf 6 fi72 [.st [.sl l0_0, .i .i64 n0_1, .b b0_2]] = f72_t c lf l0_0 n0_1 b0_2 := by kernel_rfl
theorem f72_eq (c : Orc) (lf : Nat) (l0_0 : List T) (n0_1 : Int) (b0_2 : Bool) : funK c env lf 6 fi72 [.st [.sl l0_0, .i .i64 n0_1, .b b0_2]] = f72 c lf l0_0 n0_1 b0_2 := by
  refine (f72_raw c lf l0_0 n0_1 b0_2).trans ?_
  rfl
/-- (*loop.example/g00285/impl.reader).count -/
def f73_t (c : Orc) (lf : Nat) (l0_0 : List T) (n0_1 : Int) (b0_2 : Bool) : Option (List T) :=
  (c 72 [T.st [T.sl l0_0, T.i .i64 n0_1, T.b b0_2]]).bind fun r115 =>
  bif iLt (IntKind.wrap .i64 ((l0_0.length : Int) - (asI (T.cell (nth r115 1) 1)))) (asI (nth r115 0)) then
    some [T.i .i64 0, T.st [T.sl l0_0, T.i .i64 (asI (T.cell (nth r115 1) 1)), T.b false]]
  else
    some [T.i .i64 (asI (nth r115 0)), T.st [T.sl l0_0, T.i .i64 (asI (T.cell (nth r115 1) 1)), T.b (asB (T.cell (nth r115 1) 2))]]
def f73 (c : Orc) (lf : Nat) (l0_0 : List T) (n0_1 : Int) (b0_2 : Bool) : Option (List T) := f73_t c lf l0_0 n0_1 b0_2
theorem f73_raw (c : Orc) (lf : Nat) (l0_0 : List T) (n0_1 : Int) (b0_2 : Bool) : funK c env lf 6 fi73 [.st [.sl l0_0, .i .i64 n0_1, .b b0_2]] = f73_t c lf l0_0 n0_1 b0_2 := by kernel_rfl
theorem f73_eq (c : Orc) (lf : Nat) (l0_0 : List T) (n0_1 : Int) (b0_2 : Bool) : funK c env lf 6 fi73 [.st [.sl l0_0, .i .i64 n0_1, .b b0_2]] = f73 c lf l0_0 n0_1 b0_2 := by
  refine (f73_raw c lf l0_0 n0_1 b0_2).trans ?_
  rfl
/-- loop.example/g00285/impl.GetText -/
def f132_t (c : Orc) (lf : Nat) (l0 : List T) (n1 : Int) : Option (List T) :=
  (c 125 [T.sl l0, T.i .i64 n1]).bind fun r116 =>
  bif !(asB (nth r116 2)) then
    some [T.s (⟨#[]⟩ : ByteArray), T.i .i64 0, T.b false]
  else
    bif iLt (IntKind.wrap .i64 ((l0.length : Int) - (asI (nth r116 1)))) (asI (nth r116 0)) then
      some [T.s (⟨#[]⟩ : ByteArray), T.i .i64 0, T.b false]
    else
      bif iLe 0 (asI (nth r116 1)) && iLe (asI (nth r116 1)) (IntKind.wrap .i64 ((asI (nth r116 1)) + (asI (nth r116 0)))) && iLe (IntKind.wrap .i64 ((asI (nth r116 1)) + (asI (nth r116 0)))) (l0.length : Int) then
      some [T.s (bytesOf ((l0.drop ((asI (nth r116 1)).toNat)).take (((IntKind.wrap .i64 ((asI (nth r116 1)) + (asI (nth r116 0)))).toNat) - ((asI (nth r116 1)).toNat)))), T.i .i64 (IntKind.wrap .i64 ((asI (nth r116 1)) + (asI (nth r116 0)))), T.b true]
      else none
def f132 (c : Orc) (lf : Nat) (l0 : List T) (n1 : Int) : Option (List T) := f132_t c lf l0 n1
theorem f132_raw (c : Orc) (lf : Nat) (l0 : List T) (n1 : Int) : funK c env lf 6 fi132 [.sl l0, .i .i64 n1] = f132_t c lf l0 n1 := by kernel_rfl
theorem f132_eq (c : Orc) (lf : Nat) (l0 : List T) (n1 : Int) : funK c env lf 6 fi132 [.sl l0, .i .i64 n1] = f132 c lf l0 n1 := by
  refine (f132_raw c lf l0 n1).trans ?_
  rfl
/-- (*loop.example/g00285/impl.reader).text -/
def f91_t (c : Orc) (lf : Nat) (l0_0 : List T) (n0_1 : Int) (b0_2 : Bool) : Option (List T) :=
  bif !b0_2 then
    some [T.s (⟨#[]⟩ : ByteArray), T.st [T.sl l0_0, T.i .i64 n0_1, T.b b0_2]]
  else
    (c 132 [T.sl l0_0, T.i .i64 n0_1]).bind fun r117 =>
    some [T.s (asS (nth r117 0)), T.st [T.sl l0_0, T.i .i64 (asI (nth r117 1)), T.b (asB (nth r117 2))]]
def f91 (c : Orc) (lf : Nat) (l0_0 : List T) (n0_1 : Int) (b0_2 : Bool) : Option (List T) := f91_t c lf l0_0 n0_1 b0_2
theorem f91_raw (c : Orc) (lf : Nat) (l0_0 : List T) (n0_1 : Int) (b0_2 : Bool) : funK c env lf 6 fi91 [.st [.sl l0_0, .i .i64 n0_1, .b b0_2]] = f91_t c lf l0_0 n0_1 b0_2 := by kernel_rfl
theorem f91_eq (c : Orc) (lf : Nat) (l0_0 : List T) (n0_1 : Int) (b0_2 : Bool) : funK c env lf 6 fi91 [.st [.sl l0_0, .i .i64 n0_1, .b b0_2]] = f91 c lf l0_0 n0_1 b0_2 := by
  refine (f91_raw c lf l0_0 n0_1 b0_2).trans ?_
  rfl
/-- (*loop.example/g00285/impl.reader).flag -/
def f102_t (c : Orc) (lf : Nat) (l0_0 : List T) (n0_1 : Int) (b0_2 : Bool) : Option (List T) :=
  (c 72 [T.st [T.sl l0_0, T.i .i64 n0_1, T.b b0_2]]).bind fun r118 =>
  bif asB (T.cell (nth r118 1) 2) then
    some [T.b ((asI (nth r118 0)) == 1), T.st [T.sl l0_0, T.i .i64 (asI (T.cell (nth r118 1) 1)), T.b (iLt (asI (nth r118 0)) 2)]]
  else
    some [T.b ((asI (nth r118 0)) == 1), T.st [T.sl l0_0, T.i .i64 (asI (T.cell (nth r118 1) 1)), T.b false]]
def f102 (c : Orc) (lf : Nat) (l0_0 : List T) (n0_1 : Int) (b0_2 : Bool) : Option (List T) := f102_t c lf l0_0 n0_1 b0_2
theorem f102_raw (c : Orc) (lf : Nat) (l0_0 : List T) (n0_1 : Int) (b0_2 : Bool) : funK c env lf 6 fi102 [.st [.sl l0_0, .i .i64 n0_1, .b b0_2]] = f102_t c lf l0_0 n0_1 b0_2 := by kernel_rfl
theorem f102_eq (c : Orc) (lf : Nat) (l0_0 : List T) (n0_1 : Int) (b0_2 : Bool) : funK c env lf 6 fi102 [.st [.sl l0_0, .i .i64 n0_1, .b b0_2]] = f102 c lf l0_0 n0_1 b0_2 := by
  refine (f102_raw c lf l0_0 n0_1 b0_2).trans ?_
  rfl
/-- (*loop.example/g00285/impl.reader).done -/
def f74_t (c : Orc) (lf : Nat) (l0_0 : List T) (n0_1 : Int) (b0_2 : Bool) : Option (List T) :=
  bif b0_2 then
    some [T.b (n0_1 == (l0_0.length : Int)), T.st [T.sl l0_0, T.i .i64 n0_1, T.b b0_2]]
  else
    some [T.b false, T.st [T.sl l0_0, T.i .i64 n0_1, T.b b0_2]]
def f74 (c : Orc) (lf : Nat) (l0_0 : List T) (n0_1 : Int) (b0_2 : Bool) : Option (List T) := f74_t c lf l0_0 n0_1 b0_2
theorem f74_raw (c : Orc) (lf : Nat) (l0_0 : List T) (n0_1 : Int) (b0_2 : Bool) : funK c env lf 6 fi74 [.st [.sl l0_0, .i .i64 n0_1, .b b0_2]] = f74_t c lf l0_0 n0_1 b0_2 := by kernel_rfl
theorem f74_eq (c : Orc) (lf : Nat) (l0_0 : List T) (n0_1 : Int) (b0_2 : Bool) : funK c env lf 6 fi74 [.st [.sl l0_0, .i .i64 n0_1, .b b0_2]] = f74 c lf l0_0 n0_1 b0_2 := by
  refine (f74_raw c lf l0_0 n0_1 b0_2).trans ?_
  rfl
/-- loop.example/g00285/impl.NameOk, the loop at region 2. -/
def f90_0_s (c : Orc) (lf : Nat) (s0 : ByteArray) (L : Int → Option (List T)) (x121 : Int) : Option (List T) :=
  bif iLt x121 (s0.size : Int) then
    bif inR x121 s0.size then
    bif iLt (byteAt s0 x121) 97 then
      bif iLt (byteAt s0 x121) 48 then
        bif (byteAt s0 x121) != 95 then
          bif (byteAt s0 x121) != 45 then
            bif (byteAt s0 x121) != 46 then
              some [T.i .i64 0, T.b false]
            else
              L (IntKind.wrap .i64 (x121 + 1))
          else
            L (IntKind.wrap .i64 (x121 + 1))
        else
          L (IntKind.wrap .i64 (x121 + 1))
      else
        bif iLt 57 (byteAt s0 x121) then
          bif (byteAt s0 x121) != 95 then
            bif (byteAt s0 x121) != 45 then
              bif (byteAt s0 x121) != 46 then
                some [T.i .i64 0, T.b false]
              else
                L (IntKind.wrap .i64 (x121 + 1))
            else
              L (IntKind.wrap .i64 (x121 + 1))
          else
            L (IntKind.wrap .i64 (x121 + 1))
        else
          L (IntKind.wrap .i64 (x121 + 1))
    else
      bif iLt 122 (byteAt s0 x121) then
        bif iLt (byteAt s0 x121) 48 then
          bif (byteAt s0 x121) != 95 then
            bif (byteAt s0 x121) != 45 then
              bif (byteAt s0 x121) != 46 then
                some [T.i .i64 0, T.b false]
              else
                L (IntKind.wrap .i64 (x121 + 1))
            else
              L (IntKind.wrap .i64 (x121 + 1))
          else
            L (IntKind.wrap .i64 (x121 + 1))
        else
          bif iLt 57 (byteAt s0 x121) then
            bif (byteAt s0 x121) != 95 then
              bif (byteAt s0 x121) != 45 then
                bif (byteAt s0 x121) != 46 then
                  some [T.i .i64 0, T.b false]
                else
                  L (IntKind.wrap .i64 (x121 + 1))
              else
                L (IntKind.wrap .i64 (x121 + 1))
            else
              L (IntKind.wrap .i64 (x121 + 1))
          else
            L (IntKind.wrap .i64 (x121 + 1))
      else
        L (IntKind.wrap .i64 (x121 + 1))
    else none
  else
    some [T.i .i64 1, T.s s0]
def f90_0_c (s0 : ByteArray) (x121 : Int) : CSt := ⟨[.s s0, .i .i64 (s0.size : Int), .i .i64 x121], [.dead]⟩
theorem f90_0_round (c : Orc) (lf : Nat) (s0 : ByteArray) (L : CSt → Option (List T)) (x121 : Int) :
    roundK c env lf 6 fi90 1 2 [] [0, 6, 7] (x90_2_0) L (f90_0_c s0 x121) = f90_0_s c lf s0 (fun x121 => L (f90_0_c s0 x121)) x121 := by kernel_rfl
def f90_0 (c : Orc) (lf : Nat) (s0 : ByteArray) : Nat → Int → Option (List T)
  | 0 => fun _ => none
  | n + 1 => fun x121 => f90_0_s c lf s0 (f90_0 c lf s0 n) x121
theorem f90_0_u (c : Orc) (lf : Nat) (s0 : ByteArray) (n : Nat) (x121 : Int) : f90_0 c lf s0 (n + 1) x121 = f90_0_s c lf s0 (f90_0 c lf s0 n) x121 := rfl
theorem f90_0_eq (c : Orc) (lf : Nat) (s0 : ByteArray) (n : Nat) (x121 : Int) :
    lpK c env lf 6 fi90 1 2 [] [0, 6, 7] (x90_2_0) n (f90_0_c s0 x121) = f90_0 c lf s0 n x121 := by
  induction n generalizing x121 with
  | zero => rfl
  | succ n ih =>
    refine (f90_0_round c lf s0 _ x121).trans ?_
    have e : (fun x121 => lpK c env lf 6 fi90 1 2 [] [0, 6, 7] (x90_2_0) n (f90_0_c s0 x121)) = f90_0 c lf s0 n := by funext x121; exact ih x121
    show f90_0_s c lf s0 (fun x121 => lpK c env lf 6 fi90 1 2 [] [0, 6, 7] (x90_2_0) n (f90_0_c s0 x121)) x121 = _
    rw [e]; rfl
/-- loop.example/g00285/impl.NameOk -/
def f90_t (c : Orc) (lf : Nat) (lp0 : ByteArray → Int → Option (List T)) (s0 : ByteArray) : Option (List T) :=
  (lp0 s0 0).bind fun r122 =>
  bif asI (nth r122 0) == 0 then
    some [T.b (asB (nth r122 1))]
  else
    bif iLe 1 ((asS (nth r122 1)).size : Int) then
      bif iLe ((asS (nth r122 1)).size : Int) 14 then
        bif !((asS (nth r122 1)).toList == (⟨#[46]⟩ : ByteArray).toList) then
          some [T.b (!((asS (nth r122 1)).toList == (⟨#[46, 46]⟩ : ByteArray).toList))]
        else
          some [T.b false]
      else
        some [T.b false]
    else
      some [T.b false]
def f90 (c : Orc) (lf : Nat) (s0 : ByteArray) : Option (List T) := f90_t c lf (fun (s0 : ByteArray) (x121 : Int) => f90_0 c lf s0 lf x121) s0
theorem f90_raw (c : Orc) (lf : Nat) (s0 : ByteArray) : funK c env lf 6 fi90 [.s s0] = f90_t c lf (fun (s0 : ByteArray) (x121 : Int) => lpK c env lf 6 fi90 1 2 [] [0, 6, 7] (x90_2_0) lf (f90_0_c s0 x121)) s0 := by kernel_rfl
theorem f90_eq (c : Orc) (lf : Nat) (s0 : ByteArray) : funK c env lf 6 fi90 [.s s0] = f90 c lf s0 := by
  refine (f90_raw c lf s0).trans ?_
  have e0 : (fun (s0 : ByteArray) (x121 : Int) => lpK c env lf 6 fi90 1 2 [] [0, 6, 7] (x90_2_0) lf (f90_0_c s0 x121)) = (fun (s0 : ByteArray) (x121 : Int) => f90_0 c lf s0 lf x121) := by funext s0 x121; exact f90_0_eq c lf s0 lf x121
  rw [e0]; rfl
/-- loop.example/g00285/impl.from -/
def f76_t (c : Orc) (lf : Nat) (n0 : Int) (n1 : Int) (n2 : Int) : Option (List T) :=
  bif iLe n1 n0 then
    some [T.b (iLe n0 n2)]
  else
    some [T.b false]
def f76 (c : Orc) (lf : Nat) (n0 : Int) (n1 : Int) (n2 : Int) : Option (List T) := f76_t c lf n0 n1 n2
theorem f76_raw (c : Orc) (lf : Nat) (n0 : Int) (n1 : Int) (n2 : Int) : funK c env lf 6 fi76 [.i .i64 n0, .i .i64 n1, .i .i64 n2] = f76_t c lf n0 n1 n2 := by kernel_rfl
theorem f76_eq (c : Orc) (lf : Nat) (n0 : Int) (n1 : Int) (n2 : Int) : funK c env lf 6 fi76 [.i .i64 n0, .i .i64 n1, .i .i64 n2] = f76 c lf n0 n1 n2 := by
  refine (f76_raw c lf n0 n1 n2).trans ?_
  rfl
/-- loop.example/g00285/impl.isLimit -/
def f106_t (c : Orc) (lf : Nat) (n0 : Int) : Option (List T) :=
  (c 76 [T.i .i64 n0, T.i .i64 32, T.i .i64 4000]).bind fun r123 =>
  some [T.b (asB (nth r123 0))]
def f106 (c : Orc) (lf : Nat) (n0 : Int) : Option (List T) := f106_t c lf n0
theorem f106_raw (c : Orc) (lf : Nat) (n0 : Int) : funK c env lf 6 fi106 [.i .i64 n0] = f106_t c lf n0 := by kernel_rfl
theorem f106_eq (c : Orc) (lf : Nat) (n0 : Int) : funK c env lf 6 fi106 [.i .i64 n0] = f106 c lf n0 := by
  refine (f106_raw c lf n0).trans ?_
  rfl
/-- slices.IndexFunc[[]loop.example/g00285/impl.Row,loop.example/g00285/impl.Row], the loop at region 2. -/
def f52_1_s (c : Orc) (lf : Nat) (l0_1 : List T) (x147 : Int) (L : Int → Option (List T)) (x151 : Int) : Option (List T) :=
  bif iLt x151 ((l0_1.take x147.toNat).length : Int) then
    bif inR x151 ((l0_1.take x147.toNat).length) then
    bif (asS (T.cell ((l0_1.take x147.toNat).getD x151.toNat T.u) 1)).toList == (asS (T.cell (l0_1.getD x147.toNat T.u) 1)).toList then
      some [T.i .i64 0, T.i .i64 x151, T.i .i64 (asI (T.cell (l0_1.getD x147.toNat T.u) 0)), T.s (asS (T.cell (l0_1.getD x147.toNat T.u) 1)), T.b (asB (T.cell (l0_1.getD x147.toNat T.u) 2)), T.i .i64 (asI (T.cell (l0_1.getD x147.toNat T.u) 3)), T.i .i64 (asI (T.cell (l0_1.getD x147.toNat T.u) 4))]
    else
      L (IntKind.wrap .i64 (x151 + 1))
    else none
  else
    some [T.i .i64 1, T.i .i64 (asI (T.cell (l0_1.getD x147.toNat T.u) 0)), T.s (asS (T.cell (l0_1.getD x147.toNat T.u) 1)), T.b (asB (T.cell (l0_1.getD x147.toNat T.u) 2)), T.i .i64 (asI (T.cell (l0_1.getD x147.toNat T.u) 3)), T.i .i64 (asI (T.cell (l0_1.getD x147.toNat T.u) 4))]
def f52_1_c (l0_1 : List T) (x147 : Int) (x151 : Int) : CSt := ⟨[.ro 0 true [.i .i64, .s, .b, .i .i64, .i .i64] (l0_1.take x147.toNat), .fn 108 [.bp 0 0], .i .i64 ((l0_1.take x147.toNat).length : Int), .i .i64 x151], [.box [.i .i64 (asI (T.cell (l0_1.getD x147.toNat T.u) 0)), .s (asS (T.cell (l0_1.getD x147.toNat T.u) 1)), .b (asB (T.cell (l0_1.getD x147.toNat T.u) 2)), .i .i64 (asI (T.cell (l0_1.getD x147.toNat T.u) 3)), .i .i64 (asI (T.cell (l0_1.getD x147.toNat T.u) 4))]]⟩
theorem f52_1_round (c : Orc) (lf : Nat) (l0_1 : List T) (x147 : Int) (L : CSt → Option (List T)) (x151 : Int) :
    roundK c env lf 4 fi140 1 2 [] [0, 1, 7, 8] (x140_2_0) L (f52_1_c l0_1 x147 x151) = f52_1_s c lf l0_1 x147 (fun x151 => L (f52_1_c l0_1 x147 x151)) x151 := by kernel_rfl
def f52_1 (c : Orc) (lf : Nat) (l0_1 : List T) (x147 : Int) : Nat → Int → Option (List T)
  | 0 => fun _ => none
  | n + 1 => fun x151 => f52_1_s c lf l0_1 x147 (f52_1 c lf l0_1 x147 n) x151
theorem f52_1_u (c : Orc) (lf : Nat) (l0_1 : List T) (x147 : Int) (n : Nat) (x151 : Int) : f52_1 c lf l0_1 x147 (n + 1) x151 = f52_1_s c lf l0_1 x147 (f52_1 c lf l0_1 x147 n) x151 := rfl
theorem f52_1_eq (c : Orc) (lf : Nat) (l0_1 : List T) (x147 : Int) (n : Nat) (x151 : Int) :
    lpK c env lf 4 fi140 1 2 [] [0, 1, 7, 8] (x140_2_0) n (f52_1_c l0_1 x147 x151) = f52_1 c lf l0_1 x147 n x151 := by
  induction n generalizing x151 with
  | zero => rfl
  | succ n ih =>
    refine (f52_1_round c lf l0_1 x147 _ x151).trans ?_
    have e : (fun x151 => lpK c env lf 4 fi140 1 2 [] [0, 1, 7, 8] (x140_2_0) n (f52_1_c l0_1 x147 x151)) = f52_1 c lf l0_1 x147 n := by funext x151; exact ih x151
    show f52_1_s c lf l0_1 x147 (fun x151 => lpK c env lf 4 fi140 1 2 [] [0, 1, 7, 8] (x140_2_0) n (f52_1_c l0_1 x147 x151)) x151 = _
    rw [e]; rfl
/-- slices.IndexFunc[[]loop.example/g00285/impl.Row,loop.example/g00285/impl.Row], the loop at region 2. -/
def f52_2_s (c : Orc) (lf : Nat) (l0_1 : List T) (x147 : Int) (L : Int → Option (List T)) (x156 : Int) : Option (List T) :=
  bif iLt x156 ((l0_1.take x147.toNat).length : Int) then
    bif inR x156 ((l0_1.take x147.toNat).length) then
    bif (asS (T.cell ((l0_1.take x147.toNat).getD x156.toNat T.u) 1)).toList == (asS (T.cell (l0_1.getD x147.toNat T.u) 1)).toList then
      some [T.i .i64 0, T.i .i64 x156, T.i .i64 (asI (T.cell (l0_1.getD x147.toNat T.u) 0)), T.s (asS (T.cell (l0_1.getD x147.toNat T.u) 1)), T.b (asB (T.cell (l0_1.getD x147.toNat T.u) 2)), T.i .i64 (asI (T.cell (l0_1.getD x147.toNat T.u) 3)), T.i .i64 (asI (T.cell (l0_1.getD x147.toNat T.u) 4))]
    else
      L (IntKind.wrap .i64 (x156 + 1))
    else none
  else
    some [T.i .i64 1, T.i .i64 (asI (T.cell (l0_1.getD x147.toNat T.u) 0)), T.s (asS (T.cell (l0_1.getD x147.toNat T.u) 1)), T.b (asB (T.cell (l0_1.getD x147.toNat T.u) 2)), T.i .i64 (asI (T.cell (l0_1.getD x147.toNat T.u) 3)), T.i .i64 (asI (T.cell (l0_1.getD x147.toNat T.u) 4))]
def f52_2_c (l0_1 : List T) (x147 : Int) (x156 : Int) : CSt := ⟨[.ro 0 true [.i .i64, .s, .b, .i .i64, .i .i64] (l0_1.take x147.toNat), .fn 108 [.bp 0 0], .i .i64 ((l0_1.take x147.toNat).length : Int), .i .i64 x156], [.box [.i .i64 (asI (T.cell (l0_1.getD x147.toNat T.u) 0)), .s (asS (T.cell (l0_1.getD x147.toNat T.u) 1)), .b (asB (T.cell (l0_1.getD x147.toNat T.u) 2)), .i .i64 (asI (T.cell (l0_1.getD x147.toNat T.u) 3)), .i .i64 (asI (T.cell (l0_1.getD x147.toNat T.u) 4))]]⟩
theorem f52_2_round (c : Orc) (lf : Nat) (l0_1 : List T) (x147 : Int) (L : CSt → Option (List T)) (x156 : Int) :
    roundK c env lf 4 fi140 1 2 [] [0, 1, 7, 8] (x140_2_0) L (f52_2_c l0_1 x147 x156) = f52_2_s c lf l0_1 x147 (fun x156 => L (f52_2_c l0_1 x147 x156)) x156 := by kernel_rfl
def f52_2 (c : Orc) (lf : Nat) (l0_1 : List T) (x147 : Int) : Nat → Int → Option (List T)
  | 0 => fun _ => none
  | n + 1 => fun x156 => f52_2_s c lf l0_1 x147 (f52_2 c lf l0_1 x147 n) x156
theorem f52_2_u (c : Orc) (lf : Nat) (l0_1 : List T) (x147 : Int) (n : Nat) (x156 : Int) : f52_2 c lf l0_1 x147 (n + 1) x156 = f52_2_s c lf l0_1 x147 (f52_2 c lf l0_1 x147 n) x156 := rfl
theorem f52_2_eq (c : Orc) (lf : Nat) (l0_1 : List T) (x147 : Int) (n : Nat) (x156 : Int) :
    lpK c env lf 4 fi140 1 2 [] [0, 1, 7, 8] (x140_2_0) n (f52_2_c l0_1 x147 x156) = f52_2 c lf l0_1 x147 n x156 := by
  induction n generalizing x156 with
  | zero => rfl
  | succ n ih =>
    refine (f52_2_round c lf l0_1 x147 _ x156).trans ?_
    have e : (fun x156 => lpK c env lf 4 fi140 1 2 [] [0, 1, 7, 8] (x140_2_0) n (f52_2_c l0_1 x147 x156)) = f52_2 c lf l0_1 x147 n := by funext x156; exact ih x156
    show f52_2_s c lf l0_1 x147 (fun x156 => lpK c env lf 4 fi140 1 2 [] [0, 1, 7, 8] (x140_2_0) n (f52_2_c l0_1 x147 x156)) x156 = _
    rw [e]; rfl
/-- loop.example/g00285/impl.TableOk, the loop at region 2. -/
def f52_0_s (c : Orc) (lf : Nat) (l0_1 : List T) (n0_0 : Int) (L : Int → Option (List T)) (lp0 : List T → Int → Int → Option (List T)) (lp1 : List T → Int → Int → Option (List T)) (x147 : Int) : Option (List T) :=
  bif iLt x147 (l0_1.length : Int) then
    bif inR x147 l0_1.length then
    bif iLt (asI (T.cell (l0_1.getD x147.toNat T.u) 0)) 1 then
      some [T.i .i64 0, T.b false]
    else
      bif iLe n0_0 (asI (T.cell (l0_1.getD x147.toNat T.u) 0)) then
        some [T.i .i64 0, T.b false]
      else
        bif iLt 0 x147 then
          bif inR (IntKind.wrap .i64 (x147 - 1)) l0_1.length then
          bif iLe (asI (T.cell (l0_1.getD x147.toNat T.u) 0)) (asI (T.cell (l0_1.getD ((IntKind.wrap .i64 (x147 - 1)).toNat) T.u) 0)) then
            some [T.i .i64 0, T.b false]
          else
            (c 90 [T.s (asS (T.cell (l0_1.getD x147.toNat T.u) 1))]).bind fun r148 =>
            bif !(asB (nth r148 0)) then
              some [T.i .i64 0, T.b false]
            else
              (c 106 [T.i .i64 (asI (T.cell (l0_1.getD x147.toNat T.u) 3))]).bind fun r149 =>
              bif !(asB (nth r149 0)) then
                some [T.i .i64 0, T.b false]
              else
                (c 76 [T.i .i64 (asI (T.cell (l0_1.getD x147.toNat T.u) 4)), T.i .i64 0, T.i .i64 191]).bind fun r150 =>
                bif !(asB (nth r150 0)) then
                  some [T.i .i64 0, T.b false]
                else
                  bif iLe 0 x147 && iLe x147 (l0_1.length : Int) then
                  (lp0 l0_1 x147 0).bind fun r152 =>
                  bif asI (nth r152 0) == 0 then
                    bif iLe 0 (asI (nth r152 1)) then
                      some [T.i .i64 0, T.b false]
                    else
                      L (IntKind.wrap .i64 (x147 + 1))
                  else
                    L (IntKind.wrap .i64 (x147 + 1))
                  else none
          else none
        else
          (c 90 [T.s (asS (T.cell (l0_1.getD x147.toNat T.u) 1))]).bind fun r153 =>
          bif !(asB (nth r153 0)) then
            some [T.i .i64 0, T.b false]
          else
            (c 106 [T.i .i64 (asI (T.cell (l0_1.getD x147.toNat T.u) 3))]).bind fun r154 =>
            bif !(asB (nth r154 0)) then
              some [T.i .i64 0, T.b false]
            else
              (c 76 [T.i .i64 (asI (T.cell (l0_1.getD x147.toNat T.u) 4)), T.i .i64 0, T.i .i64 191]).bind fun r155 =>
              bif !(asB (nth r155 0)) then
                some [T.i .i64 0, T.b false]
              else
                bif iLe 0 x147 && iLe x147 (l0_1.length : Int) then
                (lp1 l0_1 x147 0).bind fun r157 =>
                bif asI (nth r157 0) == 0 then
                  bif iLe 0 (asI (nth r157 1)) then
                    some [T.i .i64 0, T.b false]
                  else
                    L (IntKind.wrap .i64 (x147 + 1))
                else
                  L (IntKind.wrap .i64 (x147 + 1))
                else none
    else none
  else
    some [T.i .i64 1, T.i .i64 n0_0, T.sl l0_1]
def f52_0_c (l0_1 : List T) (n0_0 : Int) (x147 : Int) : CSt := ⟨[.bp 2 0, .ro 0 true [.i .i64, .s, .b, .i .i64, .i .i64] l0_1, .i .i64 (l0_1.length : Int), .i .i64 x147], [.dead, .dead, .box [.i .i64 n0_0, .ro 0 true [.i .i64, .s, .b, .i .i64, .i .i64] l0_1]]⟩
theorem f52_0_round (c : Orc) (lf : Nat) (l0_1 : List T) (n0_0 : Int) (L : CSt → Option (List T)) (x147 : Int) :
    roundK c env lf 6 fi52 2 2 [] [1, 6, 7, 8] (x52_2_0) L (f52_0_c l0_1 n0_0 x147) = f52_0_s c lf l0_1 n0_0 (fun x147 => L (f52_0_c l0_1 n0_0 x147)) (fun (l0_1 : List T) (x147 : Int) (x151 : Int) => lpK c env lf 4 fi140 1 2 [] [0, 1, 7, 8] (x140_2_0) lf (f52_1_c l0_1 x147 x151)) (fun (l0_1 : List T) (x147 : Int) (x156 : Int) => lpK c env lf 4 fi140 1 2 [] [0, 1, 7, 8] (x140_2_0) lf (f52_2_c l0_1 x147 x156)) x147 := by kernel_rfl
def f52_0 (c : Orc) (lf : Nat) (l0_1 : List T) (n0_0 : Int) : Nat → Int → Option (List T)
  | 0 => fun _ => none
  | n + 1 => fun x147 => f52_0_s c lf l0_1 n0_0 (f52_0 c lf l0_1 n0_0 n) (fun (l0_1 : List T) (x147 : Int) (x151 : Int) => f52_1 c lf l0_1 x147 lf x151) (fun (l0_1 : List T) (x147 : Int) (x156 : Int) => f52_2 c lf l0_1 x147 lf x156) x147
theorem f52_0_u (c : Orc) (lf : Nat) (l0_1 : List T) (n0_0 : Int) (n : Nat) (x147 : Int) : f52_0 c lf l0_1 n0_0 (n + 1) x147 = f52_0_s c lf l0_1 n0_0 (f52_0 c lf l0_1 n0_0 n) (fun (l0_1 : List T) (x147 : Int) (x151 : Int) => f52_1 c lf l0_1 x147 lf x151) (fun (l0_1 : List T) (x147 : Int) (x156 : Int) => f52_2 c lf l0_1 x147 lf x156) x147 := rfl
theorem f52_0_eq (c : Orc) (lf : Nat) (l0_1 : List T) (n0_0 : Int) (n : Nat) (x147 : Int) :
    lpK c env lf 6 fi52 2 2 [] [1, 6, 7, 8] (x52_2_0) n (f52_0_c l0_1 n0_0 x147) = f52_0 c lf l0_1 n0_0 n x147 := by
  induction n generalizing x147 with
  | zero => rfl
  | succ n ih =>
    refine (f52_0_round c lf l0_1 n0_0 _ x147).trans ?_
    have e : (fun x147 => lpK c env lf 6 fi52 2 2 [] [1, 6, 7, 8] (x52_2_0) n (f52_0_c l0_1 n0_0 x147)) = f52_0 c lf l0_1 n0_0 n := by funext x147; exact ih x147
    have e0 : (fun (l0_1 : List T) (x147 : Int) (x151 : Int) => lpK c env lf 4 fi140 1 2 [] [0, 1, 7, 8] (x140_2_0) lf (f52_1_c l0_1 x147 x151)) = (fun (l0_1 : List T) (x147 : Int) (x151 : Int) => f52_1 c lf l0_1 x147 lf x151) := by funext l0_1 x147 x151; exact f52_1_eq c lf l0_1 x147 lf x151
    have e1 : (fun (l0_1 : List T) (x147 : Int) (x156 : Int) => lpK c env lf 4 fi140 1 2 [] [0, 1, 7, 8] (x140_2_0) lf (f52_2_c l0_1 x147 x156)) = (fun (l0_1 : List T) (x147 : Int) (x156 : Int) => f52_2 c lf l0_1 x147 lf x156) := by funext l0_1 x147 x156; exact f52_2_eq c lf l0_1 x147 lf x156
    show f52_0_s c lf l0_1 n0_0 (fun x147 => lpK c env lf 6 fi52 2 2 [] [1, 6, 7, 8] (x52_2_0) n (f52_0_c l0_1 n0_0 x147)) (fun (l0_1 : List T) (x147 : Int) (x151 : Int) => lpK c env lf 4 fi140 1 2 [] [0, 1, 7, 8] (x140_2_0) lf (f52_1_c l0_1 x147 x151)) (fun (l0_1 : List T) (x147 : Int) (x156 : Int) => lpK c env lf 4 fi140 1 2 [] [0, 1, 7, 8] (x140_2_0) lf (f52_2_c l0_1 x147 x156)) x147 = _
    rw [e, e0, e1]; rfl
/-- loop.example/g00285/impl.TableOk -/
def f52_t (c : Orc) (lf : Nat) (lp0 : List T → Int → Int → Option (List T)) (n0_0 : Int) (l0_1 : List T) : Option (List T) :=
  (lp0 l0_1 n0_0 0).bind fun r158 =>
  bif asI (nth r158 0) == 0 then
    some [T.b (asB (nth r158 1))]
  else
    (c 76 [T.i .i64 (asI (nth r158 1)), T.i .i64 1, T.i .i64 99]).bind fun r159 =>
    bif asB (nth r159 0) then
      some [T.b (iLe ((asL (nth r158 2)).length : Int) 6)]
    else
      some [T.b false]
def f52 (c : Orc) (lf : Nat) (n0_0 : Int) (l0_1 : List T) : Option (List T) := f52_t c lf (fun (l0_1 : List T) (n0_0 : Int) (x147 : Int) => f52_0 c lf l0_1 n0_0 lf x147) n0_0 l0_1
theorem f52_raw (c : Orc) (lf : Nat) (n0_0 : Int) (l0_1 : List T) : funK c env lf 6 fi52 [.st [.i .i64 n0_0, .sl l0_1]] = f52_t c lf (fun (l0_1 : List T) (n0_0 : Int) (x147 : Int) => lpK c env lf 6 fi52 2 2 [] [1, 6, 7, 8] (x52_2_0) lf (f52_0_c l0_1 n0_0 x147)) n0_0 l0_1 := by kernel_rfl
theorem f52_eq (c : Orc) (lf : Nat) (n0_0 : Int) (l0_1 : List T) : funK c env lf 6 fi52 [.st [.i .i64 n0_0, .sl l0_1]] = f52 c lf n0_0 l0_1 := by
  refine (f52_raw c lf n0_0 l0_1).trans ?_
  have e0 : (fun (l0_1 : List T) (n0_0 : Int) (x147 : Int) => lpK c env lf 6 fi52 2 2 [] [1, 6, 7, 8] (x52_2_0) lf (f52_0_c l0_1 n0_0 x147)) = (fun (l0_1 : List T) (n0_0 : Int) (x147 : Int) => f52_0 c lf l0_1 n0_0 lf x147) := by funext l0_1 n0_0 x147; exact f52_0_eq c lf l0_1 n0_0 lf x147
  rw [e0]; rfl
/-- loop.example/g00285/impl.GetTable, the loop at region 4. -/
def f46_0_s (c : Orc) (lf : Nat) (l0 : List T) (r179 : List T) (r180 : List T) (L : Int → Int → Bool → List T → Option (List T)) (x186 : Int) (x187 : Int) (x188 : Bool) (x189 : List T) : Option (List T) :=
  bif iLt x186 (asI (nth r180 0)) then
    (c 72 [T.st [T.sl l0, T.i .i64 x187, T.b x188]]).bind fun r190 =>
    (c 91 [T.st [T.sl l0, T.i .i64 (asI (T.cell (nth r190 1) 1)), T.b (asB (T.cell (nth r190 1) 2))]]).bind fun r191 =>
    (c 102 [T.st [T.sl l0, T.i .i64 (asI (T.cell (nth r191 1) 1)), T.b (asB (T.cell (nth r191 1) 2))]]).bind fun r192 =>
    (c 72 [T.st [T.sl l0, T.i .i64 (asI (T.cell (nth r192 1) 1)), T.b (asB (T.cell (nth r192 1) 2))]]).bind fun r193 =>
    (c 72 [T.st [T.sl l0, T.i .i64 (asI (T.cell (nth r193 1) 1)), T.b (asB (T.cell (nth r193 1) 2))]]).bind fun r194 =>
    bif nLe (x189.length + ([T.st [T.i .i64 (asI (nth r190 0)), T.s (asS (nth r191 0)), T.b (asB (nth r192 0)), T.i .i64 (asI (nth r193 0)), T.i .i64 (asI (nth r194 0))]] : List T).length) LIM then
    L (IntKind.wrap .i64 (x186 + 1)) (asI (T.cell (nth r194 1) 1)) (asB (T.cell (nth r194 1) 2)) (x189 ++ ([T.st [T.i .i64 (asI (nth r190 0)), T.s (asS (nth r191 0)), T.b (asB (nth r192 0)), T.i .i64 (asI (nth r193 0)), T.i .i64 (asI (nth r194 0))]] : List T))
    else none
  else
    some [T.i .i64 0, T.i .i64 0, T.sl ([] : List T), T.sl l0, T.i .i64 x187, T.b x188, T.i .i64 (asI (nth r179 0)), T.sl x189]
def f46_0_c (l0 : List T) (r179 : List T) (r180 : List T) (x186 : Int) (x187 : Int) (x188 : Bool) (x189 : List T) : CSt := ⟨[.bp 1 0, .bp 3 0, .bp 4 0, .i .i64 (asI (nth r180 0)), .i .i64 x186], [.dead, .box [.i .i64 0, .rf 2 [] 0 none], .row true [.i .i64, .s, .b, .i .i64, .i .i64] ([] : List T) 0 false, .box [.ro 0 false [.i .u8] l0, .i .i64 x187, .b x188], .box [.i .i64 (asI (nth r179 0)), .rf 5 [] 0 none], .row true [.i .i64, .s, .b, .i .i64, .i .i64] x189 0 false]⟩
theorem f46_0_round (c : Orc) (lf : Nat) (l0 : List T) (r179 : List T) (r180 : List T) (L : CSt → Option (List T)) (x186 : Int) (x187 : Int) (x188 : Bool) (x189 : List T) :
    roundK c env lf 6 fi46 1 4 [] [2, 4, 5, 14, 15] (x46_4_0) L (f46_0_c l0 r179 r180 x186 x187 x188 x189) = f46_0_s c lf l0 r179 r180 (fun x186 x187 x188 x189 => L (f46_0_c l0 r179 r180 x186 x187 x188 x189)) x186 x187 x188 x189 := by kernel_rfl
def f46_0 (c : Orc) (lf : Nat) (l0 : List T) (r179 : List T) (r180 : List T) : Nat → Int → Int → Bool → List T → Option (List T)
  | 0 => fun _ _ _ _ => none
  | n + 1 => fun x186 x187 x188 x189 => f46_0_s c lf l0 r179 r180 (f46_0 c lf l0 r179 r180 n) x186 x187 x188 x189
theorem f46_0_u (c : Orc) (lf : Nat) (l0 : List T) (r179 : List T) (r180 : List T) (n : Nat) (x186 : Int) (x187 : Int) (x188 : Bool) (x189 : List T) : f46_0 c lf l0 r179 r180 (n + 1) x186 x187 x188 x189 = f46_0_s c lf l0 r179 r180 (f46_0 c lf l0 r179 r180 n) x186 x187 x188 x189 := rfl
theorem f46_0_eq (c : Orc) (lf : Nat) (l0 : List T) (r179 : List T) (r180 : List T) (n : Nat) (x186 : Int) (x187 : Int) (x188 : Bool) (x189 : List T) :
    lpK c env lf 6 fi46 1 4 [] [2, 4, 5, 14, 15] (x46_4_0) n (f46_0_c l0 r179 r180 x186 x187 x188 x189) = f46_0 c lf l0 r179 r180 n x186 x187 x188 x189 := by
  induction n generalizing x186 x187 x188 x189 with
  | zero => rfl
  | succ n ih =>
    refine (f46_0_round c lf l0 r179 r180 _ x186 x187 x188 x189).trans ?_
    have e : (fun x186 x187 x188 x189 => lpK c env lf 6 fi46 1 4 [] [2, 4, 5, 14, 15] (x46_4_0) n (f46_0_c l0 r179 r180 x186 x187 x188 x189)) = f46_0 c lf l0 r179 r180 n := by funext x186 x187 x188 x189; exact ih x186 x187 x188 x189
    show f46_0_s c lf l0 r179 r180 (fun x186 x187 x188 x189 => lpK c env lf 6 fi46 1 4 [] [2, 4, 5, 14, 15] (x46_4_0) n (f46_0_c l0 r179 r180 x186 x187 x188 x189)) x186 x187 x188 x189 = _
    rw [e]; rfl
/-- loop.example/g00285/impl.GetTable -/
def f46_t (c : Orc) (lf : Nat) (lp0 : List T → List T → List T → Int → Int → Bool → List T → Option (List T)) (l0 : List T) : Option (List T) :=
  (c 72 [T.st [T.sl l0, T.i .i64 0, T.b true]]).bind fun r179 =>
  (c 73 [T.st [T.sl l0, T.i .i64 (asI (T.cell (nth r179 1) 1)), T.b (asB (T.cell (nth r179 1) 2))]]).bind fun r180 =>
  (lp0 l0 r179 r180 0 (asI (T.cell (nth r180 1) 1)) (asB (T.cell (nth r180 1) 2)) ([] : List T)).bind fun r195 =>
  (c 74 [T.st [T.sl (asL (nth r195 3)), T.i .i64 (asI (nth r195 4)), T.b (asB (nth r195 5))]]).bind fun r196 =>
  bif !(asB (nth r196 0)) then
    some [T.st [T.i .i64 0, T.sl []], T.b false]
  else
    (c 52 [T.st [T.i .i64 (asI (nth r195 6)), T.sl (asL (nth r195 7))]]).bind fun r197 =>
    bif !(asB (nth r197 0)) then
      some [T.st [T.i .i64 0, T.sl []], T.b false]
    else
      some [T.st [T.i .i64 (asI (nth r195 6)), T.sl (asL (nth r195 7))], T.b true]
def f46 (c : Orc) (lf : Nat) (l0 : List T) : Option (List T) := f46_t c lf (fun (l0 : List T) (r179 : List T) (r180 : List T) (x186 : Int) (x187 : Int) (x188 : Bool) (x189 : List T) => f46_0 c lf l0 r179 r180 lf x186 x187 x188 x189) l0
theorem f46_raw (c : Orc) (lf : Nat) (l0 : List T) : funK c env lf 6 fi46 [.sl l0] = f46_t c lf (fun (l0 : List T) (r179 : List T) (r180 : List T) (x186 : Int) (x187 : Int) (x188 : Bool) (x189 : List T) => lpK c env lf 6 fi46 1 4 [] [2, 4, 5, 14, 15] (x46_4_0) lf (f46_0_c l0 r179 r180 x186 x187 x188 x189)) l0 := by kernel_rfl
theorem f46_eq (c : Orc) (lf : Nat) (l0 : List T) : funK c env lf 6 fi46 [.sl l0] = f46 c lf l0 := by
  refine (f46_raw c lf l0).trans ?_
  have e0 : (fun (l0 : List T) (r179 : List T) (r180 : List T) (x186 : Int) (x187 : Int) (x188 : Bool) (x189 : List T) => lpK c env lf 6 fi46 1 4 [] [2, 4, 5, 14, 15] (x46_4_0) lf (f46_0_c l0 r179 r180 x186 x187 x188 x189)) = (fun (l0 : List T) (r179 : List T) (r180 : List T) (x186 : Int) (x187 : Int) (x188 : Bool) (x189 : List T) => f46_0 c lf l0 r179 r180 lf x186 x187 x188 x189) := by funext l0 r179 r180 x186 x187 x188 x189; exact f46_0_eq c lf l0 r179 r180 lf x186 x187 x188 x189
  rw [e0]; rfl
/-- loop.example/g00285/laws.eqRow -/
def f129_t (c : Orc) (lf : Nat) (n0_0 : Int) (s0_1 : ByteArray) (b0_2 : Bool) (n0_3 : Int) (n0_4 : Int) (n1_0 : Int) (s1_1 : ByteArray) (b1_2 : Bool) (n1_3 : Int) (n1_4 : Int) : Option (List T) :=
  bif n0_0 != n1_0 then
    some [T.b false]
  else
    bif !(s0_1.toList == s1_1.toList) then
      some [T.b false]
    else
      bif !(b0_2 == b1_2) then
        some [T.b false]
      else
        bif n0_3 != n1_3 then
          some [T.b false]
        else
          bif n0_4 != n1_4 then
            some [T.b false]
          else
            some [T.b true]
def f129 (c : Orc) (lf : Nat) (n0_0 : Int) (s0_1 : ByteArray) (b0_2 : Bool) (n0_3 : Int) (n0_4 : Int) (n1_0 : Int) (s1_1 : ByteArray) (b1_2 : Bool) (n1_3 : Int) (n1_4 : Int) : Option (List T) := f129_t c lf n0_0 s0_1 b0_2 n0_3 n0_4 n1_0 s1_1 b1_2 n1_3 n1_4
theorem f129_raw (c : Orc) (lf : Nat) (n0_0 : Int) (s0_1 : ByteArray) (b0_2 : Bool) (n0_3 : Int) (n0_4 : Int) (n1_0 : Int) (s1_1 : ByteArray) (b1_2 : Bool) (n1_3 : Int) (n1_4 : Int) : funK c env lf 6 fi129 [.st [.i .i64 n0_0, .s s0_1, .b b0_2, .i .i64 n0_3, .i .i64 n0_4], .st [.i .i64 n1_0, .s s1_1, .b b1_2, .i .i64 n1_3, .i .i64 n1_4]] = f129_t c lf n0_0 s0_1 b0_2 n0_3 n0_4 n1_0 s1_1 b1_2 n1_3 n1_4 := by kernel_rfl
theorem f129_eq (c : Orc) (lf : Nat) (n0_0 : Int) (s0_1 : ByteArray) (b0_2 : Bool) (n0_3 : Int) (n0_4 : Int) (n1_0 : Int) (s1_1 : ByteArray) (b1_2 : Bool) (n1_3 : Int) (n1_4 : Int) : funK c env lf 6 fi129 [.st [.i .i64 n0_0, .s s0_1, .b b0_2, .i .i64 n0_3, .i .i64 n0_4], .st [.i .i64 n1_0, .s s1_1, .b b1_2, .i .i64 n1_3, .i .i64 n1_4]] = f129 c lf n0_0 s0_1 b0_2 n0_3 n0_4 n1_0 s1_1 b1_2 n1_3 n1_4 := by
  refine (f129_raw c lf n0_0 s0_1 b0_2 n0_3 n0_4 n1_0 s1_1 b1_2 n1_3 n1_4).trans ?_
  rfl
/-- loop.example/g00285/laws.eqRowS, the loop at region 4. -/
def f83_0_s (c : Orc) (lf : Nat) (l0 : List T) (l1 : List T) (L : Int → Option (List T)) (x203 : Int) : Option (List T) :=
  bif iLt x203 (l0.length : Int) then
    bif inR x203 l0.length then
    bif inR x203 l1.length then
    (c 129 [T.st [T.i .i64 (asI (T.cell (l0.getD x203.toNat T.u) 0)), T.s (asS (T.cell (l0.getD x203.toNat T.u) 1)), T.b (asB (T.cell (l0.getD x203.toNat T.u) 2)), T.i .i64 (asI (T.cell (l0.getD x203.toNat T.u) 3)), T.i .i64 (asI (T.cell (l0.getD x203.toNat T.u) 4))], T.st [T.i .i64 (asI (T.cell (l1.getD x203.toNat T.u) 0)), T.s (asS (T.cell (l1.getD x203.toNat T.u) 1)), T.b (asB (T.cell (l1.getD x203.toNat T.u) 2)), T.i .i64 (asI (T.cell (l1.getD x203.toNat T.u) 3)), T.i .i64 (asI (T.cell (l1.getD x203.toNat T.u) 4))]]).bind fun r204 =>
    bif !(asB (nth r204 0)) then
      some [T.i .i64 0, T.b false]
    else
      L (IntKind.wrap .i64 (x203 + 1))
    else none
    else none
  else
    some [T.i .i64 1]
def f83_0_c (l0 : List T) (l1 : List T) (x203 : Int) : CSt := ⟨[.ro 0 true [.i .i64, .s, .b, .i .i64, .i .i64] l0, .ro 0 true [.i .i64, .s, .b, .i .i64, .i .i64] l1, .i .i64 x203], [.dead, .dead]⟩
theorem f83_0_round (c : Orc) (lf : Nat) (l0 : List T) (l1 : List T) (L : CSt → Option (List T)) (x203 : Int) :
    roundK c env lf 6 fi83 2 4 [] [0, 1, 5] (x83_4_0) L (f83_0_c l0 l1 x203) = f83_0_s c lf l0 l1 (fun x203 => L (f83_0_c l0 l1 x203)) x203 := by kernel_rfl
def f83_0 (c : Orc) (lf : Nat) (l0 : List T) (l1 : List T) : Nat → Int → Option (List T)
  | 0 => fun _ => none
  | n + 1 => fun x203 => f83_0_s c lf l0 l1 (f83_0 c lf l0 l1 n) x203
theorem f83_0_u (c : Orc) (lf : Nat) (l0 : List T) (l1 : List T) (n : Nat) (x203 : Int) : f83_0 c lf l0 l1 (n + 1) x203 = f83_0_s c lf l0 l1 (f83_0 c lf l0 l1 n) x203 := rfl
theorem f83_0_eq (c : Orc) (lf : Nat) (l0 : List T) (l1 : List T) (n : Nat) (x203 : Int) :
    lpK c env lf 6 fi83 2 4 [] [0, 1, 5] (x83_4_0) n (f83_0_c l0 l1 x203) = f83_0 c lf l0 l1 n x203 := by
  induction n generalizing x203 with
  | zero => rfl
  | succ n ih =>
    refine (f83_0_round c lf l0 l1 _ x203).trans ?_
    have e : (fun x203 => lpK c env lf 6 fi83 2 4 [] [0, 1, 5] (x83_4_0) n (f83_0_c l0 l1 x203)) = f83_0 c lf l0 l1 n := by funext x203; exact ih x203
    show f83_0_s c lf l0 l1 (fun x203 => lpK c env lf 6 fi83 2 4 [] [0, 1, 5] (x83_4_0) n (f83_0_c l0 l1 x203)) x203 = _
    rw [e]; rfl
/-- loop.example/g00285/laws.eqRowS -/
def f83_t (c : Orc) (lf : Nat) (lp0 : List T → List T → Int → Option (List T)) (l0 : List T) (l1 : List T) : Option (List T) :=
  bif (l0.length : Int) != (l1.length : Int) then
    some [T.b false]
  else
    (lp0 l0 l1 0).bind fun r205 =>
    bif asI (nth r205 0) == 0 then
      some [T.b (asB (nth r205 1))]
    else
      some [T.b true]
def f83 (c : Orc) (lf : Nat) (l0 : List T) (l1 : List T) : Option (List T) := f83_t c lf (fun (l0 : List T) (l1 : List T) (x203 : Int) => f83_0 c lf l0 l1 lf x203) l0 l1
theorem f83_raw (c : Orc) (lf : Nat) (l0 : List T) (l1 : List T) : funK c env lf 6 fi83 [.sl l0, .sl l1] = f83_t c lf (fun (l0 : List T) (l1 : List T) (x203 : Int) => lpK c env lf 6 fi83 2 4 [] [0, 1, 5] (x83_4_0) lf (f83_0_c l0 l1 x203)) l0 l1 := by kernel_rfl
theorem f83_eq (c : Orc) (lf : Nat) (l0 : List T) (l1 : List T) : funK c env lf 6 fi83 [.sl l0, .sl l1] = f83 c lf l0 l1 := by
  refine (f83_raw c lf l0 l1).trans ?_
  have e0 : (fun (l0 : List T) (l1 : List T) (x203 : Int) => lpK c env lf 6 fi83 2 4 [] [0, 1, 5] (x83_4_0) lf (f83_0_c l0 l1 x203)) = (fun (l0 : List T) (l1 : List T) (x203 : Int) => f83_0 c lf l0 l1 lf x203) := by funext l0 l1 x203; exact f83_0_eq c lf l0 l1 lf x203
  rw [e0]; rfl
/-- loop.example/g00285/laws.eqTable -/
def f28_t (c : Orc) (lf : Nat) (n0_0 : Int) (l0_1 : List T) (n1_0 : Int) (l1_1 : List T) : Option (List T) :=
  bif n0_0 != n1_0 then
    some [T.b false]
  else
    (c 83 [T.sl l0_1, T.sl l1_1]).bind fun r206 =>
    bif !(asB (nth r206 0)) then
      some [T.b false]
    else
      some [T.b true]
def f28 (c : Orc) (lf : Nat) (n0_0 : Int) (l0_1 : List T) (n1_0 : Int) (l1_1 : List T) : Option (List T) := f28_t c lf n0_0 l0_1 n1_0 l1_1
theorem f28_raw (c : Orc) (lf : Nat) (n0_0 : Int) (l0_1 : List T) (n1_0 : Int) (l1_1 : List T) : funK c env lf 6 fi28 [.st [.i .i64 n0_0, .sl l0_1], .st [.i .i64 n1_0, .sl l1_1]] = f28_t c lf n0_0 l0_1 n1_0 l1_1 := by kernel_rfl
theorem f28_eq (c : Orc) (lf : Nat) (n0_0 : Int) (l0_1 : List T) (n1_0 : Int) (l1_1 : List T) : funK c env lf 6 fi28 [.st [.i .i64 n0_0, .sl l0_1], .st [.i .i64 n1_0, .sl l1_1]] = f28 c lf n0_0 l0_1 n1_0 l1_1 := by
  refine (f28_raw c lf n0_0 l0_1 n1_0 l1_1).trans ?_
  rfl
/-- loop.example/g00285/laws.eqByteS, the loop at region 4. -/
def f27_0_s (c : Orc) (lf : Nat) (l0 : List T) (l1 : List T) (L : Int → Option (List T)) (x209 : Int) : Option (List T) :=
  bif iLt x209 (l0.length : Int) then
    bif inR x209 l0.length then
    bif inR x209 l1.length then
    bif (asI (l0.getD x209.toNat T.u)) != (asI (l1.getD x209.toNat T.u)) then
      some [T.i .i64 0, T.b false]
    else
      L (IntKind.wrap .i64 (x209 + 1))
    else none
    else none
  else
    some [T.i .i64 1]
def f27_0_c (l0 : List T) (l1 : List T) (x209 : Int) : CSt := ⟨[.ro 0 false [.i .u8] l0, .ro 0 false [.i .u8] l1, .i .i64 x209], [.dead, .dead]⟩
theorem f27_0_round (c : Orc) (lf : Nat) (l0 : List T) (l1 : List T) (L : CSt → Option (List T)) (x209 : Int) :
    roundK c env lf 6 fi27 2 4 [] [0, 1, 5] (x27_4_0) L (f27_0_c l0 l1 x209) = f27_0_s c lf l0 l1 (fun x209 => L (f27_0_c l0 l1 x209)) x209 := by kernel_rfl
def f27_0 (c : Orc) (lf : Nat) (l0 : List T) (l1 : List T) : Nat → Int → Option (List T)
  | 0 => fun _ => none
  | n + 1 => fun x209 => f27_0_s c lf l0 l1 (f27_0 c lf l0 l1 n) x209
theorem f27_0_u (c : Orc) (lf : Nat) (l0 : List T) (l1 : List T) (n : Nat) (x209 : Int) : f27_0 c lf l0 l1 (n + 1) x209 = f27_0_s c lf l0 l1 (f27_0 c lf l0 l1 n) x209 := rfl
theorem f27_0_eq (c : Orc) (lf : Nat) (l0 : List T) (l1 : List T) (n : Nat) (x209 : Int) :
    lpK c env lf 6 fi27 2 4 [] [0, 1, 5] (x27_4_0) n (f27_0_c l0 l1 x209) = f27_0 c lf l0 l1 n x209 := by
  induction n generalizing x209 with
  | zero => rfl
  | succ n ih =>
    refine (f27_0_round c lf l0 l1 _ x209).trans ?_
    have e : (fun x209 => lpK c env lf 6 fi27 2 4 [] [0, 1, 5] (x27_4_0) n (f27_0_c l0 l1 x209)) = f27_0 c lf l0 l1 n := by funext x209; exact ih x209
    show f27_0_s c lf l0 l1 (fun x209 => lpK c env lf 6 fi27 2 4 [] [0, 1, 5] (x27_4_0) n (f27_0_c l0 l1 x209)) x209 = _
    rw [e]; rfl
/-- loop.example/g00285/laws.eqByteS -/
def f27_t (c : Orc) (lf : Nat) (lp0 : List T → List T → Int → Option (List T)) (l0 : List T) (l1 : List T) : Option (List T) :=
  bif (l0.length : Int) != (l1.length : Int) then
    some [T.b false]
  else
    (lp0 l0 l1 0).bind fun r210 =>
    bif asI (nth r210 0) == 0 then
      some [T.b (asB (nth r210 1))]
    else
      some [T.b true]
def f27 (c : Orc) (lf : Nat) (l0 : List T) (l1 : List T) : Option (List T) := f27_t c lf (fun (l0 : List T) (l1 : List T) (x209 : Int) => f27_0 c lf l0 l1 lf x209) l0 l1
theorem f27_raw (c : Orc) (lf : Nat) (l0 : List T) (l1 : List T) : funK c env lf 6 fi27 [.sl l0, .sl l1] = f27_t c lf (fun (l0 : List T) (l1 : List T) (x209 : Int) => lpK c env lf 6 fi27 2 4 [] [0, 1, 5] (x27_4_0) lf (f27_0_c l0 l1 x209)) l0 l1 := by kernel_rfl
theorem f27_eq (c : Orc) (lf : Nat) (l0 : List T) (l1 : List T) : funK c env lf 6 fi27 [.sl l0, .sl l1] = f27 c lf l0 l1 := by
  refine (f27_raw c lf l0 l1).trans ?_
  have e0 : (fun (l0 : List T) (l1 : List T) (x209 : Int) => lpK c env lf 6 fi27 2 4 [] [0, 1, 5] (x27_4_0) lf (f27_0_c l0 l1 x209)) = (fun (l0 : List T) (l1 : List T) (x209 : Int) => f27_0 c lf l0 l1 lf x209) := by funext l0 l1 x209; exact f27_0_eq c lf l0 l1 lf x209
  rw [e0]; rfl
/-- loop.example/g00285/laws.markByteS, the loop at region 2. -/
def f30_0_s (c : Orc) (lf : Nat) (L : Int → Int → List T → Option (List T)) (x215 : Int) (x216 : Int) (x217 : List T) : Option (List T) :=
  bif iLt x216 (x217.length : Int) then
    bif inR x216 x217.length then
    L (IntKind.wrap .i64 (x215 + 1)) (IntKind.wrap .i64 (x216 + 1)) (x217.set x216.toNat (T.i .u8 (IntKind.wrap .u8 x215)))
    else none
  else
    some [T.i .i64 0, T.i .i64 x215, T.sl x217]
def f30_0_c (x215 : Int) (x216 : Int) (x217 : List T) : CSt := ⟨[.rf 0 [] 0 none, .i .i64 x215, .i .i64 x216], [.row false [.i .u8] x217 0 false, .dead]⟩
theorem f30_0_round (c : Orc) (lf : Nat) (L : CSt → Option (List T)) (x215 : Int) (x216 : Int) (x217 : List T) :
    roundK c env lf 6 fi30 2 2 [] [0, 1, 5] (x30_2_0) L (f30_0_c x215 x216 x217) = f30_0_s c lf (fun x215 x216 x217 => L (f30_0_c x215 x216 x217)) x215 x216 x217 := by kernel_rfl
def f30_0 (c : Orc) (lf : Nat) : Nat → Int → Int → List T → Option (List T)
  | 0 => fun _ _ _ => none
  | n + 1 => fun x215 x216 x217 => f30_0_s c lf (f30_0 c lf n) x215 x216 x217
theorem f30_0_u (c : Orc) (lf : Nat) (n : Nat) (x215 : Int) (x216 : Int) (x217 : List T) : f30_0 c lf (n + 1) x215 x216 x217 = f30_0_s c lf (f30_0 c lf n) x215 x216 x217 := rfl
theorem f30_0_eq (c : Orc) (lf : Nat) (n : Nat) (x215 : Int) (x216 : Int) (x217 : List T) :
    lpK c env lf 6 fi30 2 2 [] [0, 1, 5] (x30_2_0) n (f30_0_c x215 x216 x217) = f30_0 c lf n x215 x216 x217 := by
  induction n generalizing x215 x216 x217 with
  | zero => rfl
  | succ n ih =>
    refine (f30_0_round c lf _ x215 x216 x217).trans ?_
    have e : (fun x215 x216 x217 => lpK c env lf 6 fi30 2 2 [] [0, 1, 5] (x30_2_0) n (f30_0_c x215 x216 x217)) = f30_0 c lf n := by funext x215 x216 x217; exact ih x215 x216 x217
    show f30_0_s c lf (fun x215 x216 x217 => lpK c env lf 6 fi30 2 2 [] [0, 1, 5] (x30_2_0) n (f30_0_c x215 x216 x217)) x215 x216 x217 = _
    rw [e]; rfl
/-- loop.example/g00285/laws.markByteS -/
def f30_t (c : Orc) (lf : Nat) (lp0 : Int → Int → List T → Option (List T)) (l0 : List T) (n1 : Int) : Option (List T) :=
  (lp0 n1 0 l0).bind fun r218 =>
  some [T.i .i64 (asI (nth r218 1)), T.sl (asL (nth r218 2))]
def f30 (c : Orc) (lf : Nat) (l0 : List T) (n1 : Int) : Option (List T) := f30_t c lf (fun (x215 : Int) (x216 : Int) (x217 : List T) => f30_0 c lf lf x215 x216 x217) l0 n1
theorem f30_raw (c : Orc) (lf : Nat) (l0 : List T) (n1 : Int) : funK c env lf 6 fi30 [.sl l0, .i .i64 n1] = f30_t c lf (fun (x215 : Int) (x216 : Int) (x217 : List T) => lpK c env lf 6 fi30 2 2 [] [0, 1, 5] (x30_2_0) lf (f30_0_c x215 x216 x217)) l0 n1 := by kernel_rfl
theorem f30_eq (c : Orc) (lf : Nat) (l0 : List T) (n1 : Int) : funK c env lf 6 fi30 [.sl l0, .i .i64 n1] = f30 c lf l0 n1 := by
  refine (f30_raw c lf l0 n1).trans ?_
  have e0 : (fun (x215 : Int) (x216 : Int) (x217 : List T) => lpK c env lf 6 fi30 2 2 [] [0, 1, 5] (x30_2_0) lf (f30_0_c x215 x216 x217)) = (fun (x215 : Int) (x216 : Int) (x217 : List T) => f30_0 c lf lf x215 x216 x217) := by funext x215 x216 x217; exact f30_0_eq c lf lf x215 x216 x217
  rw [e0]; rfl
/-- loop.example/g00285/laws.markText, the loop at region 4. -/
def f130_0_s (c : Orc) (lf : Nat) (L : Int → ByteArray → Option (List T)) (x222 : Int) (x223 : ByteArray) : Option (List T) :=
  bif iLt 0 x222 then
    bif nLe ((bytesOf ([T.i .u8 (IntKind.wrap .u8 (IntKind.wrap .i64 (48 + (x222.tmod 10))))] : List T)).size + x223.size) LIM then
    L (IntKind.wrap .i64 (x222.tdiv 10)) ((bytesOf ([T.i .u8 (IntKind.wrap .u8 (IntKind.wrap .i64 (48 + (x222.tmod 10))))] : List T)) ++ x223)
    else none
  else
    some [T.i .i64 0, T.s x223]
def f130_0_c (x222 : Int) (x223 : ByteArray) : CSt := ⟨[.i .i64 x222, .s x223], [.dead]⟩
theorem f130_0_round (c : Orc) (lf : Nat) (L : CSt → Option (List T)) (x222 : Int) (x223 : ByteArray) :
    roundK c env lf 6 fi130 1 4 [] [0, 3] (x130_4_0) L (f130_0_c x222 x223) = f130_0_s c lf (fun x222 x223 => L (f130_0_c x222 x223)) x222 x223 := by kernel_rfl
def f130_0 (c : Orc) (lf : Nat) : Nat → Int → ByteArray → Option (List T)
  | 0 => fun _ _ => none
  | n + 1 => fun x222 x223 => f130_0_s c lf (f130_0 c lf n) x222 x223
theorem f130_0_u (c : Orc) (lf : Nat) (n : Nat) (x222 : Int) (x223 : ByteArray) : f130_0 c lf (n + 1) x222 x223 = f130_0_s c lf (f130_0 c lf n) x222 x223 := rfl
theorem f130_0_eq (c : Orc) (lf : Nat) (n : Nat) (x222 : Int) (x223 : ByteArray) :
    lpK c env lf 6 fi130 1 4 [] [0, 3] (x130_4_0) n (f130_0_c x222 x223) = f130_0 c lf n x222 x223 := by
  induction n generalizing x222 x223 with
  | zero => rfl
  | succ n ih =>
    refine (f130_0_round c lf _ x222 x223).trans ?_
    have e : (fun x222 x223 => lpK c env lf 6 fi130 1 4 [] [0, 3] (x130_4_0) n (f130_0_c x222 x223)) = f130_0 c lf n := by funext x222 x223; exact ih x222 x223
    show f130_0_s c lf (fun x222 x223 => lpK c env lf 6 fi130 1 4 [] [0, 3] (x130_4_0) n (f130_0_c x222 x223)) x222 x223 = _
    rw [e]; rfl
/-- loop.example/g00285/laws.markText -/
def f130_t (c : Orc) (lf : Nat) (lp0 : Int → ByteArray → Option (List T)) (n0 : Int) : Option (List T) :=
  bif iLe n0 0 then
    some [T.s (⟨#[109, 48]⟩ : ByteArray)]
  else
    (lp0 n0 (⟨#[]⟩ : ByteArray)).bind fun r224 =>
    bif nLe ((⟨#[109]⟩ : ByteArray).size + (asS (nth r224 1)).size) LIM then
    some [T.s ((⟨#[109]⟩ : ByteArray) ++ (asS (nth r224 1)))]
    else none
def f130 (c : Orc) (lf : Nat) (n0 : Int) : Option (List T) := f130_t c lf (fun (x222 : Int) (x223 : ByteArray) => f130_0 c lf lf x222 x223) n0
theorem f130_raw (c : Orc) (lf : Nat) (n0 : Int) : funK c env lf 6 fi130 [.i .i64 n0] = f130_t c lf (fun (x222 : Int) (x223 : ByteArray) => lpK c env lf 6 fi130 1 4 [] [0, 3] (x130_4_0) lf (f130_0_c x222 x223)) n0 := by kernel_rfl
theorem f130_eq (c : Orc) (lf : Nat) (n0 : Int) : funK c env lf 6 fi130 [.i .i64 n0] = f130 c lf n0 := by
  refine (f130_raw c lf n0).trans ?_
  have e0 : (fun (x222 : Int) (x223 : ByteArray) => lpK c env lf 6 fi130 1 4 [] [0, 3] (x130_4_0) lf (f130_0_c x222 x223)) = (fun (x222 : Int) (x223 : ByteArray) => f130_0 c lf lf x222 x223) := by funext x222 x223; exact f130_0_eq c lf lf x222 x223
  rw [e0]; rfl
/-- loop.example/g00285/laws.markRowS, the loop at region 2. -/
def f84_0_s (c : Orc) (lf : Nat) (L : Int → Int → List T → Option (List T)) (x232 : Int) (x233 : Int) (x234 : List T) : Option (List T) :=
  bif iLt x233 (x234.length : Int) then
    bif inR x233 x234.length then
    (c 130 [T.i .i64 (IntKind.wrap .i64 (x232 + 1))]).bind fun r235 =>
    bif inR x233 ((x234.set x233.toNat (T.setc (x234.getD x233.toNat T.u) 0 (T.i .i64 x232))).length) then
    bif inR x233 (((x234.set x233.toNat (T.setc (x234.getD x233.toNat T.u) 0 (T.i .i64 x232))).set x233.toNat (T.setc ((x234.set x233.toNat (T.setc (x234.getD x233.toNat T.u) 0 (T.i .i64 x232))).getD x233.toNat T.u) 1 (T.s (asS (nth r235 0))))).length) then
    bif inR x233 ((((x234.set x233.toNat (T.setc (x234.getD x233.toNat T.u) 0 (T.i .i64 x232))).set x233.toNat (T.setc ((x234.set x233.toNat (T.setc (x234.getD x233.toNat T.u) 0 (T.i .i64 x232))).getD x233.toNat T.u) 1 (T.s (asS (nth r235 0))))).set x233.toNat (T.setc (((x234.set x233.toNat (T.setc (x234.getD x233.toNat T.u) 0 (T.i .i64 x232))).set x233.toNat (T.setc ((x234.set x233.toNat (T.setc (x234.getD x233.toNat T.u) 0 (T.i .i64 x232))).getD x233.toNat T.u) 1 (T.s (asS (nth r235 0))))).getD x233.toNat T.u) 2 (T.b (((IntKind.wrap .i64 ((IntKind.wrap .i64 (x232 + 1)) + 1)).tmod 3) == 0)))).length) then
    bif inR x233 (((((x234.set x233.toNat (T.setc (x234.getD x233.toNat T.u) 0 (T.i .i64 x232))).set x233.toNat (T.setc ((x234.set x233.toNat (T.setc (x234.getD x233.toNat T.u) 0 (T.i .i64 x232))).getD x233.toNat T.u) 1 (T.s (asS (nth r235 0))))).set x233.toNat (T.setc (((x234.set x233.toNat (T.setc (x234.getD x233.toNat T.u) 0 (T.i .i64 x232))).set x233.toNat (T.setc ((x234.set x233.toNat (T.setc (x234.getD x233.toNat T.u) 0 (T.i .i64 x232))).getD x233.toNat T.u) 1 (T.s (asS (nth r235 0))))).getD x233.toNat T.u) 2 (T.b (((IntKind.wrap .i64 ((IntKind.wrap .i64 (x232 + 1)) + 1)).tmod 3) == 0)))).set x233.toNat (T.setc ((((x234.set x233.toNat (T.setc (x234.getD x233.toNat T.u) 0 (T.i .i64 x232))).set x233.toNat (T.setc ((x234.set x233.toNat (T.setc (x234.getD x233.toNat T.u) 0 (T.i .i64 x232))).getD x233.toNat T.u) 1 (T.s (asS (nth r235 0))))).set x233.toNat (T.setc (((x234.set x233.toNat (T.setc (x234.getD x233.toNat T.u) 0 (T.i .i64 x232))).set x233.toNat (T.setc ((x234.set x233.toNat (T.setc (x234.getD x233.toNat T.u) 0 (T.i .i64 x232))).getD x233.toNat T.u) 1 (T.s (asS (nth r235 0))))).getD x233.toNat T.u) 2 (T.b (((IntKind.wrap .i64 ((IntKind.wrap .i64 (x232 + 1)) + 1)).tmod 3) == 0)))).getD x233.toNat T.u) 3 (T.i .i64 (IntKind.wrap .i64 ((IntKind.wrap .i64 ((IntKind.wrap .i64 (x232 + 1)) + 1)) + 1))))).length) then
    L (IntKind.wrap .i64 ((IntKind.wrap .i64 ((IntKind.wrap .i64 ((IntKind.wrap .i64 ((IntKind.wrap .i64 (x232 + 1)) + 1)) + 1)) + 1)) + 1)) (IntKind.wrap .i64 (x233 + 1)) (((((x234.set x233.toNat (T.setc (x234.getD x233.toNat T.u) 0 (T.i .i64 x232))).set x233.toNat (T.setc ((x234.set x233.toNat (T.setc (x234.getD x233.toNat T.u) 0 (T.i .i64 x232))).getD x233.toNat T.u) 1 (T.s (asS (nth r235 0))))).set x233.toNat (T.setc (((x234.set x233.toNat (T.setc (x234.getD x233.toNat T.u) 0 (T.i .i64 x232))).set x233.toNat (T.setc ((x234.set x233.toNat (T.setc (x234.getD x233.toNat T.u) 0 (T.i .i64 x232))).getD x233.toNat T.u) 1 (T.s (asS (nth r235 0))))).getD x233.toNat T.u) 2 (T.b (((IntKind.wrap .i64 ((IntKind.wrap .i64 (x232 + 1)) + 1)).tmod 3) == 0)))).set x233.toNat (T.setc ((((x234.set x233.toNat (T.setc (x234.getD x233.toNat T.u) 0 (T.i .i64 x232))).set x233.toNat (T.setc ((x234.set x233.toNat (T.setc (x234.getD x233.toNat T.u) 0 (T.i .i64 x232))).getD x233.toNat T.u) 1 (T.s (asS (nth r235 0))))).set x233.toNat (T.setc (((x234.set x233.toNat (T.setc (x234.getD x233.toNat T.u) 0 (T.i .i64 x232))).set x233.toNat (T.setc ((x234.set x233.toNat (T.setc (x234.getD x233.toNat T.u) 0 (T.i .i64 x232))).getD x233.toNat T.u) 1 (T.s (asS (nth r235 0))))).getD x233.toNat T.u) 2 (T.b (((IntKind.wrap .i64 ((IntKind.wrap .i64 (x232 + 1)) + 1)).tmod 3) == 0)))).getD x233.toNat T.u) 3 (T.i .i64 (IntKind.wrap .i64 ((IntKind.wrap .i64 ((IntKind.wrap .i64 (x232 + 1)) + 1)) + 1))))).set x233.toNat (T.setc (((((x234.set x233.toNat (T.setc (x234.getD x233.toNat T.u) 0 (T.i .i64 x232))).set x233.toNat (T.setc ((x234.set x233.toNat (T.setc (x234.getD x233.toNat T.u) 0 (T.i .i64 x232))).getD x233.toNat T.u) 1 (T.s (asS (nth r235 0))))).set x233.toNat (T.setc (((x234.set x233.toNat (T.setc (x234.getD x233.toNat T.u) 0 (T.i .i64 x232))).set x233.toNat (T.setc ((x234.set x233.toNat (T.setc (x234.getD x233.toNat T.u) 0 (T.i .i64 x232))).getD x233.toNat T.u) 1 (T.s (asS (nth r235 0))))).getD x233.toNat T.u) 2 (T.b (((IntKind.wrap .i64 ((IntKind.wrap .i64 (x232 + 1)) + 1)).tmod 3) == 0)))).set x233.toNat (T.setc ((((x234.set x233.toNat (T.setc (x234.getD x233.toNat T.u) 0 (T.i .i64 x232))).set x233.toNat (T.setc ((x234.set x233.toNat (T.setc (x234.getD x233.toNat T.u) 0 (T.i .i64 x232))).getD x233.toNat T.u) 1 (T.s (asS (nth r235 0))))).set x233.toNat (T.setc (((x234.set x233.toNat (T.setc (x234.getD x233.toNat T.u) 0 (T.i .i64 x232))).set x233.toNat (T.setc ((x234.set x233.toNat (T.setc (x234.getD x233.toNat T.u) 0 (T.i .i64 x232))).getD x233.toNat T.u) 1 (T.s (asS (nth r235 0))))).getD x233.toNat T.u) 2 (T.b (((IntKind.wrap .i64 ((IntKind.wrap .i64 (x232 + 1)) + 1)).tmod 3) == 0)))).getD x233.toNat T.u) 3 (T.i .i64 (IntKind.wrap .i64 ((IntKind.wrap .i64 ((IntKind.wrap .i64 (x232 + 1)) + 1)) + 1))))).getD x233.toNat T.u) 4 (T.i .i64 (IntKind.wrap .i64 ((IntKind.wrap .i64 ((IntKind.wrap .i64 ((IntKind.wrap .i64 (x232 + 1)) + 1)) + 1)) + 1)))))
    else none
    else none
    else none
    else none
    else none
  else
    some [T.i .i64 0, T.i .i64 x232, T.sl x234]
def f84_0_c (x232 : Int) (x233 : Int) (x234 : List T) : CSt := ⟨[.rf 0 [] 0 none, .i .i64 x232, .i .i64 x233], [.row true [.i .i64, .s, .b, .i .i64, .i .i64] x234 0 false, .dead]⟩
theorem f84_0_round (c : Orc) (lf : Nat) (L : CSt → Option (List T)) (x232 : Int) (x233 : Int) (x234 : List T) :
    roundK c env lf 6 fi84 2 2 [] [0, 1, 5] (x84_2_0) L (f84_0_c x232 x233 x234) = f84_0_s c lf (fun x232 x233 x234 => L (f84_0_c x232 x233 x234)) x232 x233 x234 := by kernel_rfl
def f84_0 (c : Orc) (lf : Nat) : Nat → Int → Int → List T → Option (List T)
  | 0 => fun _ _ _ => none
  | n + 1 => fun x232 x233 x234 => f84_0_s c lf (f84_0 c lf n) x232 x233 x234
theorem f84_0_u (c : Orc) (lf : Nat) (n : Nat) (x232 : Int) (x233 : Int) (x234 : List T) : f84_0 c lf (n + 1) x232 x233 x234 = f84_0_s c lf (f84_0 c lf n) x232 x233 x234 := rfl
theorem f84_0_eq (c : Orc) (lf : Nat) (n : Nat) (x232 : Int) (x233 : Int) (x234 : List T) :
    lpK c env lf 6 fi84 2 2 [] [0, 1, 5] (x84_2_0) n (f84_0_c x232 x233 x234) = f84_0 c lf n x232 x233 x234 := by
  induction n generalizing x232 x233 x234 with
  | zero => rfl
  | succ n ih =>
    refine (f84_0_round c lf _ x232 x233 x234).trans ?_
    have e : (fun x232 x233 x234 => lpK c env lf 6 fi84 2 2 [] [0, 1, 5] (x84_2_0) n (f84_0_c x232 x233 x234)) = f84_0 c lf n := by funext x232 x233 x234; exact ih x232 x233 x234
    show f84_0_s c lf (fun x232 x233 x234 => lpK c env lf 6 fi84 2 2 [] [0, 1, 5] (x84_2_0) n (f84_0_c x232 x233 x234)) x232 x233 x234 = _
    rw [e]; rfl
/-- loop.example/g00285/laws.markRowS -/
def f84_t (c : Orc) (lf : Nat) (lp0 : Int → Int → List T → Option (List T)) (l0 : List T) (n1 : Int) : Option (List T) :=
  (lp0 n1 0 l0).bind fun r236 =>
  some [T.i .i64 (asI (nth r236 1)), T.sl (asL (nth r236 2))]
def f84 (c : Orc) (lf : Nat) (l0 : List T) (n1 : Int) : Option (List T) := f84_t c lf (fun (x232 : Int) (x233 : Int) (x234 : List T) => f84_0 c lf lf x232 x233 x234) l0 n1
theorem f84_raw (c : Orc) (lf : Nat) (l0 : List T) (n1 : Int) : funK c env lf 6 fi84 [.sl l0, .i .i64 n1] = f84_t c lf (fun (x232 : Int) (x233 : Int) (x234 : List T) => lpK c env lf 6 fi84 2 2 [] [0, 1, 5] (x84_2_0) lf (f84_0_c x232 x233 x234)) l0 n1 := by kernel_rfl
theorem f84_eq (c : Orc) (lf : Nat) (l0 : List T) (n1 : Int) : funK c env lf 6 fi84 [.sl l0, .i .i64 n1] = f84 c lf l0 n1 := by
  refine (f84_raw c lf l0 n1).trans ?_
  have e0 : (fun (x232 : Int) (x233 : Int) (x234 : List T) => lpK c env lf 6 fi84 2 2 [] [0, 1, 5] (x84_2_0) lf (f84_0_c x232 x233 x234)) = (fun (x232 : Int) (x233 : Int) (x234 : List T) => f84_0 c lf lf x232 x233 x234) := by funext x232 x233 x234; exact f84_0_eq c lf lf x232 x233 x234
  rw [e0]; rfl
/-- loop.example/g00285/laws.markTable -/
def f29_t (c : Orc) (lf : Nat) (n0_0 : Int) (l0_1 : List T) (n1 : Int) : Option (List T) :=
  (c 84 [T.sl l0_1, T.i .i64 n1]).bind fun r237 =>
  some [T.i .i64 (asI (nth r237 0)), T.sl (asL (nth r237 1))]
def f29 (c : Orc) (lf : Nat) (n0_0 : Int) (l0_1 : List T) (n1 : Int) : Option (List T) := f29_t c lf n0_0 l0_1 n1
theorem f29_raw (c : Orc) (lf : Nat) (n0_0 : Int) (l0_1 : List T) (n1 : Int) : funK c env lf 6 fi29 [.st [.i .i64 n0_0, .sl l0_1], .i .i64 n1] = f29_t c lf n0_0 l0_1 n1 := by kernel_rfl
theorem f29_eq (c : Orc) (lf : Nat) (n0_0 : Int) (l0_1 : List T) (n1 : Int) : funK c env lf 6 fi29 [.st [.i .i64 n0_0, .sl l0_1], .i .i64 n1] = f29 c lf n0_0 l0_1 n1 := by
  refine (f29_raw c lf n0_0 l0_1 n1).trans ?_
  rfl
/-- loop.example/g00285/laws.heldRowS, the loop at region 2. -/
def f103_0_s (c : Orc) (lf : Nat) (l0 : List T) (L : Int → Int → Option (List T)) (x244 : Int) (x245 : Int) : Option (List T) :=
  bif iLt x245 (l0.length : Int) then
    bif inR x245 l0.length then
    bif (asI (T.cell (l0.getD x245.toNat T.u) 0)) != x244 then
      some [T.i .i64 0, T.i .i64 (-1)]
    else
      bif inR x245 l0.length then
      (c 130 [T.i .i64 (IntKind.wrap .i64 (x244 + 1))]).bind fun r246 =>
      bif !((asS (T.cell (l0.getD x245.toNat T.u) 1)).toList == (asS (nth r246 0)).toList) then
        some [T.i .i64 0, T.i .i64 (-1)]
      else
        bif inR x245 l0.length then
        bif !((asB (T.cell (l0.getD x245.toNat T.u) 2)) == (((IntKind.wrap .i64 ((IntKind.wrap .i64 (x244 + 1)) + 1)).tmod 3) == 0)) then
          some [T.i .i64 0, T.i .i64 (-1)]
        else
          bif inR x245 l0.length then
          bif (asI (T.cell (l0.getD x245.toNat T.u) 3)) != (IntKind.wrap .i64 ((IntKind.wrap .i64 ((IntKind.wrap .i64 (x244 + 1)) + 1)) + 1)) then
            some [T.i .i64 0, T.i .i64 (-1)]
          else
            bif inR x245 l0.length then
            bif (asI (T.cell (l0.getD x245.toNat T.u) 4)) != (IntKind.wrap .i64 ((IntKind.wrap .i64 ((IntKind.wrap .i64 ((IntKind.wrap .i64 (x244 + 1)) + 1)) + 1)) + 1)) then
              some [T.i .i64 0, T.i .i64 (-1)]
            else
              L (IntKind.wrap .i64 ((IntKind.wrap .i64 ((IntKind.wrap .i64 ((IntKind.wrap .i64 ((IntKind.wrap .i64 (x244 + 1)) + 1)) + 1)) + 1)) + 1)) (IntKind.wrap .i64 (x245 + 1))
            else none
          else none
        else none
      else none
    else none
  else
    some [T.i .i64 1, T.i .i64 x244]
def f103_0_c (l0 : List T) (x244 : Int) (x245 : Int) : CSt := ⟨[.ro 0 true [.i .i64, .s, .b, .i .i64, .i .i64] l0, .i .i64 x244, .i .i64 x245], [.dead, .dead]⟩
theorem f103_0_round (c : Orc) (lf : Nat) (l0 : List T) (L : CSt → Option (List T)) (x244 : Int) (x245 : Int) :
    roundK c env lf 6 fi103 2 2 [] [0, 1, 5] (x103_2_0) L (f103_0_c l0 x244 x245) = f103_0_s c lf l0 (fun x244 x245 => L (f103_0_c l0 x244 x245)) x244 x245 := by kernel_rfl
def f103_0 (c : Orc) (lf : Nat) (l0 : List T) : Nat → Int → Int → Option (List T)
  | 0 => fun _ _ => none
  | n + 1 => fun x244 x245 => f103_0_s c lf l0 (f103_0 c lf l0 n) x244 x245
theorem f103_0_u (c : Orc) (lf : Nat) (l0 : List T) (n : Nat) (x244 : Int) (x245 : Int) : f103_0 c lf l0 (n + 1) x244 x245 = f103_0_s c lf l0 (f103_0 c lf l0 n) x244 x245 := rfl
theorem f103_0_eq (c : Orc) (lf : Nat) (l0 : List T) (n : Nat) (x244 : Int) (x245 : Int) :
    lpK c env lf 6 fi103 2 2 [] [0, 1, 5] (x103_2_0) n (f103_0_c l0 x244 x245) = f103_0 c lf l0 n x244 x245 := by
  induction n generalizing x244 x245 with
  | zero => rfl
  | succ n ih =>
    refine (f103_0_round c lf l0 _ x244 x245).trans ?_
    have e : (fun x244 x245 => lpK c env lf 6 fi103 2 2 [] [0, 1, 5] (x103_2_0) n (f103_0_c l0 x244 x245)) = f103_0 c lf l0 n := by funext x244 x245; exact ih x244 x245
    show f103_0_s c lf l0 (fun x244 x245 => lpK c env lf 6 fi103 2 2 [] [0, 1, 5] (x103_2_0) n (f103_0_c l0 x244 x245)) x244 x245 = _
    rw [e]; rfl
/-- loop.example/g00285/laws.heldRowS -/
def f103_t (c : Orc) (lf : Nat) (lp0 : List T → Int → Int → Option (List T)) (l0 : List T) (n1 : Int) : Option (List T) :=
  (lp0 l0 n1 0).bind fun r247 =>
  bif asI (nth r247 0) == 0 then
    some [T.i .i64 (asI (nth r247 1))]
  else
    some [T.i .i64 (asI (nth r247 1))]
def f103 (c : Orc) (lf : Nat) (l0 : List T) (n1 : Int) : Option (List T) := f103_t c lf (fun (l0 : List T) (x244 : Int) (x245 : Int) => f103_0 c lf l0 lf x244 x245) l0 n1
theorem f103_raw (c : Orc) (lf : Nat) (l0 : List T) (n1 : Int) : funK c env lf 6 fi103 [.sl l0, .i .i64 n1] = f103_t c lf (fun (l0 : List T) (x244 : Int) (x245 : Int) => lpK c env lf 6 fi103 2 2 [] [0, 1, 5] (x103_2_0) lf (f103_0_c l0 x244 x245)) l0 n1 := by kernel_rfl
theorem f103_eq (c : Orc) (lf : Nat) (l0 : List T) (n1 : Int) : funK c env lf 6 fi103 [.sl l0, .i .i64 n1] = f103 c lf l0 n1 := by
  refine (f103_raw c lf l0 n1).trans ?_
  have e0 : (fun (l0 : List T) (x244 : Int) (x245 : Int) => lpK c env lf 6 fi103 2 2 [] [0, 1, 5] (x103_2_0) lf (f103_0_c l0 x244 x245)) = (fun (l0 : List T) (x244 : Int) (x245 : Int) => f103_0 c lf l0 lf x244 x245) := by funext l0 x244 x245; exact f103_0_eq c lf l0 lf x244 x245
  rw [e0]; rfl
/-- loop.example/g00285/laws.heldTable -/
def f47_t (c : Orc) (lf : Nat) (n0_0 : Int) (l0_1 : List T) (n1 : Int) : Option (List T) :=
  (c 103 [T.sl l0_1, T.i .i64 n1]).bind fun r248 =>
  bif iLt (asI (nth r248 0)) 0 then
    some [T.i .i64 (-1)]
  else
    some [T.i .i64 (asI (nth r248 0))]
def f47 (c : Orc) (lf : Nat) (n0_0 : Int) (l0_1 : List T) (n1 : Int) : Option (List T) := f47_t c lf n0_0 l0_1 n1
theorem f47_raw (c : Orc) (lf : Nat) (n0_0 : Int) (l0_1 : List T) (n1 : Int) : funK c env lf 6 fi47 [.st [.i .i64 n0_0, .sl l0_1], .i .i64 n1] = f47_t c lf n0_0 l0_1 n1 := by kernel_rfl
theorem f47_eq (c : Orc) (lf : Nat) (n0_0 : Int) (l0_1 : List T) (n1 : Int) : funK c env lf 6 fi47 [.st [.i .i64 n0_0, .sl l0_1], .i .i64 n1] = f47 c lf n0_0 l0_1 n1 := by
  refine (f47_raw c lf n0_0 l0_1 n1).trans ?_
  rfl
/-- loop.example/g00285/laws.FnExactGetTable -/
def f7_t (c : Orc) (lf : Nat) (l0 : List T) : Option (List T) :=
  bif iLt 1048576 (l0.length : Int) then
    some [T.b true]
  else
    (c 45 [T.sl l0]).bind fun r249 =>
    (c 44 [T.sl (asL (nth r249 0))]).bind fun r250 =>
    (c 45 [T.sl l0]).bind fun r251 =>
    (c 46 [T.sl (asL (nth r251 0))]).bind fun r252 =>
    (c 28 [T.st [T.i .i64 (asI (T.cell (nth r252 0) 0)), T.sl (asL (T.cell (nth r252 0) 1))], T.st [T.i .i64 (asI (T.cell (nth r250 0) 0)), T.sl (asL (T.cell (nth r250 0) 1))]]).bind fun r253 =>
    bif !(asB (nth r253 0)) then
      some [T.b false]
    else
      bif !((asB (nth r252 1)) == (asB (nth r250 1))) then
        some [T.b false]
      else
        (c 45 [T.sl l0]).bind fun r254 =>
        (c 27 [T.sl (asL (nth r251 0)), T.sl (asL (nth r254 0))]).bind fun r255 =>
        bif !(asB (nth r255 0)) then
          some [T.b false]
        else
          (c 30 [T.sl (asL (nth r251 0)), T.i .i64 1]).bind fun r256 =>
          bif iLt (asI (nth r256 0)) 0 then
            some [T.b false]
          else
            (c 28 [T.st [T.i .i64 (asI (T.cell (nth r252 0) 0)), T.sl (asL (T.cell (nth r252 0) 1))], T.st [T.i .i64 (asI (T.cell (nth r250 0) 0)), T.sl (asL (T.cell (nth r250 0) 1))]]).bind fun r257 =>
            bif !(asB (nth r257 0)) then
              some [T.b false]
            else
              bif !((asB (nth r252 1)) == (asB (nth r250 1))) then
                some [T.b false]
              else
                (c 29 [T.st [T.i .i64 (asI (T.cell (nth r252 0) 0)), T.sl (asL (T.cell (nth r252 0) 1))], T.i .i64 1]).bind fun r258 =>
                (c 47 [T.st [T.i .i64 (asI (T.cell (nth r252 0) 0)), T.sl (asL (nth r258 1))], T.i .i64 1]).bind fun r259 =>
                bif iLt (asI (nth r259 0)) 0 then
                  some [T.b false]
                else
                  bif (asI (nth r259 0)) != (asI (nth r258 0)) then
                    some [T.b false]
                  else
                    (c 45 [T.sl l0]).bind fun r260 =>
                    (c 46 [T.sl (asL (nth r260 0))]).bind fun r261 =>
                    (c 28 [T.st [T.i .i64 (asI (T.cell (nth r261 0) 0)), T.sl (asL (T.cell (nth r261 0) 1))], T.st [T.i .i64 (asI (T.cell (nth r250 0) 0)), T.sl (asL (T.cell (nth r250 0) 1))]]).bind fun r262 =>
                    bif !(asB (nth r262 0)) then
                      some [T.b false]
                    else
                      bif !((asB (nth r261 1)) == (asB (nth r250 1))) then
                        some [T.b false]
                      else
                        (c 47 [T.st [T.i .i64 (asI (T.cell (nth r252 0) 0)), T.sl (asL (nth r258 1))], T.i .i64 1]).bind fun r263 =>
                        bif iLt (asI (nth r263 0)) 0 then
                          some [T.b false]
                        else
                          bif (asI (nth r263 0)) != (asI (nth r258 0)) then
                            some [T.b false]
                          else
                            some [T.b true]
def f7 (c : Orc) (lf : Nat) (l0 : List T) : Option (List T) := f7_t c lf l0
theorem f7_raw (c : Orc) (lf : Nat) (l0 : List T) : funK c env lf 6 fi7 [.sl l0] = f7_t c lf l0 := by kernel_rfl
theorem f7_eq (c : Orc) (lf : Nat) (l0 : List T) : funK c env lf 6 fi7 [.sl l0] = f7 c lf l0 := by
  refine (f7_raw c lf l0).trans ?_
  rfl
end Go.Proofs.Ytockabaoaneplaa.T
