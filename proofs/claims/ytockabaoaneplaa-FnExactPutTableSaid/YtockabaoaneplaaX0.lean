/- What functions of the law FnExactPutTable come to, in trees; no condition. -/
import Derived.Test.YtockabaoaneplaaRows
import Derived.Test.YtockabaoaneplaaV4
import Derived.KernelRfl
set_option linter.unusedVariables false
set_option linter.constructorNameAsVariable false
set_option linter.unusedSimpArgs false
set_option linter.unnecessarySimpa false
namespace Go.Proofs.Ytockabaoaneplaa.T
open Go Go.Proofs.YtockabaoaneplaaV
def tyTab : List (Nat × Ti) := [
  (3, ⟨false, [.i .i64], .o⟩),
  (4, ⟨false, [.b], .o⟩),
  (5, ⟨false, [.i .u8], .o⟩),
  (9, ⟨false, [.s], .o⟩),
  (22, ⟨false, [.sl false [.i .u8]], .sl 5⟩),
  (37, ⟨false, [.sl true [.i .i64, .s, .b, .i .i64, .i .i64]], .sl 158⟩),
  (39, ⟨true, [.i .i64, .sl true [.i .i64, .s, .b, .i .i64, .i .i64]], .st [(0, 3), (1, 37)]⟩),
  (42, ⟨false, [.sl true [.i .i64, .s, .b, .i .i64, .i .i64]], .sl 91⟩),
  (44, ⟨true, [.i .i64, .sl true [.i .i64, .s, .b, .i .i64, .i .i64]], .st [(0, 3), (1, 42)]⟩),
  (91, ⟨true, [.i .i64, .s, .b, .i .i64, .i .i64], .st [(0, 3), (1, 9), (2, 4), (3, 3), (4, 3)]⟩),
  (143, ⟨false, [.o], .o⟩),
  (158, ⟨true, [.i .i64, .s, .b, .i .i64, .i .i64], .st [(0, 3), (1, 9), (2, 4), (3, 3), (4, 3)]⟩),
  (159, ⟨false, [.i .u64], .o⟩)]
noncomputable def fi127 : Fi := ⟨Try.f127, [], false, [.ag [.v (.i .i64), .v (.s), .v (.b), .v (.i .i64), .v (.i .i64)], .v (.i .i64)], [.v (.i .i64)]⟩
def x78_5_0 : List (Ex × List Nat × CSt) := [(.ret, [4], ⟨[.i .i64 0], [.dead, .dead]⟩), ((.ex 0), [1], ⟨[.i .i64 0], [.dead, .dead]⟩)]
noncomputable def fi78 : Fi := ⟨Try.f78, [⟨5, [0, 1, 5], [], [(⟨[.ro 0 true [.i .i64, .s, .b, .i .i64, .i .i64] [], .i .i64 0, .i .i64 0], [.dead, .dead]⟩, x78_5_0)]⟩], false, [.ro (.sl true [.i .i64, .s, .b, .i .i64, .i .i64]), .v (.i .i64)], [.v (.i .i64)]⟩
noncomputable def fi23 : Fi := ⟨Try.f23, [], false, [.ag [.v (.i .i64), .ro (.sl true [.i .i64, .s, .b, .i .i64, .i .i64])], .v (.i .i64)], [.v (.i .i64)]⟩
noncomputable def fi128 : Fi := ⟨Try.f128, [], false, [.ag [.v (.i .i64), .v (.s), .v (.b), .v (.i .i64), .v (.i .i64)]], [.ag [.v (.i .i64), .v (.s), .v (.b), .v (.i .i64), .v (.i .i64)]]⟩
def x81_3_0 : List (Ex × List Nat × CSt) := [((.ex 0), [3], ⟨[.rf 1 [] 0 none], [.dead, .row true [.i .i64, .s, .b, .i .i64, .i .i64] [] 0 false]⟩)]
noncomputable def fi81 : Fi := ⟨Try.f81, [⟨3, [0, 3, 4], [], [(⟨[.ro 0 true [.i .i64, .s, .b, .i .i64, .i .i64] [], .rf 1 [] 0 none, .i .i64 0], [.dead, .row true [.i .i64, .s, .b, .i .i64, .i .i64] [] 0 false]⟩, x81_3_0)]⟩], false, [.ro (.sl true [.i .i64, .s, .b, .i .i64, .i .i64])], [.ow (.sl true [.i .i64, .s, .b, .i .i64, .i .i64])]⟩
noncomputable def fi25 : Fi := ⟨Try.f25, [], false, [.ag [.v (.i .i64), .ro (.sl true [.i .i64, .s, .b, .i .i64, .i .i64])]], [.ag [.v (.i .i64), .ow (.sl true [.i .i64, .s, .b, .i .i64, .i .i64])]]⟩
noncomputable def fi77 : Fi := ⟨Try.f77, [], false, [.v (.i .i64), .v (.i .i64), .v (.i .i64)], [.v (.b)]⟩
def x109_2_0 : List (Ex × List Nat × CSt) := [(.ret, [2], ⟨[.b false], [.dead]⟩), ((.ex 0), [0], ⟨[.s (⟨#[]⟩ : ByteArray)], [.dead]⟩)]
noncomputable def fi109 : Fi := ⟨Try.f109, [⟨2, [0, 3], [], [(⟨[.s (⟨#[]⟩ : ByteArray), .i .i64 0], [.dead]⟩, x109_2_0)]⟩], false, [.v (.s)], [.v (.b)]⟩
def x53_2_0 : List (Ex × List Nat × CSt) := [(.ret, [2], ⟨[.b false], [.dead, .dead]⟩), ((.ex 0), [1], ⟨[.bp 2 0], [.dead, .dead, .box [.i .i64 0, .ro 0 true [.i .i64, .s, .b, .i .i64, .i .i64] []]]⟩)]
def x53_8_0 : List (Ex × List Nat × CSt) := [((.ex 2), [1, 3], ⟨[.bp 2 0, .i .i64 0], [.dead, .dead, .box [.i .i64 0, .ro 0 true [.i .i64, .s, .b, .i .i64, .i .i64] []]]⟩), (.ret, [2], ⟨[.b false], [.dead, .dead]⟩)]
noncomputable def fi53 : Fi := ⟨Try.f53, [⟨2, [1, 3], [], [(⟨[.bp 2 0, .i .i64 0], [.dead, .dead, .box [.i .i64 0, .ro 0 true [.i .i64, .s, .b, .i .i64, .i .i64] []]]⟩, x53_2_0)]⟩, ⟨8, [1, 3, 4, 5], [], [(⟨[.bp 2 0, .i .i64 0, .bp 3 0, .i .i64 0], [.dead, .dead, .box [.i .i64 0, .ro 0 true [.i .i64, .s, .b, .i .i64, .i .i64] []], .box [.i .i64 0, .s (⟨#[]⟩ : ByteArray), .b false, .i .i64 0, .i .i64 0]]⟩, x53_8_0)]⟩], false, [.ag [.v (.i .i64), .ro (.sl true [.i .i64, .s, .b, .i .i64, .i .i64])]], [.v (.b)]⟩
def x79_6_0 : List (Ex × List Nat × CSt) := [((.ex 0), [1, 5], ⟨[.i .i64 0, .rf 2 [] 0 none], [.dead, .dead, .row false [.i .u8] [] 0 false]⟩)]
noncomputable def fi79 : Fi := ⟨Try.f79, [⟨6, [1, 5], [], [(⟨[.i .i64 0, .rf 2 [] 0 none], [.dead, .dead, .row false [.i .u8] [] 0 false]⟩, x79_6_0)]⟩], false, [.ro (.sl false [.i .u8]), .v (.i .i64)], [.ow (.sl false [.i .u8])]⟩
noncomputable def fi80 : Fi := ⟨Try.f80, [], false, [.ro (.sl false [.i .u8]), .v (.s)], [.ow (.sl false [.i .u8])]⟩
def x24_5_0 : List (Ex × List Nat × CSt) := [((.ex 0), [3], ⟨[.rf 2 [] 0 none], [.dead, .dead, .row false [.i .u8] [] 0 false]⟩)]
noncomputable def fi24 : Fi := ⟨Try.f24, [⟨5, [1, 3, 4], [], [(⟨[.bp 2 0, .rf 3 [] 0 none, .i .i64 0], [.dead, .dead, .box [.i .i64 0, .ro 0 true [.i .i64, .s, .b, .i .i64, .i .i64] []], .row false [.i .u8] [] 0 false]⟩, x24_5_0)]⟩], false, [.ag [.v (.i .i64), .ro (.sl true [.i .i64, .s, .b, .i .i64, .i .i64])]], [.ow (.sl false [.i .u8])]⟩
def x90_2_0 : List (Ex × List Nat × CSt) := [(.ret, [2], ⟨[.b false], [.dead]⟩), ((.ex 0), [0], ⟨[.s (⟨#[]⟩ : ByteArray)], [.dead]⟩)]
noncomputable def fi90 : Fi := ⟨Try.f90, [⟨2, [0, 6, 7], [], [(⟨[.s (⟨#[]⟩ : ByteArray), .i .i64 0, .i .i64 0], [.dead]⟩, x90_2_0)]⟩], false, [.v (.s)], [.v (.b)]⟩
noncomputable def fi76 : Fi := ⟨Try.f76, [], false, [.v (.i .i64), .v (.i .i64), .v (.i .i64)], [.v (.b)]⟩
noncomputable def fi106 : Fi := ⟨Try.f106, [], false, [.v (.i .i64)], [.v (.b)]⟩
noncomputable def fi108 : Fi := ⟨Try.f108, [], true, [], []⟩
def x140_2_0 : List (Ex × List Nat × CSt) := [(.ret, [4], ⟨[.i .i64 0], [.box [.i .i64 0, .s (⟨#[]⟩ : ByteArray), .b false, .i .i64 0, .i .i64 0]]⟩), ((.ex 0), [], ⟨[], [.box [.i .i64 0, .s (⟨#[]⟩ : ByteArray), .b false, .i .i64 0, .i .i64 0]]⟩)]
noncomputable def fi140 : Fi := ⟨Try.f140, [⟨2, [0, 1, 7, 8], [], [(⟨[.ro 0 true [.i .i64, .s, .b, .i .i64, .i .i64] [], .fn 108 [.bp 0 0], .i .i64 0, .i .i64 0], [.box [.i .i64 0, .s (⟨#[]⟩ : ByteArray), .b false, .i .i64 0, .i .i64 0]]⟩, x140_2_0)]⟩], true, [], []⟩
noncomputable def fi107 : Fi := ⟨Try.f107, [], true, [], []⟩
def x52_2_0 : List (Ex × List Nat × CSt) := [(.ret, [2], ⟨[.b false], [.dead, .dead]⟩), ((.ex 0), [1], ⟨[.bp 2 0], [.dead, .dead, .box [.i .i64 0, .ro 0 true [.i .i64, .s, .b, .i .i64, .i .i64] []]]⟩)]
noncomputable def fi52 : Fi := ⟨Try.f52, [⟨2, [1, 6, 7, 8], [], [(⟨[.bp 2 0, .ro 0 true [.i .i64, .s, .b, .i .i64, .i .i64] [], .i .i64 0, .i .i64 0], [.dead, .dead, .box [.i .i64 0, .ro 0 true [.i .i64, .s, .b, .i .i64, .i .i64] []]]⟩, x52_2_0)]⟩], false, [.ag [.v (.i .i64), .ro (.sl true [.i .i64, .s, .b, .i .i64, .i .i64])]], [.v (.b)]⟩
noncomputable def fi123 : Fi := ⟨Try.f123, [], false, [.ro (.sl false [.i .u8])], [.ow (.sl false [.i .u8])]⟩
def x67_3_0 : List (Ex × List Nat × CSt) := [((.ex 0), [1, 5], ⟨[.i .i64 0, .rf 2 [] 0 none], [.dead, .dead, .row false [.i .u8] [] 0 false]⟩)]
noncomputable def fi67 : Fi := ⟨Try.f67, [⟨3, [1, 5], [], [(⟨[.i .i64 0, .rf 2 [] 0 none], [.dead, .dead, .row false [.i .u8] [] 0 false]⟩, x67_3_0)]⟩], false, [.ro (.sl false [.i .u8]), .v (.i .i64)], [.ow (.sl false [.i .u8])]⟩
noncomputable def fi82 : Fi := ⟨Try.f82, [], false, [.ro (.sl false [.i .u8]), .v (.s)], [.ow (.sl false [.i .u8])]⟩
def x26_5_0 : List (Ex × List Nat × CSt) := [((.ex 0), [3], ⟨[.rf 2 [] 0 none], [.dead, .dead, .row false [.i .u8] [] 0 false]⟩)]
noncomputable def fi26 : Fi := ⟨Try.f26, [⟨5, [3, 18, 19, 20], [], [(⟨[.rf 2 [] 0 none, .ro 0 true [.i .i64, .s, .b, .i .i64, .i .i64] [], .i .i64 0, .i .i64 0], [.dead, .dead, .row false [.i .u8] [] 0 false]⟩, x26_5_0)]⟩], false, [.ag [.v (.i .i64), .ro (.sl true [.i .i64, .s, .b, .i .i64, .i .i64])]], [.ow (.sl false [.i .u8])]⟩
def x27_4_0 : List (Ex × List Nat × CSt) := [(.ret, [4], ⟨[.b false], [.dead, .dead]⟩), ((.ex 0), [], ⟨[], [.dead, .dead]⟩)]
noncomputable def fi27 : Fi := ⟨Try.f27, [⟨4, [0, 1, 5], [], [(⟨[.ro 0 false [.i .u8] [], .ro 0 false [.i .u8] [], .i .i64 0], [.dead, .dead]⟩, x27_4_0)]⟩], false, [.ro (.sl false [.i .u8]), .ro (.sl false [.i .u8])], [.v (.b)]⟩
noncomputable def fi129 : Fi := ⟨Try.f129, [], false, [.ag [.v (.i .i64), .v (.s), .v (.b), .v (.i .i64), .v (.i .i64)], .ag [.v (.i .i64), .v (.s), .v (.b), .v (.i .i64), .v (.i .i64)]], [.v (.b)]⟩
def x83_4_0 : List (Ex × List Nat × CSt) := [(.ret, [4], ⟨[.b false], [.dead, .dead]⟩), ((.ex 0), [], ⟨[], [.dead, .dead]⟩)]
noncomputable def fi83 : Fi := ⟨Try.f83, [⟨4, [0, 1, 5], [], [(⟨[.ro 0 true [.i .i64, .s, .b, .i .i64, .i .i64] [], .ro 0 true [.i .i64, .s, .b, .i .i64, .i .i64] [], .i .i64 0], [.dead, .dead]⟩, x83_4_0)]⟩], false, [.ro (.sl true [.i .i64, .s, .b, .i .i64, .i .i64]), .ro (.sl true [.i .i64, .s, .b, .i .i64, .i .i64])], [.v (.b)]⟩
noncomputable def fi28 : Fi := ⟨Try.f28, [], false, [.ag [.v (.i .i64), .ro (.sl true [.i .i64, .s, .b, .i .i64, .i .i64])], .ag [.v (.i .i64), .ro (.sl true [.i .i64, .s, .b, .i .i64, .i .i64])]], [.v (.b)]⟩
def x130_4_0 : List (Ex × List Nat × CSt) := [((.ex 0), [3], ⟨[.s (⟨#[]⟩ : ByteArray)], [.dead]⟩)]
noncomputable def fi130 : Fi := ⟨Try.f130, [⟨4, [0, 3], [], [(⟨[.i .i64 0, .s (⟨#[]⟩ : ByteArray)], [.dead]⟩, x130_4_0)]⟩], false, [.v (.i .i64)], [.v (.s)]⟩
def x84_2_0 : List (Ex × List Nat × CSt) := [((.ex 0), [1], ⟨[.i .i64 0], [.row true [.i .i64, .s, .b, .i .i64, .i .i64] [] 0 false, .dead]⟩)]
noncomputable def fi84 : Fi := ⟨Try.f84, [⟨2, [0, 1, 5], [], [(⟨[.rf 0 [] 0 none, .i .i64 0, .i .i64 0], [.row true [.i .i64, .s, .b, .i .i64, .i .i64] [] 0 false, .dead]⟩, x84_2_0)]⟩], false, [.ow (.sl true [.i .i64, .s, .b, .i .i64, .i .i64]), .v (.i .i64)], [.v (.i .i64)]⟩
noncomputable def fi29 : Fi := ⟨Try.f29, [], false, [.ag [.v (.i .i64), .ow (.sl true [.i .i64, .s, .b, .i .i64, .i .i64])], .v (.i .i64)], [.v (.i .i64)]⟩
def x30_2_0 : List (Ex × List Nat × CSt) := [((.ex 0), [1], ⟨[.i .i64 0], [.row false [.i .u8] [] 0 false, .dead]⟩)]
noncomputable def fi30 : Fi := ⟨Try.f30, [⟨2, [0, 1, 5], [], [(⟨[.rf 0 [] 0 none, .i .i64 0, .i .i64 0], [.row false [.i .u8] [] 0 false, .dead]⟩, x30_2_0)]⟩], false, [.ow (.sl false [.i .u8]), .v (.i .i64)], [.v (.i .i64)]⟩
def x31_2_0 : List (Ex × List Nat × CSt) := [(.ret, [4], ⟨[.i .i64 0], [.dead, .dead]⟩), ((.ex 0), [1], ⟨[.i .i64 0], [.dead, .dead]⟩)]
noncomputable def fi31 : Fi := ⟨Try.f31, [⟨2, [0, 1, 5], [], [(⟨[.ro 0 false [.i .u8] [], .i .i64 0, .i .i64 0], [.dead, .dead]⟩, x31_2_0)]⟩], false, [.ro (.sl false [.i .u8]), .v (.i .i64)], [.v (.i .i64)]⟩
noncomputable def fi4 : Fi := ⟨Try.f4, [], false, [.ag [.v (.i .i64), .ro (.sl true [.i .i64, .s, .b, .i .i64, .i .i64])]], [.v (.b)]⟩
noncomputable def fiTab : List (Nat × Fi) := [(127, fi127), (78, fi78), (23, fi23), (128, fi128), (81, fi81), (25, fi25), (77, fi77), (109, fi109), (53, fi53), (79, fi79), (80, fi80), (24, fi24), (90, fi90), (76, fi76), (106, fi106), (108, fi108), (140, fi140), (107, fi107), (52, fi52), (123, fi123), (67, fi67), (82, fi82), (26, fi26), (27, fi27), (129, fi129), (83, fi83), (28, fi28), (130, fi130), (84, fi84), (29, fi29), (30, fi30), (31, fi31), (4, fi4)]
-- EXT 123 clone 22 5
def X : Nat → Option (List T → Option (List T)) := lookN [(123, cloneF)]
noncomputable def env : Env := ⟨lookN fiTab, lookN tyTab⟩
-- FUNCTIONS
/-- loop.example/g00285/laws.szRow -/
def f127_t (c : Orc) (lf : Nat) (n0_0 : Int) (s0_1 : ByteArray) (b0_2 : Bool) (n0_3 : Int) (n0_4 : Int) (n1 : Int) : Option (List T) :=
  bif iLt (IntKind.wrap .i64 (n1 - (s0_1.size : Int))) 0 then
    some [T.i .i64 (-1)]
  else
    some [T.i .i64 (IntKind.wrap .i64 (n1 - (s0_1.size : Int)))]
def f127 (c : Orc) (lf : Nat) (n0_0 : Int) (s0_1 : ByteArray) (b0_2 : Bool) (n0_3 : Int) (n0_4 : Int) (n1 : Int) : Option (List T) := f127_t c lf n0_0 s0_1 b0_2 n0_3 n0_4 n1
theorem f127_raw (c : Orc) (lf : Nat) (n0_0 : Int) (s0_1 : ByteArray) (b0_2 : Bool) (n0_3 : Int) (n0_4 : Int) (n1 : Int) : funK c env lf 6 fi127 [.st [.i .i64 n0_0, .s s0_1, .b b0_2, .i .i64 n0_3, .i .i64 n0_4], .i .i64 n1] = f127_t c lf n0_0 s0_1 b0_2 n0_3 n0_4 n1 := by kernel_rfl
theorem f127_eq (c : Orc) (lf : Nat) (n0_0 : Int) (s0_1 : ByteArray) (b0_2 : Bool) (n0_3 : Int) (n0_4 : Int) (n1 : Int) : funK c env lf 6 fi127 [.st [.i .i64 n0_0, .s s0_1, .b b0_2, .i .i64 n0_3, .i .i64 n0_4], .i .i64 n1] = f127 c lf n0_0 s0_1 b0_2 n0_3 n0_4 n1 := by
  refine (f127_raw c lf n0_0 s0_1 b0_2 n0_3 n0_4 n1).trans ?_
  rfl
/-- loop.example/g00285/laws.szRowS, the loop at region 5. -/
def f78_0_s (c : Orc) (lf : Nat) (l0 : List T) (L : Int → Int → Option (List T)) (x7 : Int) (x8 : Int) : Option (List T) :=
  bif iLt x8 (l0.length : Int) then
    bif inR x8 l0.length then
    (c 127 [T.st [T.i .i64 (asI (T.cell (l0.getD x8.toNat T.u) 0)), T.s (asS (T.cell (l0.getD x8.toNat T.u) 1)), T.b (asB (T.cell (l0.getD x8.toNat T.u) 2)), T.i .i64 (asI (T.cell (l0.getD x8.toNat T.u) 3)), T.i .i64 (asI (T.cell (l0.getD x8.toNat T.u) 4))], T.i .i64 x7]).bind fun r9 =>
    bif iLt (asI (nth r9 0)) 0 then
      some [T.i .i64 0, T.i .i64 (-1)]
    else
      L (asI (nth r9 0)) (IntKind.wrap .i64 (x8 + 1))
    else none
  else
    some [T.i .i64 1, T.i .i64 x7]
def f78_0_c (l0 : List T) (x7 : Int) (x8 : Int) : CSt := ⟨[.ro 0 true [.i .i64, .s, .b, .i .i64, .i .i64] l0, .i .i64 x7, .i .i64 x8], [.dead, .dead]⟩
theorem f78_0_round (c : Orc) (lf : Nat) (l0 : List T) (L : CSt → Option (List T)) (x7 : Int) (x8 : Int) :
    roundK c env lf 6 fi78 2 5 [] [0, 1, 5] (x78_5_0) L (f78_0_c l0 x7 x8) = f78_0_s c lf l0 (fun x7 x8 => L (f78_0_c l0 x7 x8)) x7 x8 := by kernel_rfl
def f78_0 (c : Orc) (lf : Nat) (l0 : List T) : Nat → Int → Int → Option (List T)
  | 0 => fun _ _ => none
  | n + 1 => fun x7 x8 => f78_0_s c lf l0 (f78_0 c lf l0 n) x7 x8
theorem f78_0_u (c : Orc) (lf : Nat) (l0 : List T) (n : Nat) (x7 : Int) (x8 : Int) : f78_0 c lf l0 (n + 1) x7 x8 = f78_0_s c lf l0 (f78_0 c lf l0 n) x7 x8 := rfl
theorem f78_0_eq (c : Orc) (lf : Nat) (l0 : List T) (n : Nat) (x7 : Int) (x8 : Int) :
    lpK c env lf 6 fi78 2 5 [] [0, 1, 5] (x78_5_0) n (f78_0_c l0 x7 x8) = f78_0 c lf l0 n x7 x8 := by
  induction n generalizing x7 x8 with
  | zero => rfl
  | succ n ih =>
    refine (f78_0_round c lf l0 _ x7 x8).trans ?_
    have e : (fun x7 x8 => lpK c env lf 6 fi78 2 5 [] [0, 1, 5] (x78_5_0) n (f78_0_c l0 x7 x8)) = f78_0 c lf l0 n := by funext x7 x8; exact ih x7 x8
    show f78_0_s c lf l0 (fun x7 x8 => lpK c env lf 6 fi78 2 5 [] [0, 1, 5] (x78_5_0) n (f78_0_c l0 x7 x8)) x7 x8 = _
    rw [e]; rfl
/-- loop.example/g00285/laws.szRowS -/
def f78_t (c : Orc) (lf : Nat) (lp0 : List T → Int → Int → Option (List T)) (l0 : List T) (n1 : Int) : Option (List T) :=
  bif iLt (IntKind.wrap .i64 (n1 - (l0.length : Int))) 0 then
    some [T.i .i64 (-1)]
  else
    (lp0 l0 (IntKind.wrap .i64 (n1 - (l0.length : Int))) 0).bind fun r10 =>
    bif asI (nth r10 0) == 0 then
      some [T.i .i64 (asI (nth r10 1))]
    else
      some [T.i .i64 (asI (nth r10 1))]
def f78 (c : Orc) (lf : Nat) (l0 : List T) (n1 : Int) : Option (List T) := f78_t c lf (fun (l0 : List T) (x7 : Int) (x8 : Int) => f78_0 c lf l0 lf x7 x8) l0 n1
theorem f78_raw (c : Orc) (lf : Nat) (l0 : List T) (n1 : Int) : funK c env lf 6 fi78 [.sl l0, .i .i64 n1] = f78_t c lf (fun (l0 : List T) (x7 : Int) (x8 : Int) => lpK c env lf 6 fi78 2 5 [] [0, 1, 5] (x78_5_0) lf (f78_0_c l0 x7 x8)) l0 n1 := by kernel_rfl
theorem f78_eq (c : Orc) (lf : Nat) (l0 : List T) (n1 : Int) : funK c env lf 6 fi78 [.sl l0, .i .i64 n1] = f78 c lf l0 n1 := by
  refine (f78_raw c lf l0 n1).trans ?_
  have e0 : (fun (l0 : List T) (x7 : Int) (x8 : Int) => lpK c env lf 6 fi78 2 5 [] [0, 1, 5] (x78_5_0) lf (f78_0_c l0 x7 x8)) = (fun (l0 : List T) (x7 : Int) (x8 : Int) => f78_0 c lf l0 lf x7 x8) := by funext l0 x7 x8; exact f78_0_eq c lf l0 lf x7 x8
  rw [e0]; rfl
/-- loop.example/g00285/laws.szTable -/
def f23_t (c : Orc) (lf : Nat) (n0_0 : Int) (l0_1 : List T) (n1 : Int) : Option (List T) :=
  (c 78 [T.sl l0_1, T.i .i64 n1]).bind fun r11 =>
  bif iLt (asI (nth r11 0)) 0 then
    some [T.i .i64 (-1)]
  else
    some [T.i .i64 (asI (nth r11 0))]
def f23 (c : Orc) (lf : Nat) (n0_0 : Int) (l0_1 : List T) (n1 : Int) : Option (List T) := f23_t c lf n0_0 l0_1 n1
theorem f23_raw (c : Orc) (lf : Nat) (n0_0 : Int) (l0_1 : List T) (n1 : Int) : funK c env lf 6 fi23 [.st [.i .i64 n0_0, .sl l0_1], .i .i64 n1] = f23_t c lf n0_0 l0_1 n1 := by kernel_rfl
theorem f23_eq (c : Orc) (lf : Nat) (n0_0 : Int) (l0_1 : List T) (n1 : Int) : funK c env lf 6 fi23 [.st [.i .i64 n0_0, .sl l0_1], .i .i64 n1] = f23 c lf n0_0 l0_1 n1 := by
  refine (f23_raw c lf n0_0 l0_1 n1).trans ?_
  rfl
/-- loop.example/g00285/laws.toRow -/
def f128_t (c : Orc) (lf : Nat) (n0_0 : Int) (s0_1 : ByteArray) (b0_2 : Bool) (n0_3 : Int) (n0_4 : Int) : Option (List T) :=
  some [T.st [T.i .i64 n0_0, T.s s0_1, T.b b0_2, T.i .i64 n0_3, T.i .i64 n0_4]]
def f128 (c : Orc) (lf : Nat) (n0_0 : Int) (s0_1 : ByteArray) (b0_2 : Bool) (n0_3 : Int) (n0_4 : Int) : Option (List T) := f128_t c lf n0_0 s0_1 b0_2 n0_3 n0_4
theorem f128_raw (c : Orc) (lf : Nat) (n0_0 : Int) (s0_1 : ByteArray) (b0_2 : Bool) (n0_3 : Int) (n0_4 : Int) : funK c env lf 6 fi128 [.st [.i .i64 n0_0, .s s0_1, .b b0_2, .i .i64 n0_3, .i .i64 n0_4]] = f128_t c lf n0_0 s0_1 b0_2 n0_3 n0_4 := by kernel_rfl
theorem f128_eq (c : Orc) (lf : Nat) (n0_0 : Int) (s0_1 : ByteArray) (b0_2 : Bool) (n0_3 : Int) (n0_4 : Int) : funK c env lf 6 fi128 [.st [.i .i64 n0_0, .s s0_1, .b b0_2, .i .i64 n0_3, .i .i64 n0_4]] = f128 c lf n0_0 s0_1 b0_2 n0_3 n0_4 := by
  refine (f128_raw c lf n0_0 s0_1 b0_2 n0_3 n0_4).trans ?_
  rfl
/-- loop.example/g00285/laws.toRowS, the loop at region 3. -/
def f81_0_s (c : Orc) (lf : Nat) (l0 : List T) (L : Int → List T → Option (List T)) (x18 : Int) (x19 : List T) : Option (List T) :=
  bif iLt x18 (l0.length : Int) then
    bif inR x18 l0.length then
    (c 128 [T.st [T.i .i64 (asI (T.cell (l0.getD x18.toNat T.u) 0)), T.s (asS (T.cell (l0.getD x18.toNat T.u) 1)), T.b (asB (T.cell (l0.getD x18.toNat T.u) 2)), T.i .i64 (asI (T.cell (l0.getD x18.toNat T.u) 3)), T.i .i64 (asI (T.cell (l0.getD x18.toNat T.u) 4))]]).bind fun r20 =>
    bif inR x18 x19.length then
    L (IntKind.wrap .i64 (x18 + 1)) (x19.set x18.toNat (T.st [T.i .i64 (asI (T.cell (nth r20 0) 0)), T.s (asS (T.cell (nth r20 0) 1)), T.b (asB (T.cell (nth r20 0) 2)), T.i .i64 (asI (T.cell (nth r20 0) 3)), T.i .i64 (asI (T.cell (nth r20 0) 4))]))
    else none
    else none
  else
    some [T.i .i64 0, T.sl x19]
def f81_0_c (l0 : List T) (x18 : Int) (x19 : List T) : CSt := ⟨[.ro 0 true [.i .i64, .s, .b, .i .i64, .i .i64] l0, .rf 1 [] 0 none, .i .i64 x18], [.dead, .row true [.i .i64, .s, .b, .i .i64, .i .i64] x19 0 false]⟩
theorem f81_0_round (c : Orc) (lf : Nat) (l0 : List T) (L : CSt → Option (List T)) (x18 : Int) (x19 : List T) :
    roundK c env lf 6 fi81 1 3 [] [0, 3, 4] (x81_3_0) L (f81_0_c l0 x18 x19) = f81_0_s c lf l0 (fun x18 x19 => L (f81_0_c l0 x18 x19)) x18 x19 := by kernel_rfl
def f81_0 (c : Orc) (lf : Nat) (l0 : List T) : Nat → Int → List T → Option (List T)
  | 0 => fun _ _ => none
  | n + 1 => fun x18 x19 => f81_0_s c lf l0 (f81_0 c lf l0 n) x18 x19
theorem f81_0_u (c : Orc) (lf : Nat) (l0 : List T) (n : Nat) (x18 : Int) (x19 : List T) : f81_0 c lf l0 (n + 1) x18 x19 = f81_0_s c lf l0 (f81_0 c lf l0 n) x18 x19 := rfl
theorem f81_0_eq (c : Orc) (lf : Nat) (l0 : List T) (n : Nat) (x18 : Int) (x19 : List T) :
    lpK c env lf 6 fi81 1 3 [] [0, 3, 4] (x81_3_0) n (f81_0_c l0 x18 x19) = f81_0 c lf l0 n x18 x19 := by
  induction n generalizing x18 x19 with
  | zero => rfl
  | succ n ih =>
    refine (f81_0_round c lf l0 _ x18 x19).trans ?_
    have e : (fun x18 x19 => lpK c env lf 6 fi81 1 3 [] [0, 3, 4] (x81_3_0) n (f81_0_c l0 x18 x19)) = f81_0 c lf l0 n := by funext x18 x19; exact ih x18 x19
    show f81_0_s c lf l0 (fun x18 x19 => lpK c env lf 6 fi81 1 3 [] [0, 3, 4] (x81_3_0) n (f81_0_c l0 x18 x19)) x18 x19 = _
    rw [e]; rfl
/-- loop.example/g00285/laws.toRowS -/
def f81_t (c : Orc) (lf : Nat) (lp0 : List T → Int → List T → Option (List T)) (l0 : List T) : Option (List T) :=
  bif iLe 0 (l0.length : Int) && iLe (l0.length : Int) (LIM : Int) && ((l0.length : Int) == (l0.length : Int)) then
  (lp0 l0 0 (List.replicate (l0.length : Int).toNat (T.st [T.i .i64 0, T.s (⟨#[]⟩ : ByteArray), T.b false, T.i .i64 0, T.i .i64 0]))).bind fun r21 =>
  some [T.sl (asL (nth r21 1))]
  else none
def f81 (c : Orc) (lf : Nat) (l0 : List T) : Option (List T) := f81_t c lf (fun (l0 : List T) (x18 : Int) (x19 : List T) => f81_0 c lf l0 lf x18 x19) l0
theorem f81_raw (c : Orc) (lf : Nat) (l0 : List T) : funK c env lf 6 fi81 [.sl l0] = f81_t c lf (fun (l0 : List T) (x18 : Int) (x19 : List T) => lpK c env lf 6 fi81 1 3 [] [0, 3, 4] (x81_3_0) lf (f81_0_c l0 x18 x19)) l0 := by kernel_rfl
theorem f81_eq (c : Orc) (lf : Nat) (l0 : List T) : funK c env lf 6 fi81 [.sl l0] = f81 c lf l0 := by
  refine (f81_raw c lf l0).trans ?_
  have e0 : (fun (l0 : List T) (x18 : Int) (x19 : List T) => lpK c env lf 6 fi81 1 3 [] [0, 3, 4] (x81_3_0) lf (f81_0_c l0 x18 x19)) = (fun (l0 : List T) (x18 : Int) (x19 : List T) => f81_0 c lf l0 lf x18 x19) := by funext l0 x18 x19; exact f81_0_eq c lf l0 lf x18 x19
  rw [e0]; rfl
/-- loop.example/g00285/laws.toTable -/
def f25_t (c : Orc) (lf : Nat) (n0_0 : Int) (l0_1 : List T) : Option (List T) :=
  (c 81 [T.sl l0_1]).bind fun r22 =>
  some [T.st [T.i .i64 n0_0, T.sl (asL (nth r22 0))]]
def f25 (c : Orc) (lf : Nat) (n0_0 : Int) (l0_1 : List T) : Option (List T) := f25_t c lf n0_0 l0_1
theorem f25_raw (c : Orc) (lf : Nat) (n0_0 : Int) (l0_1 : List T) : funK c env lf 6 fi25 [.st [.i .i64 n0_0, .sl l0_1]] = f25_t c lf n0_0 l0_1 := by kernel_rfl
theorem f25_eq (c : Orc) (lf : Nat) (n0_0 : Int) (l0_1 : List T) : funK c env lf 6 fi25 [.st [.i .i64 n0_0, .sl l0_1]] = f25 c lf n0_0 l0_1 := by
  refine (f25_raw c lf n0_0 l0_1).trans ?_
  rfl
/-- loop.example/g00285/spec.l1In -/
def f77_t (c : Orc) (lf : Nat) (n0 : Int) (n1 : Int) (n2 : Int) : Option (List T) :=
  bif iLe n1 n0 then
    some [T.b (iLe n0 n2)]
  else
    some [T.b false]
def f77 (c : Orc) (lf : Nat) (n0 : Int) (n1 : Int) (n2 : Int) : Option (List T) := f77_t c lf n0 n1 n2
theorem f77_raw (c : Orc) (lf : Nat) (n0 : Int) (n1 : Int) (n2 : Int) : funK c env lf 6 fi77 [.i .i64 n0, .i .i64 n1, .i .i64 n2] = f77_t c lf n0 n1 n2 := by kernel_rfl
theorem f77_eq (c : Orc) (lf : Nat) (n0 : Int) (n1 : Int) (n2 : Int) : funK c env lf 6 fi77 [.i .i64 n0, .i .i64 n1, .i .i64 n2] = f77 c lf n0 n1 n2 := by
  refine (f77_raw c lf n0 n1 n2).trans ?_
  rfl
/-- loop.example/g00285/spec.NameOk, the loop at region 2. -/
def f109_0_s (c : Orc) (lf : Nat) (s0 : ByteArray) (L : Int → Option (List T)) (x32 : Int) : Option (List T) :=
  bif iLt x32 (s0.size : Int) then
    bif inR x32 s0.size then
    (c 77 [T.i .i64 (IntKind.wrap .i64 (byteAt s0 x32)), T.i .i64 97, T.i .i64 122]).bind fun r33 =>
    bif !(asB (nth r33 0)) then
      (c 77 [T.i .i64 (IntKind.wrap .i64 (byteAt s0 x32)), T.i .i64 48, T.i .i64 57]).bind fun r34 =>
      bif !(asB (nth r34 0)) then
        bif (IntKind.wrap .i64 (byteAt s0 x32)) != 95 then
          bif (IntKind.wrap .i64 (byteAt s0 x32)) != 45 then
            bif (IntKind.wrap .i64 (byteAt s0 x32)) != 46 then
              some [T.i .i64 0, T.b false]
            else
              L (IntKind.wrap .i64 (x32 + 1))
          else
            L (IntKind.wrap .i64 (x32 + 1))
        else
          L (IntKind.wrap .i64 (x32 + 1))
      else
        L (IntKind.wrap .i64 (x32 + 1))
    else
      L (IntKind.wrap .i64 (x32 + 1))
    else none
  else
    some [T.i .i64 1, T.s s0]
def f109_0_c (s0 : ByteArray) (x32 : Int) : CSt := ⟨[.s s0, .i .i64 x32], [.dead]⟩
theorem f109_0_round (c : Orc) (lf : Nat) (s0 : ByteArray) (L : CSt → Option (List T)) (x32 : Int) :
    roundK c env lf 6 fi109 1 2 [] [0, 3] (x109_2_0) L (f109_0_c s0 x32) = f109_0_s c lf s0 (fun x32 => L (f109_0_c s0 x32)) x32 := by kernel_rfl
def f109_0 (c : Orc) (lf : Nat) (s0 : ByteArray) : Nat → Int → Option (List T)
  | 0 => fun _ => none
  | n + 1 => fun x32 => f109_0_s c lf s0 (f109_0 c lf s0 n) x32
theorem f109_0_u (c : Orc) (lf : Nat) (s0 : ByteArray) (n : Nat) (x32 : Int) : f109_0 c lf s0 (n + 1) x32 = f109_0_s c lf s0 (f109_0 c lf s0 n) x32 := rfl
theorem f109_0_eq (c : Orc) (lf : Nat) (s0 : ByteArray) (n : Nat) (x32 : Int) :
    lpK c env lf 6 fi109 1 2 [] [0, 3] (x109_2_0) n (f109_0_c s0 x32) = f109_0 c lf s0 n x32 := by
  induction n generalizing x32 with
  | zero => rfl
  | succ n ih =>
    refine (f109_0_round c lf s0 _ x32).trans ?_
    have e : (fun x32 => lpK c env lf 6 fi109 1 2 [] [0, 3] (x109_2_0) n (f109_0_c s0 x32)) = f109_0 c lf s0 n := by funext x32; exact ih x32
    show f109_0_s c lf s0 (fun x32 => lpK c env lf 6 fi109 1 2 [] [0, 3] (x109_2_0) n (f109_0_c s0 x32)) x32 = _
    rw [e]; rfl
/-- loop.example/g00285/spec.NameOk -/
def f109_t (c : Orc) (lf : Nat) (lp0 : ByteArray → Int → Option (List T)) (s0 : ByteArray) : Option (List T) :=
  (lp0 s0 0).bind fun r35 =>
  bif asI (nth r35 0) == 0 then
    some [T.b (asB (nth r35 1))]
  else
    (c 77 [T.i .i64 ((asS (nth r35 1)).size : Int), T.i .i64 1, T.i .i64 14]).bind fun r36 =>
    bif asB (nth r36 0) then
      bif !((asS (nth r35 1)).toList == (⟨#[46]⟩ : ByteArray).toList) then
        some [T.b (!((asS (nth r35 1)).toList == (⟨#[46, 46]⟩ : ByteArray).toList))]
      else
        some [T.b false]
    else
      some [T.b false]
def f109 (c : Orc) (lf : Nat) (s0 : ByteArray) : Option (List T) := f109_t c lf (fun (s0 : ByteArray) (x32 : Int) => f109_0 c lf s0 lf x32) s0
theorem f109_raw (c : Orc) (lf : Nat) (s0 : ByteArray) : funK c env lf 6 fi109 [.s s0] = f109_t c lf (fun (s0 : ByteArray) (x32 : Int) => lpK c env lf 6 fi109 1 2 [] [0, 3] (x109_2_0) lf (f109_0_c s0 x32)) s0 := by kernel_rfl
theorem f109_eq (c : Orc) (lf : Nat) (s0 : ByteArray) : funK c env lf 6 fi109 [.s s0] = f109 c lf s0 := by
  refine (f109_raw c lf s0).trans ?_
  have e0 : (fun (s0 : ByteArray) (x32 : Int) => lpK c env lf 6 fi109 1 2 [] [0, 3] (x109_2_0) lf (f109_0_c s0 x32)) = (fun (s0 : ByteArray) (x32 : Int) => f109_0 c lf s0 lf x32) := by funext s0 x32; exact f109_0_eq c lf s0 lf x32
  rw [e0]; rfl
/-- loop.example/g00285/spec.TableOk, the loop at region 8. -/
def f53_1_s (c : Orc) (lf : Nat) (x57 : Int) (x58 : Int) (x59 : List T) (L : Int → Option (List T)) (x63 : Int) : Option (List T) :=
  bif iLt x63 x57 then
    bif inR x63 x59.length then
    bif (asS (T.cell (x59.getD x63.toNat T.u) 1)).toList == (asS (T.cell (x59.getD x57.toNat T.u) 1)).toList then
      some [T.i .i64 1, T.b false]
    else
      L (IntKind.wrap .i64 (x63 + 1))
    else none
  else
    some [T.i .i64 0, T.i .i64 x57, T.i .i64 x58, T.sl x59]
def f53_1_c (x57 : Int) (x58 : Int) (x59 : List T) (x63 : Int) : CSt := ⟨[.bp 2 0, .i .i64 x57, .bp 3 0, .i .i64 x63], [.dead, .dead, .box [.i .i64 x58, .ro 0 true [.i .i64, .s, .b, .i .i64, .i .i64] x59], .box [.i .i64 (asI (T.cell (x59.getD x57.toNat T.u) 0)), .s (asS (T.cell (x59.getD x57.toNat T.u) 1)), .b (asB (T.cell (x59.getD x57.toNat T.u) 2)), .i .i64 (asI (T.cell (x59.getD x57.toNat T.u) 3)), .i .i64 (asI (T.cell (x59.getD x57.toNat T.u) 4))]]⟩
theorem f53_1_round (c : Orc) (lf : Nat) (x57 : Int) (x58 : Int) (x59 : List T) (L : CSt → Option (List T)) (x63 : Int) :
    roundK c env lf 6 fi53 2 8 [] [1, 3, 4, 5] (x53_8_0) L (f53_1_c x57 x58 x59 x63) = f53_1_s c lf x57 x58 x59 (fun x63 => L (f53_1_c x57 x58 x59 x63)) x63 := by kernel_rfl
def f53_1 (c : Orc) (lf : Nat) (x57 : Int) (x58 : Int) (x59 : List T) : Nat → Int → Option (List T)
  | 0 => fun _ => none
  | n + 1 => fun x63 => f53_1_s c lf x57 x58 x59 (f53_1 c lf x57 x58 x59 n) x63
theorem f53_1_u (c : Orc) (lf : Nat) (x57 : Int) (x58 : Int) (x59 : List T) (n : Nat) (x63 : Int) : f53_1 c lf x57 x58 x59 (n + 1) x63 = f53_1_s c lf x57 x58 x59 (f53_1 c lf x57 x58 x59 n) x63 := rfl
theorem f53_1_eq (c : Orc) (lf : Nat) (x57 : Int) (x58 : Int) (x59 : List T) (n : Nat) (x63 : Int) :
    lpK c env lf 6 fi53 2 8 [] [1, 3, 4, 5] (x53_8_0) n (f53_1_c x57 x58 x59 x63) = f53_1 c lf x57 x58 x59 n x63 := by
  induction n generalizing x63 with
  | zero => rfl
  | succ n ih =>
    refine (f53_1_round c lf x57 x58 x59 _ x63).trans ?_
    have e : (fun x63 => lpK c env lf 6 fi53 2 8 [] [1, 3, 4, 5] (x53_8_0) n (f53_1_c x57 x58 x59 x63)) = f53_1 c lf x57 x58 x59 n := by funext x63; exact ih x63
    show f53_1_s c lf x57 x58 x59 (fun x63 => lpK c env lf 6 fi53 2 8 [] [1, 3, 4, 5] (x53_8_0) n (f53_1_c x57 x58 x59 x63)) x63 = _
    rw [e]; rfl
/-- loop.example/g00285/spec.TableOk, the loop at region 8. -/
def f53_2_s (c : Orc) (lf : Nat) (x57 : Int) (x58 : Int) (x59 : List T) (L : Int → Option (List T)) (x65 : Int) : Option (List T) :=
  bif iLt x65 x57 then
    bif inR x65 x59.length then
    bif (asS (T.cell (x59.getD x65.toNat T.u) 1)).toList == (asS (T.cell (x59.getD x57.toNat T.u) 1)).toList then
      some [T.i .i64 1, T.b false]
    else
      L (IntKind.wrap .i64 (x65 + 1))
    else none
  else
    some [T.i .i64 0, T.i .i64 x57, T.i .i64 x58, T.sl x59]
def f53_2_c (x57 : Int) (x58 : Int) (x59 : List T) (x65 : Int) : CSt := ⟨[.bp 2 0, .i .i64 x57, .bp 3 0, .i .i64 x65], [.dead, .dead, .box [.i .i64 x58, .ro 0 true [.i .i64, .s, .b, .i .i64, .i .i64] x59], .box [.i .i64 (asI (T.cell (x59.getD x57.toNat T.u) 0)), .s (asS (T.cell (x59.getD x57.toNat T.u) 1)), .b (asB (T.cell (x59.getD x57.toNat T.u) 2)), .i .i64 (asI (T.cell (x59.getD x57.toNat T.u) 3)), .i .i64 (asI (T.cell (x59.getD x57.toNat T.u) 4))]]⟩
theorem f53_2_round (c : Orc) (lf : Nat) (x57 : Int) (x58 : Int) (x59 : List T) (L : CSt → Option (List T)) (x65 : Int) :
    roundK c env lf 6 fi53 2 8 [] [1, 3, 4, 5] (x53_8_0) L (f53_2_c x57 x58 x59 x65) = f53_2_s c lf x57 x58 x59 (fun x65 => L (f53_2_c x57 x58 x59 x65)) x65 := by kernel_rfl
def f53_2 (c : Orc) (lf : Nat) (x57 : Int) (x58 : Int) (x59 : List T) : Nat → Int → Option (List T)
  | 0 => fun _ => none
  | n + 1 => fun x65 => f53_2_s c lf x57 x58 x59 (f53_2 c lf x57 x58 x59 n) x65
theorem f53_2_u (c : Orc) (lf : Nat) (x57 : Int) (x58 : Int) (x59 : List T) (n : Nat) (x65 : Int) : f53_2 c lf x57 x58 x59 (n + 1) x65 = f53_2_s c lf x57 x58 x59 (f53_2 c lf x57 x58 x59 n) x65 := rfl
theorem f53_2_eq (c : Orc) (lf : Nat) (x57 : Int) (x58 : Int) (x59 : List T) (n : Nat) (x65 : Int) :
    lpK c env lf 6 fi53 2 8 [] [1, 3, 4, 5] (x53_8_0) n (f53_2_c x57 x58 x59 x65) = f53_2 c lf x57 x58 x59 n x65 := by
  induction n generalizing x65 with
  | zero => rfl
  | succ n ih =>
    refine (f53_2_round c lf x57 x58 x59 _ x65).trans ?_
    have e : (fun x65 => lpK c env lf 6 fi53 2 8 [] [1, 3, 4, 5] (x53_8_0) n (f53_2_c x57 x58 x59 x65)) = f53_2 c lf x57 x58 x59 n := by funext x65; exact ih x65
    show f53_2_s c lf x57 x58 x59 (fun x65 => lpK c env lf 6 fi53 2 8 [] [1, 3, 4, 5] (x53_8_0) n (f53_2_c x57 x58 x59 x65)) x65 = _
    rw [e]; rfl
/-- loop.example/g00285/spec.TableOk, the loop at region 2. -/
def f53_0_s (c : Orc) (lf : Nat) (L : Int → Int → List T → Option (List T)) (lp0 : Int → Int → List T → Int → Option (List T)) (lp1 : Int → Int → List T → Int → Option (List T)) (x57 : Int) (x58 : Int) (x59 : List T) : Option (List T) :=
  bif iLt x57 (x59.length : Int) then
    bif inR x57 x59.length then
    bif iLt (asI (T.cell (x59.getD x57.toNat T.u) 0)) 1 then
      some [T.i .i64 0, T.b false]
    else
      bif iLe x58 (asI (T.cell (x59.getD x57.toNat T.u) 0)) then
        some [T.i .i64 0, T.b false]
      else
        (c 109 [T.s (asS (T.cell (x59.getD x57.toNat T.u) 1))]).bind fun r60 =>
        bif !(asB (nth r60 0)) then
          some [T.i .i64 0, T.b false]
        else
          (c 77 [T.i .i64 (asI (T.cell (x59.getD x57.toNat T.u) 3)), T.i .i64 32, T.i .i64 4000]).bind fun r61 =>
          bif !(asB (nth r61 0)) then
            some [T.i .i64 0, T.b false]
          else
            (c 77 [T.i .i64 (asI (T.cell (x59.getD x57.toNat T.u) 4)), T.i .i64 0, T.i .i64 191]).bind fun r62 =>
            bif !(asB (nth r62 0)) then
              some [T.i .i64 0, T.b false]
            else
              bif iLt 0 x57 then
                bif inR (IntKind.wrap .i64 (x57 - 1)) x59.length then
                bif iLe (asI (T.cell (x59.getD x57.toNat T.u) 0)) (asI (T.cell (x59.getD ((IntKind.wrap .i64 (x57 - 1)).toNat) T.u) 0)) then
                  some [T.i .i64 0, T.b false]
                else
                  (lp0 x57 x58 x59 0).bind fun r64 =>
                  bif asI (nth r64 0) == 0 then
                    L (IntKind.wrap .i64 ((asI (nth r64 1)) + 1)) (asI (nth r64 2)) (asL (nth r64 3))
                  else
                    some [T.i .i64 0, T.b (asB (nth r64 1))]
                else none
              else
                (lp1 x57 x58 x59 0).bind fun r66 =>
                bif asI (nth r66 0) == 0 then
                  L (IntKind.wrap .i64 ((asI (nth r66 1)) + 1)) (asI (nth r66 2)) (asL (nth r66 3))
                else
                  some [T.i .i64 0, T.b (asB (nth r66 1))]
    else none
  else
    some [T.i .i64 1, T.i .i64 x58, T.sl x59]
def f53_0_c (x57 : Int) (x58 : Int) (x59 : List T) : CSt := ⟨[.bp 2 0, .i .i64 x57], [.dead, .dead, .box [.i .i64 x58, .ro 0 true [.i .i64, .s, .b, .i .i64, .i .i64] x59]]⟩
theorem f53_0_round (c : Orc) (lf : Nat) (L : CSt → Option (List T)) (x57 : Int) (x58 : Int) (x59 : List T) :
    roundK c env lf 6 fi53 2 2 [] [1, 3] (x53_2_0) L (f53_0_c x57 x58 x59) = f53_0_s c lf (fun x57 x58 x59 => L (f53_0_c x57 x58 x59)) (fun (x57 : Int) (x58 : Int) (x59 : List T) (x63 : Int) => lpK c env lf 6 fi53 2 8 [] [1, 3, 4, 5] (x53_8_0) lf (f53_1_c x57 x58 x59 x63)) (fun (x57 : Int) (x58 : Int) (x59 : List T) (x65 : Int) => lpK c env lf 6 fi53 2 8 [] [1, 3, 4, 5] (x53_8_0) lf (f53_2_c x57 x58 x59 x65)) x57 x58 x59 := by kernel_rfl
def f53_0 (c : Orc) (lf : Nat) : Nat → Int → Int → List T → Option (List T)
  | 0 => fun _ _ _ => none
  | n + 1 => fun x57 x58 x59 => f53_0_s c lf (f53_0 c lf n) (fun (x57 : Int) (x58 : Int) (x59 : List T) (x63 : Int) => f53_1 c lf x57 x58 x59 lf x63) (fun (x57 : Int) (x58 : Int) (x59 : List T) (x65 : Int) => f53_2 c lf x57 x58 x59 lf x65) x57 x58 x59
theorem f53_0_u (c : Orc) (lf : Nat) (n : Nat) (x57 : Int) (x58 : Int) (x59 : List T) : f53_0 c lf (n + 1) x57 x58 x59 = f53_0_s c lf (f53_0 c lf n) (fun (x57 : Int) (x58 : Int) (x59 : List T) (x63 : Int) => f53_1 c lf x57 x58 x59 lf x63) (fun (x57 : Int) (x58 : Int) (x59 : List T) (x65 : Int) => f53_2 c lf x57 x58 x59 lf x65) x57 x58 x59 := rfl
theorem f53_0_eq (c : Orc) (lf : Nat) (n : Nat) (x57 : Int) (x58 : Int) (x59 : List T) :
    lpK c env lf 6 fi53 2 2 [] [1, 3] (x53_2_0) n (f53_0_c x57 x58 x59) = f53_0 c lf n x57 x58 x59 := by
  induction n generalizing x57 x58 x59 with
  | zero => rfl
  | succ n ih =>
    refine (f53_0_round c lf _ x57 x58 x59).trans ?_
    have e : (fun x57 x58 x59 => lpK c env lf 6 fi53 2 2 [] [1, 3] (x53_2_0) n (f53_0_c x57 x58 x59)) = f53_0 c lf n := by funext x57 x58 x59; exact ih x57 x58 x59
    have e0 : (fun (x57 : Int) (x58 : Int) (x59 : List T) (x63 : Int) => lpK c env lf 6 fi53 2 8 [] [1, 3, 4, 5] (x53_8_0) lf (f53_1_c x57 x58 x59 x63)) = (fun (x57 : Int) (x58 : Int) (x59 : List T) (x63 : Int) => f53_1 c lf x57 x58 x59 lf x63) := by funext x57 x58 x59 x63; exact f53_1_eq c lf x57 x58 x59 lf x63
    have e1 : (fun (x57 : Int) (x58 : Int) (x59 : List T) (x65 : Int) => lpK c env lf 6 fi53 2 8 [] [1, 3, 4, 5] (x53_8_0) lf (f53_2_c x57 x58 x59 x65)) = (fun (x57 : Int) (x58 : Int) (x59 : List T) (x65 : Int) => f53_2 c lf x57 x58 x59 lf x65) := by funext x57 x58 x59 x65; exact f53_2_eq c lf x57 x58 x59 lf x65
    show f53_0_s c lf (fun x57 x58 x59 => lpK c env lf 6 fi53 2 2 [] [1, 3] (x53_2_0) n (f53_0_c x57 x58 x59)) (fun (x57 : Int) (x58 : Int) (x59 : List T) (x63 : Int) => lpK c env lf 6 fi53 2 8 [] [1, 3, 4, 5] (x53_8_0) lf (f53_1_c x57 x58 x59 x63)) (fun (x57 : Int) (x58 : Int) (x59 : List T) (x65 : Int) => lpK c env lf 6 fi53 2 8 [] [1, 3, 4, 5] (x53_8_0) lf (f53_2_c x57 x58 x59 x65)) x57 x58 x59 = _
    rw [e, e0, e1]; rfl
/-- loop.example/g00285/spec.TableOk -/
def f53_t (c : Orc) (lf : Nat) (lp0 : Int → Int → List T → Option (List T)) (n0_0 : Int) (l0_1 : List T) : Option (List T) :=
  (lp0 0 n0_0 l0_1).bind fun r67 =>
  bif asI (nth r67 0) == 0 then
    some [T.b (asB (nth r67 1))]
  else
    bif iLe ((asL (nth r67 2)).length : Int) 6 then
      (c 77 [T.i .i64 (asI (nth r67 1)), T.i .i64 1, T.i .i64 99]).bind fun r68 =>
      some [T.b (asB (nth r68 0))]
    else
      some [T.b false]
def f53 (c : Orc) (lf : Nat) (n0_0 : Int) (l0_1 : List T) : Option (List T) := f53_t c lf (fun (x57 : Int) (x58 : Int) (x59 : List T) => f53_0 c lf lf x57 x58 x59) n0_0 l0_1
theorem f53_raw (c : Orc) (lf : Nat) (n0_0 : Int) (l0_1 : List T) : funK c env lf 6 fi53 [.st [.i .i64 n0_0, .sl l0_1]] = f53_t c lf (fun (x57 : Int) (x58 : Int) (x59 : List T) => lpK c env lf 6 fi53 2 2 [] [1, 3] (x53_2_0) lf (f53_0_c x57 x58 x59)) n0_0 l0_1 := by kernel_rfl
theorem f53_eq (c : Orc) (lf : Nat) (n0_0 : Int) (l0_1 : List T) : funK c env lf 6 fi53 [.st [.i .i64 n0_0, .sl l0_1]] = f53 c lf n0_0 l0_1 := by
  refine (f53_raw c lf n0_0 l0_1).trans ?_
  have e0 : (fun (x57 : Int) (x58 : Int) (x59 : List T) => lpK c env lf 6 fi53 2 2 [] [1, 3] (x53_2_0) lf (f53_0_c x57 x58 x59)) = (fun (x57 : Int) (x58 : Int) (x59 : List T) => f53_0 c lf lf x57 x58 x59) := by funext x57 x58 x59; exact f53_0_eq c lf lf x57 x58 x59
  rw [e0]; rfl
/-- loop.example/g00285/spec.PutNum, the loop at region 6. -/
def f79_0_s (c : Orc) (lf : Nat) (L : Int → List T → Option (List T)) (x76 : Int) (x77 : List T) : Option (List T) :=
  bif iLt 127 x76 then
    bif nLe (x77.length + ([T.i .u8 (IntKind.wrap .u8 (intBits .or .i64 (intBits .and .i64 x76 127) 128))] : List T).length) LIM then
    L (shiftI .shr .i64 x76 7) (x77 ++ ([T.i .u8 (IntKind.wrap .u8 (intBits .or .i64 (intBits .and .i64 x76 127) 128))] : List T))
    else none
  else
    some [T.i .i64 0, T.i .i64 x76, T.sl x77]
def f79_0_c (x76 : Int) (x77 : List T) : CSt := ⟨[.i .i64 x76, .rf 2 [] 0 none], [.dead, .dead, .row false [.i .u8] x77 0 false]⟩
theorem f79_0_round (c : Orc) (lf : Nat) (L : CSt → Option (List T)) (x76 : Int) (x77 : List T) :
    roundK c env lf 6 fi79 2 6 [] [1, 5] (x79_6_0) L (f79_0_c x76 x77) = f79_0_s c lf (fun x76 x77 => L (f79_0_c x76 x77)) x76 x77 := by kernel_rfl
def f79_0 (c : Orc) (lf : Nat) : Nat → Int → List T → Option (List T)
  | 0 => fun _ _ => none
  | n + 1 => fun x76 x77 => f79_0_s c lf (f79_0 c lf n) x76 x77
theorem f79_0_u (c : Orc) (lf : Nat) (n : Nat) (x76 : Int) (x77 : List T) : f79_0 c lf (n + 1) x76 x77 = f79_0_s c lf (f79_0 c lf n) x76 x77 := rfl
theorem f79_0_eq (c : Orc) (lf : Nat) (n : Nat) (x76 : Int) (x77 : List T) :
    lpK c env lf 6 fi79 2 6 [] [1, 5] (x79_6_0) n (f79_0_c x76 x77) = f79_0 c lf n x76 x77 := by
  induction n generalizing x76 x77 with
  | zero => rfl
  | succ n ih =>
    refine (f79_0_round c lf _ x76 x77).trans ?_
    have e : (fun x76 x77 => lpK c env lf 6 fi79 2 6 [] [1, 5] (x79_6_0) n (f79_0_c x76 x77)) = f79_0 c lf n := by funext x76 x77; exact ih x76 x77
    show f79_0_s c lf (fun x76 x77 => lpK c env lf 6 fi79 2 6 [] [1, 5] (x79_6_0) n (f79_0_c x76 x77)) x76 x77 = _
    rw [e]; rfl
/-- loop.example/g00285/spec.PutNum, the loop at region 6. -/
def f79_1_s (c : Orc) (lf : Nat) (l0 : List T) (L : Unit → Option (List T)) : Option (List T) :=
  some [T.i .i64 0, T.i .i64 0, T.sl (([] : List T) ++ l0)]
def f79_1_c (l0 : List T) : CSt := ⟨[.i .i64 0, .rf 2 [] 0 none], [.dead, .dead, .row false [.i .u8] (([] : List T) ++ l0) 0 false]⟩
theorem f79_1_round (c : Orc) (lf : Nat) (l0 : List T) (L : CSt → Option (List T)) :
    roundK c env lf 6 fi79 2 6 [] [1, 5] (x79_6_0) L (f79_1_c l0) = f79_1_s c lf l0 (fun _ => L (f79_1_c l0)) := by kernel_rfl
def f79_1 (c : Orc) (lf : Nat) (l0 : List T) : Nat → Unit → Option (List T)
  | 0 => fun _ => none
  | n + 1 => fun _ => f79_1_s c lf l0 (f79_1 c lf l0 n)
theorem f79_1_u (c : Orc) (lf : Nat) (l0 : List T) (n : Nat) : f79_1 c lf l0 (n + 1) () = f79_1_s c lf l0 (f79_1 c lf l0 n) := rfl
theorem f79_1_eq (c : Orc) (lf : Nat) (l0 : List T) (n : Nat) :
    lpK c env lf 6 fi79 2 6 [] [1, 5] (x79_6_0) n (f79_1_c l0) = f79_1 c lf l0 n () := by
  induction n with
  | zero => rfl
  | succ n ih =>
    refine (f79_1_round c lf l0 _).trans ?_
    have e : (fun (_ : Unit) => lpK c env lf 6 fi79 2 6 [] [1, 5] (x79_6_0) n (f79_1_c l0)) = f79_1 c lf l0 n := by funext _; exact ih
    show f79_1_s c lf l0 (fun _ => lpK c env lf 6 fi79 2 6 [] [1, 5] (x79_6_0) n (f79_1_c l0)) = _
    rw [e]; rfl
/-- loop.example/g00285/spec.PutNum, the loop at region 6. -/
def f79_2_s (c : Orc) (lf : Nat) (L : Int → List T → Option (List T)) (x80 : Int) (x81 : List T) : Option (List T) :=
  bif iLt 127 x80 then
    bif nLe (x81.length + ([T.i .u8 (IntKind.wrap .u8 (intBits .or .i64 (intBits .and .i64 x80 127) 128))] : List T).length) LIM then
    L (shiftI .shr .i64 x80 7) (x81 ++ ([T.i .u8 (IntKind.wrap .u8 (intBits .or .i64 (intBits .and .i64 x80 127) 128))] : List T))
    else none
  else
    some [T.i .i64 0, T.i .i64 x80, T.sl x81]
def f79_2_c (x80 : Int) (x81 : List T) : CSt := ⟨[.i .i64 x80, .rf 2 [] 0 none], [.dead, .dead, .row false [.i .u8] x81 0 false]⟩
theorem f79_2_round (c : Orc) (lf : Nat) (L : CSt → Option (List T)) (x80 : Int) (x81 : List T) :
    roundK c env lf 6 fi79 2 6 [] [1, 5] (x79_6_0) L (f79_2_c x80 x81) = f79_2_s c lf (fun x80 x81 => L (f79_2_c x80 x81)) x80 x81 := by kernel_rfl
def f79_2 (c : Orc) (lf : Nat) : Nat → Int → List T → Option (List T)
  | 0 => fun _ _ => none
  | n + 1 => fun x80 x81 => f79_2_s c lf (f79_2 c lf n) x80 x81
theorem f79_2_u (c : Orc) (lf : Nat) (n : Nat) (x80 : Int) (x81 : List T) : f79_2 c lf (n + 1) x80 x81 = f79_2_s c lf (f79_2 c lf n) x80 x81 := rfl
theorem f79_2_eq (c : Orc) (lf : Nat) (n : Nat) (x80 : Int) (x81 : List T) :
    lpK c env lf 6 fi79 2 6 [] [1, 5] (x79_6_0) n (f79_2_c x80 x81) = f79_2 c lf n x80 x81 := by
  induction n generalizing x80 x81 with
  | zero => rfl
  | succ n ih =>
    refine (f79_2_round c lf _ x80 x81).trans ?_
    have e : (fun x80 x81 => lpK c env lf 6 fi79 2 6 [] [1, 5] (x79_6_0) n (f79_2_c x80 x81)) = f79_2 c lf n := by funext x80 x81; exact ih x80 x81
    show f79_2_s c lf (fun x80 x81 => lpK c env lf 6 fi79 2 6 [] [1, 5] (x79_6_0) n (f79_2_c x80 x81)) x80 x81 = _
    rw [e]; rfl
/-- loop.example/g00285/spec.PutNum -/
def f79_t (c : Orc) (lf : Nat) (lp0 : Int → List T → Option (List T)) (lp1 : List T → Option (List T)) (lp2 : Int → List T → Option (List T)) (l0 : List T) (n1 : Int) : Option (List T) :=
  bif nLe (([] : List T).length + l0.length) LIM then
  bif iLt 1000000 n1 then
    (lp0 1000000 (([] : List T) ++ l0)).bind fun r78 =>
    bif nLe ((asL (nth r78 2)).length + ([T.i .u8 (IntKind.wrap .u8 (asI (nth r78 1)))] : List T).length) LIM then
    some [T.sl ((asL (nth r78 2)) ++ ([T.i .u8 (IntKind.wrap .u8 (asI (nth r78 1)))] : List T))]
    else none
  else
    bif iLt n1 0 then
      (lp1 l0).bind fun r79 =>
      bif nLe ((asL (nth r79 2)).length + ([T.i .u8 (IntKind.wrap .u8 (asI (nth r79 1)))] : List T).length) LIM then
      some [T.sl ((asL (nth r79 2)) ++ ([T.i .u8 (IntKind.wrap .u8 (asI (nth r79 1)))] : List T))]
      else none
    else
      (lp2 n1 (([] : List T) ++ l0)).bind fun r82 =>
      bif nLe ((asL (nth r82 2)).length + ([T.i .u8 (IntKind.wrap .u8 (asI (nth r82 1)))] : List T).length) LIM then
      some [T.sl ((asL (nth r82 2)) ++ ([T.i .u8 (IntKind.wrap .u8 (asI (nth r82 1)))] : List T))]
      else none
  else none
def f79 (c : Orc) (lf : Nat) (l0 : List T) (n1 : Int) : Option (List T) := f79_t c lf (fun (x76 : Int) (x77 : List T) => f79_0 c lf lf x76 x77) (fun (l0 : List T) => f79_1 c lf l0 lf ()) (fun (x80 : Int) (x81 : List T) => f79_2 c lf lf x80 x81) l0 n1
theorem f79_raw (c : Orc) (lf : Nat) (l0 : List T) (n1 : Int) : funK c env lf 6 fi79 [.sl l0, .i .i64 n1] = f79_t c lf (fun (x76 : Int) (x77 : List T) => lpK c env lf 6 fi79 2 6 [] [1, 5] (x79_6_0) lf (f79_0_c x76 x77)) (fun (l0 : List T) => lpK c env lf 6 fi79 2 6 [] [1, 5] (x79_6_0) lf (f79_1_c l0)) (fun (x80 : Int) (x81 : List T) => lpK c env lf 6 fi79 2 6 [] [1, 5] (x79_6_0) lf (f79_2_c x80 x81)) l0 n1 := by kernel_rfl
theorem f79_eq (c : Orc) (lf : Nat) (l0 : List T) (n1 : Int) : funK c env lf 6 fi79 [.sl l0, .i .i64 n1] = f79 c lf l0 n1 := by
  refine (f79_raw c lf l0 n1).trans ?_
  have e0 : (fun (x76 : Int) (x77 : List T) => lpK c env lf 6 fi79 2 6 [] [1, 5] (x79_6_0) lf (f79_0_c x76 x77)) = (fun (x76 : Int) (x77 : List T) => f79_0 c lf lf x76 x77) := by funext x76 x77; exact f79_0_eq c lf lf x76 x77
  have e1 : (fun (l0 : List T) => lpK c env lf 6 fi79 2 6 [] [1, 5] (x79_6_0) lf (f79_1_c l0)) = (fun (l0 : List T) => f79_1 c lf l0 lf ()) := by funext l0; exact f79_1_eq c lf l0 lf
  have e2 : (fun (x80 : Int) (x81 : List T) => lpK c env lf 6 fi79 2 6 [] [1, 5] (x79_6_0) lf (f79_2_c x80 x81)) = (fun (x80 : Int) (x81 : List T) => f79_2 c lf lf x80 x81) := by funext x80 x81; exact f79_2_eq c lf lf x80 x81
  rw [e0, e1, e2]; rfl
/-- loop.example/g00285/spec.PutText -/
def f80_t (c : Orc) (lf : Nat) (l0 : List T) (s1 : ByteArray) : Option (List T) :=
  (c 79 [T.sl l0, T.i .i64 (s1.size : Int)]).bind fun r83 =>
  bif nLe ((asL (nth r83 0)).length + (listOf s1).length) LIM then
  some [T.sl ((asL (nth r83 0)) ++ (listOf s1))]
  else none
def f80 (c : Orc) (lf : Nat) (l0 : List T) (s1 : ByteArray) : Option (List T) := f80_t c lf l0 s1
theorem f80_raw (c : Orc) (lf : Nat) (l0 : List T) (s1 : ByteArray) : funK c env lf 6 fi80 [.sl l0, .s s1] = f80_t c lf l0 s1 := by kernel_rfl
theorem f80_eq (c : Orc) (lf : Nat) (l0 : List T) (s1 : ByteArray) : funK c env lf 6 fi80 [.sl l0, .s s1] = f80 c lf l0 s1 := by
  refine (f80_raw c lf l0 s1).trans ?_
  rfl
/-- loop.example/g00285/spec.PutTable, the loop at region 5. -/
def f24_0_s (c : Orc) (lf : Nat) (l0_1 : List T) (n0_0 : Int) (L : Int → List T → Option (List T)) (x123 : Int) (x124 : List T) : Option (List T) :=
  bif iLt x123 (l0_1.length : Int) then
    bif inR x123 l0_1.length then
    bif asB (T.cell (l0_1.getD x123.toNat T.u) 2) then
      (c 79 [T.sl x124, T.i .i64 (asI (T.cell (l0_1.getD x123.toNat T.u) 0))]).bind fun r125 =>
      (c 80 [T.sl (asL (nth r125 0)), T.s (asS (T.cell (l0_1.getD x123.toNat T.u) 1))]).bind fun r126 =>
      (c 79 [T.sl (asL (nth r126 0)), T.i .i64 1]).bind fun r127 =>
      (c 79 [T.sl (asL (nth r127 0)), T.i .i64 (asI (T.cell (l0_1.getD x123.toNat T.u) 3))]).bind fun r128 =>
      (c 79 [T.sl (asL (nth r128 0)), T.i .i64 (asI (T.cell (l0_1.getD x123.toNat T.u) 4))]).bind fun r129 =>
      L (IntKind.wrap .i64 (x123 + 1)) (asL (nth r129 0))
    else
      (c 79 [T.sl x124, T.i .i64 (asI (T.cell (l0_1.getD x123.toNat T.u) 0))]).bind fun r130 =>
      (c 80 [T.sl (asL (nth r130 0)), T.s (asS (T.cell (l0_1.getD x123.toNat T.u) 1))]).bind fun r131 =>
      (c 79 [T.sl (asL (nth r131 0)), T.i .i64 0]).bind fun r132 =>
      (c 79 [T.sl (asL (nth r132 0)), T.i .i64 (asI (T.cell (l0_1.getD x123.toNat T.u) 3))]).bind fun r133 =>
      (c 79 [T.sl (asL (nth r133 0)), T.i .i64 (asI (T.cell (l0_1.getD x123.toNat T.u) 4))]).bind fun r134 =>
      L (IntKind.wrap .i64 (x123 + 1)) (asL (nth r134 0))
    else none
  else
    some [T.i .i64 0, T.sl x124]
def f24_0_c (l0_1 : List T) (n0_0 : Int) (x123 : Int) (x124 : List T) : CSt := ⟨[.bp 2 0, .rf 3 [] 0 none, .i .i64 x123], [.dead, .dead, .box [.i .i64 n0_0, .ro 0 true [.i .i64, .s, .b, .i .i64, .i .i64] l0_1], .row false [.i .u8] x124 0 false]⟩
theorem f24_0_round (c : Orc) (lf : Nat) (l0_1 : List T) (n0_0 : Int) (L : CSt → Option (List T)) (x123 : Int) (x124 : List T) :
    roundK c env lf 6 fi24 2 5 [] [1, 3, 4] (x24_5_0) L (f24_0_c l0_1 n0_0 x123 x124) = f24_0_s c lf l0_1 n0_0 (fun x123 x124 => L (f24_0_c l0_1 n0_0 x123 x124)) x123 x124 := by kernel_rfl
def f24_0 (c : Orc) (lf : Nat) (l0_1 : List T) (n0_0 : Int) : Nat → Int → List T → Option (List T)
  | 0 => fun _ _ => none
  | n + 1 => fun x123 x124 => f24_0_s c lf l0_1 n0_0 (f24_0 c lf l0_1 n0_0 n) x123 x124
theorem f24_0_u (c : Orc) (lf : Nat) (l0_1 : List T) (n0_0 : Int) (n : Nat) (x123 : Int) (x124 : List T) : f24_0 c lf l0_1 n0_0 (n + 1) x123 x124 = f24_0_s c lf l0_1 n0_0 (f24_0 c lf l0_1 n0_0 n) x123 x124 := rfl
theorem f24_0_eq (c : Orc) (lf : Nat) (l0_1 : List T) (n0_0 : Int) (n : Nat) (x123 : Int) (x124 : List T) :
    lpK c env lf 6 fi24 2 5 [] [1, 3, 4] (x24_5_0) n (f24_0_c l0_1 n0_0 x123 x124) = f24_0 c lf l0_1 n0_0 n x123 x124 := by
  induction n generalizing x123 x124 with
  | zero => rfl
  | succ n ih =>
    refine (f24_0_round c lf l0_1 n0_0 _ x123 x124).trans ?_
    have e : (fun x123 x124 => lpK c env lf 6 fi24 2 5 [] [1, 3, 4] (x24_5_0) n (f24_0_c l0_1 n0_0 x123 x124)) = f24_0 c lf l0_1 n0_0 n := by funext x123 x124; exact ih x123 x124
    show f24_0_s c lf l0_1 n0_0 (fun x123 x124 => lpK c env lf 6 fi24 2 5 [] [1, 3, 4] (x24_5_0) n (f24_0_c l0_1 n0_0 x123 x124)) x123 x124 = _
    rw [e]; rfl
/-- loop.example/g00285/spec.PutTable -/
def f24_t (c : Orc) (lf : Nat) (lp0 : List T → Int → Int → List T → Option (List T)) (n0_0 : Int) (l0_1 : List T) : Option (List T) :=
  (c 53 [T.st [T.i .i64 n0_0, T.sl l0_1]]).bind fun r110 =>
  bif !(asB (nth r110 0)) then
    some [T.sl ([] : List T)]
  else
    (c 79 [T.sl ([] : List T), T.i .i64 n0_0]).bind fun r111 =>
    (c 79 [T.sl (asL (nth r111 0)), T.i .i64 (l0_1.length : Int)]).bind fun r112 =>
    (lp0 l0_1 n0_0 0 (asL (nth r112 0))).bind fun r135 =>
    some [T.sl (asL (nth r135 1))]
def f24 (c : Orc) (lf : Nat) (n0_0 : Int) (l0_1 : List T) : Option (List T) := f24_t c lf (fun (l0_1 : List T) (n0_0 : Int) (x123 : Int) (x124 : List T) => f24_0 c lf l0_1 n0_0 lf x123 x124) n0_0 l0_1
theorem f24_raw (c : Orc) (lf : Nat) (n0_0 : Int) (l0_1 : List T) : funK c env lf 6 fi24 [.st [.i .i64 n0_0, .sl l0_1]] = f24_t c lf (fun (l0_1 : List T) (n0_0 : Int) (x123 : Int) (x124 : List T) => lpK c env lf 6 fi24 2 5 [] [1, 3, 4] (x24_5_0) lf (f24_0_c l0_1 n0_0 x123 x124)) n0_0 l0_1 := by kernel_rfl
theorem f24_eq (c : Orc) (lf : Nat) (n0_0 : Int) (l0_1 : List T) : funK c env lf 6 fi24 [.st [.i .i64 n0_0, .sl l0_1]] = f24 c lf n0_0 l0_1 := by
  refine (f24_raw c lf n0_0 l0_1).trans ?_
  have e0 : (fun (l0_1 : List T) (n0_0 : Int) (x123 : Int) (x124 : List T) => lpK c env lf 6 fi24 2 5 [] [1, 3, 4] (x24_5_0) lf (f24_0_c l0_1 n0_0 x123 x124)) = (fun (l0_1 : List T) (n0_0 : Int) (x123 : Int) (x124 : List T) => f24_0 c lf l0_1 n0_0 lf x123 x124) := by funext l0_1 n0_0 x123 x124; exact f24_0_eq c lf l0_1 n0_0 lf x123 x124
  rw [e0]; rfl
/-- loop.example/g00285/impl.NameOk, the loop at region 2. -/
def f90_0_s (c : Orc) (lf : Nat) (s0 : ByteArray) (L : Int → Option (List T)) (x138 : Int) : Option (List T) :=
  bif iLt x138 (s0.size : Int) then
    bif inR x138 s0.size then
    bif iLt (byteAt s0 x138) 97 then
      bif iLt (byteAt s0 x138) 48 then
        bif (byteAt s0 x138) != 95 then
          bif (byteAt s0 x138) != 45 then
            bif (byteAt s0 x138) != 46 then
              some [T.i .i64 0, T.b false]
            else
              L (IntKind.wrap .i64 (x138 + 1))
          else
            L (IntKind.wrap .i64 (x138 + 1))
        else
          L (IntKind.wrap .i64 (x138 + 1))
      else
        bif iLt 57 (byteAt s0 x138) then
          bif (byteAt s0 x138) != 95 then
            bif (byteAt s0 x138) != 45 then
              bif (byteAt s0 x138) != 46 then
                some [T.i .i64 0, T.b false]
              else
                L (IntKind.wrap .i64 (x138 + 1))
            else
              L (IntKind.wrap .i64 (x138 + 1))
          else
            L (IntKind.wrap .i64 (x138 + 1))
        else
          L (IntKind.wrap .i64 (x138 + 1))
    else
      bif iLt 122 (byteAt s0 x138) then
        bif iLt (byteAt s0 x138) 48 then
          bif (byteAt s0 x138) != 95 then
            bif (byteAt s0 x138) != 45 then
              bif (byteAt s0 x138) != 46 then
                some [T.i .i64 0, T.b false]
              else
                L (IntKind.wrap .i64 (x138 + 1))
            else
              L (IntKind.wrap .i64 (x138 + 1))
          else
            L (IntKind.wrap .i64 (x138 + 1))
        else
          bif iLt 57 (byteAt s0 x138) then
            bif (byteAt s0 x138) != 95 then
              bif (byteAt s0 x138) != 45 then
                bif (byteAt s0 x138) != 46 then
                  some [T.i .i64 0, T.b false]
                else
                  L (IntKind.wrap .i64 (x138 + 1))
              else
                L (IntKind.wrap .i64 (x138 + 1))
            else
              L (IntKind.wrap .i64 (x138 + 1))
          else
            L (IntKind.wrap .i64 (x138 + 1))
      else
        L (IntKind.wrap .i64 (x138 + 1))
    else none
  else
    some [T.i .i64 1, T.s s0]
def f90_0_c (s0 : ByteArray) (x138 : Int) : CSt := ⟨[.s s0, .i .i64 (s0.size : Int), .i .i64 x138], [.dead]⟩
theorem f90_0_round (c : Orc) (lf : Nat) (s0 : ByteArray) (L : CSt → Option (List T)) (x138 : Int) :
    roundK c env lf 6 fi90 1 2 [] [0, 6, 7] (x90_2_0) L (f90_0_c s0 x138) = f90_0_s c lf s0 (fun x138 => L (f90_0_c s0 x138)) x138 := by kernel_rfl
def f90_0 (c : Orc) (lf : Nat) (s0 : ByteArray) : Nat → Int → Option (List T)
  | 0 => fun _ => none
  | n + 1 => fun x138 => f90_0_s c lf s0 (f90_0 c lf s0 n) x138
theorem f90_0_u (c : Orc) (lf : Nat) (s0 : ByteArray) (n : Nat) (x138 : Int) : f90_0 c lf s0 (n + 1) x138 = f90_0_s c lf s0 (f90_0 c lf s0 n) x138 := rfl
theorem f90_0_eq (c : Orc) (lf : Nat) (s0 : ByteArray) (n : Nat) (x138 : Int) :
    lpK c env lf 6 fi90 1 2 [] [0, 6, 7] (x90_2_0) n (f90_0_c s0 x138) = f90_0 c lf s0 n x138 := by
  induction n generalizing x138 with
  | zero => rfl
  | succ n ih =>
    refine (f90_0_round c lf s0 _ x138).trans ?_
    have e : (fun x138 => lpK c env lf 6 fi90 1 2 [] [0, 6, 7] (x90_2_0) n (f90_0_c s0 x138)) = f90_0 c lf s0 n := by funext x138; exact ih x138
    show f90_0_s c lf s0 (fun x138 => lpK c env lf 6 fi90 1 2 [] [0, 6, 7] (x90_2_0) n (f90_0_c s0 x138)) x138 = _
    rw [e]; rfl
/-- loop.example/g00285/impl.NameOk -/
def f90_t (c : Orc) (lf : Nat) (lp0 : ByteArray → Int → Option (List T)) (s0 : ByteArray) : Option (List T) :=
  (lp0 s0 0).bind fun r139 =>
  bif asI (nth r139 0) == 0 then
    some [T.b (asB (nth r139 1))]
  else
    bif iLe 1 ((asS (nth r139 1)).size : Int) then
      bif iLe ((asS (nth r139 1)).size : Int) 14 then
        bif !((asS (nth r139 1)).toList == (⟨#[46]⟩ : ByteArray).toList) then
          some [T.b (!((asS (nth r139 1)).toList == (⟨#[46, 46]⟩ : ByteArray).toList))]
        else
          some [T.b false]
      else
        some [T.b false]
    else
      some [T.b false]
def f90 (c : Orc) (lf : Nat) (s0 : ByteArray) : Option (List T) := f90_t c lf (fun (s0 : ByteArray) (x138 : Int) => f90_0 c lf s0 lf x138) s0
theorem f90_raw (c : Orc) (lf : Nat) (s0 : ByteArray) : funK c env lf 6 fi90 [.s s0] = f90_t c lf (fun (s0 : ByteArray) (x138 : Int) => lpK c env lf 6 fi90 1 2 [] [0, 6, 7] (x90_2_0) lf (f90_0_c s0 x138)) s0 := by kernel_rfl
theorem f90_eq (c : Orc) (lf : Nat) (s0 : ByteArray) : funK c env lf 6 fi90 [.s s0] = f90 c lf s0 := by
  refine (f90_raw c lf s0).trans ?_
  have e0 : (fun (s0 : ByteArray) (x138 : Int) => lpK c env lf 6 fi90 1 2 [] [0, 6, 7] (x90_2_0) lf (f90_0_c s0 x138)) = (fun (s0 : ByteArray) (x138 : Int) => f90_0 c lf s0 lf x138) := by funext s0 x138; exact f90_0_eq c lf s0 lf x138
  rw [e0]; rfl
/-- loop.example/g00285/impl.from -/
def f76_t (c : Orc) (lf : Nat) (n0 : Int) (n1 : Int) (n2 : Int) : Option (List T) :=
  bif iLe n1 n0 then
    some [T.b (iLe n0 n2)]
  else
    some [T.b false]
def f76 (c : Orc) (lf : Nat) (n0 : Int) (n1 : Int) (n2 : Int) : Option (List T) := f76_t c lf n0 n1 n2
theorem f76_raw (c : Orc) (lf : Nat) (n0 : Int) (n1 : Int) (n2 : Int) : funK c env lf 6 fi76 [.i .i64 n0, .i .i64 n1, .i .i64 n2] = f76_t c lf n0 n1 n2 := by kernel_rfl
theorem f76_eq (c : Orc) (lf : Nat) (n0 : Int) (n1 : Int) (n2 : Int) : funK c env lf 6 fi76 [.i .i64 n0, .i .i64 n1, .i .i64 n2] = f76 c lf n0 n1 n2 := by
  refine (f76_raw c lf n0 n1 n2).trans ?_
  rfl
/-- loop.example/g00285/impl.isLimit -/
def f106_t (c : Orc) (lf : Nat) (n0 : Int) : Option (List T) :=
  (c 76 [T.i .i64 n0, T.i .i64 32, T.i .i64 4000]).bind fun r140 =>
  some [T.b (asB (nth r140 0))]
def f106 (c : Orc) (lf : Nat) (n0 : Int) : Option (List T) := f106_t c lf n0
theorem f106_raw (c : Orc) (lf : Nat) (n0 : Int) : funK c env lf 6 fi106 [.i .i64 n0] = f106_t c lf n0 := by kernel_rfl
theorem f106_eq (c : Orc) (lf : Nat) (n0 : Int) : funK c env lf 6 fi106 [.i .i64 n0] = f106 c lf n0 := by
  refine (f106_raw c lf n0).trans ?_
  rfl
/-- slices.IndexFunc[[]loop.example/g00285/impl.Row,loop.example/g00285/impl.Row], the loop at region 2. -/
def f52_1_s (c : Orc) (lf : Nat) (l0_1 : List T) (x164 : Int) (L : Int → Option (List T)) (x168 : Int) : Option (List T) :=
  bif iLt x168 ((l0_1.take x164.toNat).length : Int) then
    bif inR x168 ((l0_1.take x164.toNat).length) then
    bif (asS (T.cell ((l0_1.take x164.toNat).getD x168.toNat T.u) 1)).toList == (asS (T.cell (l0_1.getD x164.toNat T.u) 1)).toList then
      some [T.i .i64 0, T.i .i64 x168, T.i .i64 (asI (T.cell (l0_1.getD x164.toNat T.u) 0)), T.s (asS (T.cell (l0_1.getD x164.toNat T.u) 1)), T.b (asB (T.cell (l0_1.getD x164.toNat T.u) 2)), T.i .i64 (asI (T.cell (l0_1.getD x164.toNat T.u) 3)), T.i .i64 (asI (T.cell (l0_1.getD x164.toNat T.u) 4))]
    else
      L (IntKind.wrap .i64 (x168 + 1))
    else none
  else
    some [T.i .i64 1, T.i .i64 (asI (T.cell (l0_1.getD x164.toNat T.u) 0)), T.s (asS (T.cell (l0_1.getD x164.toNat T.u) 1)), T.b (asB (T.cell (l0_1.getD x164.toNat T.u) 2)), T.i .i64 (asI (T.cell (l0_1.getD x164.toNat T.u) 3)), T.i .i64 (asI (T.cell (l0_1.getD x164.toNat T.u) 4))]
def f52_1_c (l0_1 : List T) (x164 : Int) (x168 : Int) : CSt := ⟨[.ro 0 true [.i .i64, .s, .b, .i .i64, .i .i64] (l0_1.take x164.toNat), .fn 108 [.bp 0 0], .i .i64 ((l0_1.take x164.toNat).length : Int), .i .i64 x168], [.box [.i .i64 (asI (T.cell (l0_1.getD x164.toNat T.u) 0)), .s (asS (T.cell (l0_1.getD x164.toNat T.u) 1)), .b (asB (T.cell (l0_1.getD x164.toNat T.u) 2)), .i .i64 (asI (T.cell (l0_1.getD x164.toNat T.u) 3)), .i .i64 (asI (T.cell (l0_1.getD x164.toNat T.u) 4))]]⟩
theorem f52_1_round (c : Orc) (lf : Nat) (l0_1 : List T) (x164 : Int) (L : CSt → Option (List T)) (x168 : Int) :
    roundK c env lf 4 fi140 1 2 [] [0, 1, 7, 8] (x140_2_0) L (f52_1_c l0_1 x164 x168) = f52_1_s c lf l0_1 x164 (fun x168 => L (f52_1_c l0_1 x164 x168)) x168 := by kernel_rfl
def f52_1 (c : Orc) (lf : Nat) (l0_1 : List T) (x164 : Int) : Nat → Int → Option (List T)
  | 0 => fun _ => none
  | n + 1 => fun x168 => f52_1_s c lf l0_1 x164 (f52_1 c lf l0_1 x164 n) x168
theorem f52_1_u (c : Orc) (lf : Nat) (l0_1 : List T) (x164 : Int) (n : Nat) (x168 : Int) : f52_1 c lf l0_1 x164 (n + 1) x168 = f52_1_s c lf l0_1 x164 (f52_1 c lf l0_1 x164 n) x168 := rfl
theorem f52_1_eq (c : Orc) (lf : Nat) (l0_1 : List T) (x164 : Int) (n : Nat) (x168 : Int) :
    lpK c env lf 4 fi140 1 2 [] [0, 1, 7, 8] (x140_2_0) n (f52_1_c l0_1 x164 x168) = f52_1 c lf l0_1 x164 n x168 := by
  induction n generalizing x168 with
  | zero => rfl
  | succ n ih =>
    refine (f52_1_round c lf l0_1 x164 _ x168).trans ?_
    have e : (fun x168 => lpK c env lf 4 fi140 1 2 [] [0, 1, 7, 8] (x140_2_0) n (f52_1_c l0_1 x164 x168)) = f52_1 c lf l0_1 x164 n := by funext x168; exact ih x168
    show f52_1_s c lf l0_1 x164 (fun x168 => lpK c env lf 4 fi140 1 2 [] [0, 1, 7, 8] (x140_2_0) n (f52_1_c l0_1 x164 x168)) x168 = _
    rw [e]; rfl
/-- slices.IndexFunc[[]loop.example/g00285/impl.Row,loop.example/g00285/impl.Row], the loop at region 2. -/
def f52_2_s (c : Orc) (lf : Nat) (l0_1 : List T) (x164 : Int) (L : Int → Option (List T)) (x173 : Int) : Option (List T) :=
  bif iLt x173 ((l0_1.take x164.toNat).length : Int) then
    bif inR x173 ((l0_1.take x164.toNat).length) then
    bif (asS (T.cell ((l0_1.take x164.toNat).getD x173.toNat T.u) 1)).toList == (asS (T.cell (l0_1.getD x164.toNat T.u) 1)).toList then
      some [T.i .i64 0, T.i .i64 x173, T.i .i64 (asI (T.cell (l0_1.getD x164.toNat T.u) 0)), T.s (asS (T.cell (l0_1.getD x164.toNat T.u) 1)), T.b (asB (T.cell (l0_1.getD x164.toNat T.u) 2)), T.i .i64 (asI (T.cell (l0_1.getD x164.toNat T.u) 3)), T.i .i64 (asI (T.cell (l0_1.getD x164.toNat T.u) 4))]
    else
      L (IntKind.wrap .i64 (x173 + 1))
    else none
  else
    some [T.i .i64 1, T.i .i64 (asI (T.cell (l0_1.getD x164.toNat T.u) 0)), T.s (asS (T.cell (l0_1.getD x164.toNat T.u) 1)), T.b (asB (T.cell (l0_1.getD x164.toNat T.u) 2)), T.i .i64 (asI (T.cell (l0_1.getD x164.toNat T.u) 3)), T.i .i64 (asI (T.cell (l0_1.getD x164.toNat T.u) 4))]
def f52_2_c (l0_1 : List T) (x164 : Int) (x173 : Int) : CSt := ⟨[.ro 0 true [.i .i64, .s, .b, .i .i64, .i .i64] (l0_1.take x164.toNat), .fn 108 [.bp 0 0], .i .i64 ((l0_1.take x164.toNat).length : Int), .i .i64 x173], [.box [.i .i64 (asI (T.cell (l0_1.getD x164.toNat T.u) 0)), .s (asS (T.cell (l0_1.getD x164.toNat T.u) 1)), .b (asB (T.cell (l0_1.getD x164.toNat T.u) 2)), .i .i64 (asI (T.cell (l0_1.getD x164.toNat T.u) 3)), .i .i64 (asI (T.cell (l0_1.getD x164.toNat T.u) 4))]]⟩
theorem f52_2_round (c : Orc) (lf : Nat) (l0_1 : List T) (x164 : Int) (L : CSt → Option (List T)) (x173 : Int) :
    roundK c env lf 4 fi140 1 2 [] [0, 1, 7, 8] (x140_2_0) L (f52_2_c l0_1 x164 x173) = f52_2_s c lf l0_1 x164 (fun x173 => L (f52_2_c l0_1 x164 x173)) x173 := by kernel_rfl
def f52_2 (c : Orc) (lf : Nat) (l0_1 : List T) (x164 : Int) : Nat → Int → Option (List T)
  | 0 => fun _ => none
  | n + 1 => fun x173 => f52_2_s c lf l0_1 x164 (f52_2 c lf l0_1 x164 n) x173
theorem f52_2_u (c : Orc) (lf : Nat) (l0_1 : List T) (x164 : Int) (n : Nat) (x173 : Int) : f52_2 c lf l0_1 x164 (n + 1) x173 = f52_2_s c lf l0_1 x164 (f52_2 c lf l0_1 x164 n) x173 := rfl
theorem f52_2_eq (c : Orc) (lf : Nat) (l0_1 : List T) (x164 : Int) (n : Nat) (x173 : Int) :
    lpK c env lf 4 fi140 1 2 [] [0, 1, 7, 8] (x140_2_0) n (f52_2_c l0_1 x164 x173) = f52_2 c lf l0_1 x164 n x173 := by
  induction n generalizing x173 with
  | zero => rfl
  | succ n ih =>
    refine (f52_2_round c lf l0_1 x164 _ x173).trans ?_
    have e : (fun x173 => lpK c env lf 4 fi140 1 2 [] [0, 1, 7, 8] (x140_2_0) n (f52_2_c l0_1 x164 x173)) = f52_2 c lf l0_1 x164 n := by funext x173; exact ih x173
    show f52_2_s c lf l0_1 x164 (fun x173 => lpK c env lf 4 fi140 1 2 [] [0, 1, 7, 8] (x140_2_0) n (f52_2_c l0_1 x164 x173)) x173 = _
    rw [e]; rfl
/-- loop.example/g00285/impl.TableOk, the loop at region 2. -/
def f52_0_s (c : Orc) (lf : Nat) (l0_1 : List T) (n0_0 : Int) (L : Int → Option (List T)) (lp0 : List T → Int → Int → Option (List T)) (lp1 : List T → Int → Int → Option (List T)) (x164 : Int) : Option (List T) :=
  bif iLt x164 (l0_1.length : Int) then
    bif inR x164 l0_1.length then
    bif iLt (asI (T.cell (l0_1.getD x164.toNat T.u) 0)) 1 then
      some [T.i .i64 0, T.b false]
    else
      bif iLe n0_0 (asI (T.cell (l0_1.getD x164.toNat T.u) 0)) then
        some [T.i .i64 0, T.b false]
      else
        bif iLt 0 x164 then
          bif inR (IntKind.wrap .i64 (x164 - 1)) l0_1.length then
          bif iLe (asI (T.cell (l0_1.getD x164.toNat T.u) 0)) (asI (T.cell (l0_1.getD ((IntKind.wrap .i64 (x164 - 1)).toNat) T.u) 0)) then
            some [T.i .i64 0, T.b false]
          else
            (c 90 [T.s (asS (T.cell (l0_1.getD x164.toNat T.u) 1))]).bind fun r165 =>
            bif !(asB (nth r165 0)) then
              some [T.i .i64 0, T.b false]
            else
              (c 106 [T.i .i64 (asI (T.cell (l0_1.getD x164.toNat T.u) 3))]).bind fun r166 =>
              bif !(asB (nth r166 0)) then
                some [T.i .i64 0, T.b false]
              else
                (c 76 [T.i .i64 (asI (T.cell (l0_1.getD x164.toNat T.u) 4)), T.i .i64 0, T.i .i64 191]).bind fun r167 =>
                bif !(asB (nth r167 0)) then
                  some [T.i .i64 0, T.b false]
                else
                  bif iLe 0 x164 && iLe x164 (l0_1.length : Int) then
                  (lp0 l0_1 x164 0).bind fun r169 =>
                  bif asI (nth r169 0) == 0 then
                    bif iLe 0 (asI (nth r169 1)) then
                      some [T.i .i64 0, T.b false]
                    else
                      L (IntKind.wrap .i64 (x164 + 1))
                  else
                    L (IntKind.wrap .i64 (x164 + 1))
                  else none
          else none
        else
          (c 90 [T.s (asS (T.cell (l0_1.getD x164.toNat T.u) 1))]).bind fun r170 =>
          bif !(asB (nth r170 0)) then
            some [T.i .i64 0, T.b false]
          else
            (c 106 [T.i .i64 (asI (T.cell (l0_1.getD x164.toNat T.u) 3))]).bind fun r171 =>
            bif !(asB (nth r171 0)) then
              some [T.i .i64 0, T.b false]
            else
              (c 76 [T.i .i64 (asI (T.cell (l0_1.getD x164.toNat T.u) 4)), T.i .i64 0, T.i .i64 191]).bind fun r172 =>
              bif !(asB (nth r172 0)) then
                some [T.i .i64 0, T.b false]
              else
                bif iLe 0 x164 && iLe x164 (l0_1.length : Int) then
                (lp1 l0_1 x164 0).bind fun r174 =>
                bif asI (nth r174 0) == 0 then
                  bif iLe 0 (asI (nth r174 1)) then
                    some [T.i .i64 0, T.b false]
                  else
                    L (IntKind.wrap .i64 (x164 + 1))
                else
                  L (IntKind.wrap .i64 (x164 + 1))
                else none
    else none
  else
    some [T.i .i64 1, T.i .i64 n0_0, T.sl l0_1]
def f52_0_c (l0_1 : List T) (n0_0 : Int) (x164 : Int) : CSt := ⟨[.bp 2 0, .ro 0 true [.i .i64, .s, .b, .i .i64, .i .i64] l0_1, .i .i64 (l0_1.length : Int), .i .i64 x164], [.dead, .dead, .box [.i .i64 n0_0, .ro 0 true [.i .i64, .s, .b, .i .i64, .i .i64] l0_1]]⟩
theorem f52_0_round (c : Orc) (lf : Nat) (l0_1 : List T) (n0_0 : Int) (L : CSt → Option (List T)) (x164 : Int) :
    roundK c env lf 6 fi52 2 2 [] [1, 6, 7, 8] (x52_2_0) L (f52_0_c l0_1 n0_0 x164) = f52_0_s c lf l0_1 n0_0 (fun x164 => L (f52_0_c l0_1 n0_0 x164)) (fun (l0_1 : List T) (x164 : Int) (x168 : Int) => lpK c env lf 4 fi140 1 2 [] [0, 1, 7, 8] (x140_2_0) lf (f52_1_c l0_1 x164 x168)) (fun (l0_1 : List T) (x164 : Int) (x173 : Int) => lpK c env lf 4 fi140 1 2 [] [0, 1, 7, 8] (x140_2_0) lf (f52_2_c l0_1 x164 x173)) x164 := by kernel_rfl
def f52_0 (c : Orc) (lf : Nat) (l0_1 : List T) (n0_0 : Int) : Nat → Int → Option (List T)
  | 0 => fun _ => none
  | n + 1 => fun x164 => f52_0_s c lf l0_1 n0_0 (f52_0 c lf l0_1 n0_0 n) (fun (l0_1 : List T) (x164 : Int) (x168 : Int) => f52_1 c lf l0_1 x164 lf x168) (fun (l0_1 : List T) (x164 : Int) (x173 : Int) => f52_2 c lf l0_1 x164 lf x173) x164
theorem f52_0_u (c : Orc) (lf : Nat) (l0_1 : List T) (n0_0 : Int) (n : Nat) (x164 : Int) : f52_0 c lf l0_1 n0_0 (n + 1) x164 = f52_0_s c lf l0_1 n0_0 (f52_0 c lf l0_1 n0_0 n) (fun (l0_1 : List T) (x164 : Int) (x168 : Int) => f52_1 c lf l0_1 x164 lf x168) (fun (l0_1 : List T) (x164 : Int) (x173 : Int) => f52_2 c lf l0_1 x164 lf x173) x164 := rfl
theorem f52_0_eq (c : Orc) (lf : Nat) (l0_1 : List T) (n0_0 : Int) (n : Nat) (x164 : Int) :
    lpK c env lf 6 fi52 2 2 [] [1, 6, 7, 8] (x52_2_0) n (f52_0_c l0_1 n0_0 x164) = f52_0 c lf l0_1 n0_0 n x164 := by
  induction n generalizing x164 with
  | zero => rfl
  | succ n ih =>
    refine (f52_0_round c lf l0_1 n0_0 _ x164).trans ?_
    have e : (fun x164 => lpK c env lf 6 fi52 2 2 [] [1, 6, 7, 8] (x52_2_0) n (f52_0_c l0_1 n0_0 x164)) = f52_0 c lf l0_1 n0_0 n := by funext x164; exact ih x164
    have e0 : (fun (l0_1 : List T) (x164 : Int) (x168 : Int) => lpK c env lf 4 fi140 1 2 [] [0, 1, 7, 8] (x140_2_0) lf (f52_1_c l0_1 x164 x168)) = (fun (l0_1 : List T) (x164 : Int) (x168 : Int) => f52_1 c lf l0_1 x164 lf x168) := by funext l0_1 x164 x168; exact f52_1_eq c lf l0_1 x164 lf x168
    have e1 : (fun (l0_1 : List T) (x164 : Int) (x173 : Int) => lpK c env lf 4 fi140 1 2 [] [0, 1, 7, 8] (x140_2_0) lf (f52_2_c l0_1 x164 x173)) = (fun (l0_1 : List T) (x164 : Int) (x173 : Int) => f52_2 c lf l0_1 x164 lf x173) := by funext l0_1 x164 x173; exact f52_2_eq c lf l0_1 x164 lf x173
    show f52_0_s c lf l0_1 n0_0 (fun x164 => lpK c env lf 6 fi52 2 2 [] [1, 6, 7, 8] (x52_2_0) n (f52_0_c l0_1 n0_0 x164)) (fun (l0_1 : List T) (x164 : Int) (x168 : Int) => lpK c env lf 4 fi140 1 2 [] [0, 1, 7, 8] (x140_2_0) lf (f52_1_c l0_1 x164 x168)) (fun (l0_1 : List T) (x164 : Int) (x173 : Int) => lpK c env lf 4 fi140 1 2 [] [0, 1, 7, 8] (x140_2_0) lf (f52_2_c l0_1 x164 x173)) x164 = _
    rw [e, e0, e1]; rfl
/-- loop.example/g00285/impl.TableOk -/
def f52_t (c : Orc) (lf : Nat) (lp0 : List T → Int → Int → Option (List T)) (n0_0 : Int) (l0_1 : List T) : Option (List T) :=
  (lp0 l0_1 n0_0 0).bind fun r175 =>
  bif asI (nth r175 0) == 0 then
    some [T.b (asB (nth r175 1))]
  else
    (c 76 [T.i .i64 (asI (nth r175 1)), T.i .i64 1, T.i .i64 99]).bind fun r176 =>
    bif asB (nth r176 0) then
      some [T.b (iLe ((asL (nth r175 2)).length : Int) 6)]
    else
      some [T.b false]
def f52 (c : Orc) (lf : Nat) (n0_0 : Int) (l0_1 : List T) : Option (List T) := f52_t c lf (fun (l0_1 : List T) (n0_0 : Int) (x164 : Int) => f52_0 c lf l0_1 n0_0 lf x164) n0_0 l0_1
theorem f52_raw (c : Orc) (lf : Nat) (n0_0 : Int) (l0_1 : List T) : funK c env lf 6 fi52 [.st [.i .i64 n0_0, .sl l0_1]] = f52_t c lf (fun (l0_1 : List T) (n0_0 : Int) (x164 : Int) => lpK c env lf 6 fi52 2 2 [] [1, 6, 7, 8] (x52_2_0) lf (f52_0_c l0_1 n0_0 x164)) n0_0 l0_1 := by kernel_rfl
theorem f52_eq (c : Orc) (lf : Nat) (n0_0 : Int) (l0_1 : List T) : funK c env lf 6 fi52 [.st [.i .i64 n0_0, .sl l0_1]] = f52 c lf n0_0 l0_1 := by
  refine (f52_raw c lf n0_0 l0_1).trans ?_
  have e0 : (fun (l0_1 : List T) (n0_0 : Int) (x164 : Int) => lpK c env lf 6 fi52 2 2 [] [1, 6, 7, 8] (x52_2_0) lf (f52_0_c l0_1 n0_0 x164)) = (fun (l0_1 : List T) (n0_0 : Int) (x164 : Int) => f52_0 c lf l0_1 n0_0 lf x164) := by funext l0_1 n0_0 x164; exact f52_0_eq c lf l0_1 n0_0 lf x164
  rw [e0]; rfl
/-- loop.example/g00285/impl.PutNum, the loop at region 3. -/
def f67_0_s (c : Orc) (lf : Nat) (L : Int → List T → Option (List T)) (x182 : Int) (x183 : List T) : Option (List T) :=
  bif iLe 128 x182 then
    bif nLe (x183.length + ([T.i .u8 (IntKind.wrap .u8 (IntKind.wrap .i64 ((x182.tmod 128) + 128)))] : List T).length) LIM then
    L (IntKind.wrap .i64 (x182.tdiv 128)) (x183 ++ ([T.i .u8 (IntKind.wrap .u8 (IntKind.wrap .i64 ((x182.tmod 128) + 128)))] : List T))
    else none
  else
    some [T.i .i64 0, T.i .i64 x182, T.sl x183]
def f67_0_c (x182 : Int) (x183 : List T) : CSt := ⟨[.i .i64 x182, .rf 2 [] 0 none], [.dead, .dead, .row false [.i .u8] x183 0 false]⟩
theorem f67_0_round (c : Orc) (lf : Nat) (L : CSt → Option (List T)) (x182 : Int) (x183 : List T) :
    roundK c env lf 6 fi67 2 3 [] [1, 5] (x67_3_0) L (f67_0_c x182 x183) = f67_0_s c lf (fun x182 x183 => L (f67_0_c x182 x183)) x182 x183 := by kernel_rfl
def f67_0 (c : Orc) (lf : Nat) : Nat → Int → List T → Option (List T)
  | 0 => fun _ _ => none
  | n + 1 => fun x182 x183 => f67_0_s c lf (f67_0 c lf n) x182 x183
theorem f67_0_u (c : Orc) (lf : Nat) (n : Nat) (x182 : Int) (x183 : List T) : f67_0 c lf (n + 1) x182 x183 = f67_0_s c lf (f67_0 c lf n) x182 x183 := rfl
theorem f67_0_eq (c : Orc) (lf : Nat) (n : Nat) (x182 : Int) (x183 : List T) :
    lpK c env lf 6 fi67 2 3 [] [1, 5] (x67_3_0) n (f67_0_c x182 x183) = f67_0 c lf n x182 x183 := by
  induction n generalizing x182 x183 with
  | zero => rfl
  | succ n ih =>
    refine (f67_0_round c lf _ x182 x183).trans ?_
    have e : (fun x182 x183 => lpK c env lf 6 fi67 2 3 [] [1, 5] (x67_3_0) n (f67_0_c x182 x183)) = f67_0 c lf n := by funext x182 x183; exact ih x182 x183
    show f67_0_s c lf (fun x182 x183 => lpK c env lf 6 fi67 2 3 [] [1, 5] (x67_3_0) n (f67_0_c x182 x183)) x182 x183 = _
    rw [e]; rfl
/-- loop.example/g00285/impl.PutNum -/
def f67_t (c : Orc) (lf : Nat) (lp0 : Int → List T → Option (List T)) (l0 : List T) (n1 : Int) : Option (List T) :=
  (c 123 [T.sl l0]).bind fun r181 =>
  (lp0 (imax 0 (imin n1 1000000)) (asL (nth r181 0))).bind fun r184 =>
  bif nLe ((asL (nth r184 2)).length + ([T.i .u8 (IntKind.wrap .u8 (asI (nth r184 1)))] : List T).length) LIM then
  some [T.sl ((asL (nth r184 2)) ++ ([T.i .u8 (IntKind.wrap .u8 (asI (nth r184 1)))] : List T))]
  else none
def f67 (c : Orc) (lf : Nat) (l0 : List T) (n1 : Int) : Option (List T) := f67_t c lf (fun (x182 : Int) (x183 : List T) => f67_0 c lf lf x182 x183) l0 n1
theorem f67_raw (c : Orc) (lf : Nat) (l0 : List T) (n1 : Int) : funK c env lf 6 fi67 [.sl l0, .i .i64 n1] = f67_t c lf (fun (x182 : Int) (x183 : List T) => lpK c env lf 6 fi67 2 3 [] [1, 5] (x67_3_0) lf (f67_0_c x182 x183)) l0 n1 := by kernel_rfl
theorem f67_eq (c : Orc) (lf : Nat) (l0 : List T) (n1 : Int) : funK c env lf 6 fi67 [.sl l0, .i .i64 n1] = f67 c lf l0 n1 := by
  refine (f67_raw c lf l0 n1).trans ?_
  have e0 : (fun (x182 : Int) (x183 : List T) => lpK c env lf 6 fi67 2 3 [] [1, 5] (x67_3_0) lf (f67_0_c x182 x183)) = (fun (x182 : Int) (x183 : List T) => f67_0 c lf lf x182 x183) := by funext x182 x183; exact f67_0_eq c lf lf x182 x183
  rw [e0]; rfl
/-- loop.example/g00285/impl.PutText -/
def f82_t (c : Orc) (lf : Nat) (l0 : List T) (s1 : ByteArray) : Option (List T) :=
  (c 67 [T.sl l0, T.i .i64 (s1.size : Int)]).bind fun r185 =>
  bif nLe ((asL (nth r185 0)).length + (listOf s1).length) LIM then
  some [T.sl ((asL (nth r185 0)) ++ (listOf s1))]
  else none
def f82 (c : Orc) (lf : Nat) (l0 : List T) (s1 : ByteArray) : Option (List T) := f82_t c lf l0 s1
theorem f82_raw (c : Orc) (lf : Nat) (l0 : List T) (s1 : ByteArray) : funK c env lf 6 fi82 [.sl l0, .s s1] = f82_t c lf l0 s1 := by kernel_rfl
theorem f82_eq (c : Orc) (lf : Nat) (l0 : List T) (s1 : ByteArray) : funK c env lf 6 fi82 [.sl l0, .s s1] = f82 c lf l0 s1 := by
  refine (f82_raw c lf l0 s1).trans ?_
  rfl
/-- loop.example/g00285/impl.PutTable, the loop at region 5. -/
def f26_0_s (c : Orc) (lf : Nat) (l0_1 : List T) (L : Int → List T → Option (List T)) (x219 : Int) (x220 : List T) : Option (List T) :=
  bif iLt x219 (l0_1.length : Int) then
    bif inR x219 l0_1.length then
    (c 67 [T.sl x220, T.i .i64 (asI (T.cell (l0_1.getD x219.toNat T.u) 0))]).bind fun r221 =>
    (c 82 [T.sl (asL (nth r221 0)), T.s (asS (T.cell (l0_1.getD x219.toNat T.u) 1))]).bind fun r222 =>
    bif asB (T.cell (l0_1.getD x219.toNat T.u) 2) then
      (c 67 [T.sl (asL (nth r222 0)), T.i .i64 1]).bind fun r223 =>
      (c 67 [T.sl (asL (nth r223 0)), T.i .i64 (asI (T.cell (l0_1.getD x219.toNat T.u) 3))]).bind fun r224 =>
      (c 67 [T.sl (asL (nth r224 0)), T.i .i64 (asI (T.cell (l0_1.getD x219.toNat T.u) 4))]).bind fun r225 =>
      L (IntKind.wrap .i64 (x219 + 1)) (asL (nth r225 0))
    else
      (c 67 [T.sl (asL (nth r222 0)), T.i .i64 0]).bind fun r226 =>
      (c 67 [T.sl (asL (nth r226 0)), T.i .i64 (asI (T.cell (l0_1.getD x219.toNat T.u) 3))]).bind fun r227 =>
      (c 67 [T.sl (asL (nth r227 0)), T.i .i64 (asI (T.cell (l0_1.getD x219.toNat T.u) 4))]).bind fun r228 =>
      L (IntKind.wrap .i64 (x219 + 1)) (asL (nth r228 0))
    else none
  else
    some [T.i .i64 0, T.sl x220]
def f26_0_c (l0_1 : List T) (x219 : Int) (x220 : List T) : CSt := ⟨[.rf 2 [] 0 none, .ro 0 true [.i .i64, .s, .b, .i .i64, .i .i64] l0_1, .i .i64 (l0_1.length : Int), .i .i64 x219], [.dead, .dead, .row false [.i .u8] x220 0 false]⟩
theorem f26_0_round (c : Orc) (lf : Nat) (l0_1 : List T) (L : CSt → Option (List T)) (x219 : Int) (x220 : List T) :
    roundK c env lf 6 fi26 2 5 [] [3, 18, 19, 20] (x26_5_0) L (f26_0_c l0_1 x219 x220) = f26_0_s c lf l0_1 (fun x219 x220 => L (f26_0_c l0_1 x219 x220)) x219 x220 := by kernel_rfl
def f26_0 (c : Orc) (lf : Nat) (l0_1 : List T) : Nat → Int → List T → Option (List T)
  | 0 => fun _ _ => none
  | n + 1 => fun x219 x220 => f26_0_s c lf l0_1 (f26_0 c lf l0_1 n) x219 x220
theorem f26_0_u (c : Orc) (lf : Nat) (l0_1 : List T) (n : Nat) (x219 : Int) (x220 : List T) : f26_0 c lf l0_1 (n + 1) x219 x220 = f26_0_s c lf l0_1 (f26_0 c lf l0_1 n) x219 x220 := rfl
theorem f26_0_eq (c : Orc) (lf : Nat) (l0_1 : List T) (n : Nat) (x219 : Int) (x220 : List T) :
    lpK c env lf 6 fi26 2 5 [] [3, 18, 19, 20] (x26_5_0) n (f26_0_c l0_1 x219 x220) = f26_0 c lf l0_1 n x219 x220 := by
  induction n generalizing x219 x220 with
  | zero => rfl
  | succ n ih =>
    refine (f26_0_round c lf l0_1 _ x219 x220).trans ?_
    have e : (fun x219 x220 => lpK c env lf 6 fi26 2 5 [] [3, 18, 19, 20] (x26_5_0) n (f26_0_c l0_1 x219 x220)) = f26_0 c lf l0_1 n := by funext x219 x220; exact ih x219 x220
    show f26_0_s c lf l0_1 (fun x219 x220 => lpK c env lf 6 fi26 2 5 [] [3, 18, 19, 20] (x26_5_0) n (f26_0_c l0_1 x219 x220)) x219 x220 = _
    rw [e]; rfl
/-- loop.example/g00285/impl.PutTable -/
def f26_t (c : Orc) (lf : Nat) (lp0 : List T → Int → List T → Option (List T)) (n0_0 : Int) (l0_1 : List T) : Option (List T) :=
  (c 52 [T.st [T.i .i64 n0_0, T.sl l0_1]]).bind fun r208 =>
  bif !(asB (nth r208 0)) then
    some [T.sl []]
  else
    (c 67 [T.sl ([] : List T), T.i .i64 n0_0]).bind fun r209 =>
    (c 67 [T.sl (asL (nth r209 0)), T.i .i64 (l0_1.length : Int)]).bind fun r210 =>
    (lp0 l0_1 0 (asL (nth r210 0))).bind fun r229 =>
    some [T.sl (asL (nth r229 1))]
def f26 (c : Orc) (lf : Nat) (n0_0 : Int) (l0_1 : List T) : Option (List T) := f26_t c lf (fun (l0_1 : List T) (x219 : Int) (x220 : List T) => f26_0 c lf l0_1 lf x219 x220) n0_0 l0_1
theorem f26_raw (c : Orc) (lf : Nat) (n0_0 : Int) (l0_1 : List T) : funK c env lf 6 fi26 [.st [.i .i64 n0_0, .sl l0_1]] = f26_t c lf (fun (l0_1 : List T) (x219 : Int) (x220 : List T) => lpK c env lf 6 fi26 2 5 [] [3, 18, 19, 20] (x26_5_0) lf (f26_0_c l0_1 x219 x220)) n0_0 l0_1 := by kernel_rfl
theorem f26_eq (c : Orc) (lf : Nat) (n0_0 : Int) (l0_1 : List T) : funK c env lf 6 fi26 [.st [.i .i64 n0_0, .sl l0_1]] = f26 c lf n0_0 l0_1 := by
  refine (f26_raw c lf n0_0 l0_1).trans ?_
  have e0 : (fun (l0_1 : List T) (x219 : Int) (x220 : List T) => lpK c env lf 6 fi26 2 5 [] [3, 18, 19, 20] (x26_5_0) lf (f26_0_c l0_1 x219 x220)) = (fun (l0_1 : List T) (x219 : Int) (x220 : List T) => f26_0 c lf l0_1 lf x219 x220) := by funext l0_1 x219 x220; exact f26_0_eq c lf l0_1 lf x219 x220
  rw [e0]; rfl
/-- loop.example/g00285/laws.eqByteS, the loop at region 4. -/
def f27_0_s (c : Orc) (lf : Nat) (l0 : List T) (l1 : List T) (L : Int → Option (List T)) (x232 : Int) : Option (List T) :=
  bif iLt x232 (l0.length : Int) then
    bif inR x232 l0.length then
    bif inR x232 l1.length then
    bif (asI (l0.getD x232.toNat T.u)) != (asI (l1.getD x232.toNat T.u)) then
      some [T.i .i64 0, T.b false]
    else
      L (IntKind.wrap .i64 (x232 + 1))
    else none
    else none
  else
    some [T.i .i64 1]
def f27_0_c (l0 : List T) (l1 : List T) (x232 : Int) : CSt := ⟨[.ro 0 false [.i .u8] l0, .ro 0 false [.i .u8] l1, .i .i64 x232], [.dead, .dead]⟩
theorem f27_0_round (c : Orc) (lf : Nat) (l0 : List T) (l1 : List T) (L : CSt → Option (List T)) (x232 : Int) :
    roundK c env lf 6 fi27 2 4 [] [0, 1, 5] (x27_4_0) L (f27_0_c l0 l1 x232) = f27_0_s c lf l0 l1 (fun x232 => L (f27_0_c l0 l1 x232)) x232 := by kernel_rfl
def f27_0 (c : Orc) (lf : Nat) (l0 : List T) (l1 : List T) : Nat → Int → Option (List T)
  | 0 => fun _ => none
  | n + 1 => fun x232 => f27_0_s c lf l0 l1 (f27_0 c lf l0 l1 n) x232
theorem f27_0_u (c : Orc) (lf : Nat) (l0 : List T) (l1 : List T) (n : Nat) (x232 : Int) : f27_0 c lf l0 l1 (n + 1) x232 = f27_0_s c lf l0 l1 (f27_0 c lf l0 l1 n) x232 := rfl
theorem f27_0_eq (c : Orc) (lf : Nat) (l0 : List T) (l1 : List T) (n : Nat) (x232 : Int) :
    lpK c env lf 6 fi27 2 4 [] [0, 1, 5] (x27_4_0) n (f27_0_c l0 l1 x232) = f27_0 c lf l0 l1 n x232 := by
  induction n generalizing x232 with
  | zero => rfl
  | succ n ih =>
    refine (f27_0_round c lf l0 l1 _ x232).trans ?_
    have e : (fun x232 => lpK c env lf 6 fi27 2 4 [] [0, 1, 5] (x27_4_0) n (f27_0_c l0 l1 x232)) = f27_0 c lf l0 l1 n := by funext x232; exact ih x232
    show f27_0_s c lf l0 l1 (fun x232 => lpK c env lf 6 fi27 2 4 [] [0, 1, 5] (x27_4_0) n (f27_0_c l0 l1 x232)) x232 = _
    rw [e]; rfl
/-- loop.example/g00285/laws.eqByteS -/
def f27_t (c : Orc) (lf : Nat) (lp0 : List T → List T → Int → Option (List T)) (l0 : List T) (l1 : List T) : Option (List T) :=
  bif (l0.length : Int) != (l1.length : Int) then
    some [T.b false]
  else
    (lp0 l0 l1 0).bind fun r233 =>
    bif asI (nth r233 0) == 0 then
      some [T.b (asB (nth r233 1))]
    else
      some [T.b true]
def f27 (c : Orc) (lf : Nat) (l0 : List T) (l1 : List T) : Option (List T) := f27_t c lf (fun (l0 : List T) (l1 : List T) (x232 : Int) => f27_0 c lf l0 l1 lf x232) l0 l1
theorem f27_raw (c : Orc) (lf : Nat) (l0 : List T) (l1 : List T) : funK c env lf 6 fi27 [.sl l0, .sl l1] = f27_t c lf (fun (l0 : List T) (l1 : List T) (x232 : Int) => lpK c env lf 6 fi27 2 4 [] [0, 1, 5] (x27_4_0) lf (f27_0_c l0 l1 x232)) l0 l1 := by kernel_rfl
theorem f27_eq (c : Orc) (lf : Nat) (l0 : List T) (l1 : List T) : funK c env lf 6 fi27 [.sl l0, .sl l1] = f27 c lf l0 l1 := by
  refine (f27_raw c lf l0 l1).trans ?_
  have e0 : (fun (l0 : List T) (l1 : List T) (x232 : Int) => lpK c env lf 6 fi27 2 4 [] [0, 1, 5] (x27_4_0) lf (f27_0_c l0 l1 x232)) = (fun (l0 : List T) (l1 : List T) (x232 : Int) => f27_0 c lf l0 l1 lf x232) := by funext l0 l1 x232; exact f27_0_eq c lf l0 l1 lf x232
  rw [e0]; rfl
/-- loop.example/g00285/laws.eqRow -/
def f129_t (c : Orc) (lf : Nat) (n0_0 : Int) (s0_1 : ByteArray) (b0_2 : Bool) (n0_3 : Int) (n0_4 : Int) (n1_0 : Int) (s1_1 : ByteArray) (b1_2 : Bool) (n1_3 : Int) (n1_4 : Int) : Option (List T) :=
  bif n0_0 != n1_0 then
    some [T.b false]
  else
    bif !(s0_1.toList == s1_1.toList) then
      some [T.b false]
    else
      bif !(b0_2 == b1_2) then
        some [T.b false]
      else
        bif n0_3 != n1_3 then
          some [T.b false]
        else
          bif n0_4 != n1_4 then
            some [T.b false]
          else
            some [T.b true]
def f129 (c : Orc) (lf : Nat) (n0_0 : Int) (s0_1 : ByteArray) (b0_2 : Bool) (n0_3 : Int) (n0_4 : Int) (n1_0 : Int) (s1_1 : ByteArray) (b1_2 : Bool) (n1_3 : Int) (n1_4 : Int) : Option (List T) := f129_t c lf n0_0 s0_1 b0_2 n0_3 n0_4 n1_0 s1_1 b1_2 n1_3 n1_4
theorem f129_raw (c : Orc) (lf : Nat) (n0_0 : Int) (s0_1 : ByteArray) (b0_2 : Bool) (n0_3 : Int) (n0_4 : Int) (n1_0 : Int) (s1_1 : ByteArray) (b1_2 : Bool) (n1_3 : Int) (n1_4 : Int) : funK c env lf 6 fi129 [.st [.i .i64 n0_0, .s s0_1, .b b0_2, .i .i64 n0_3, .i .i64 n0_4], .st [.i .i64 n1_0, .s s1_1, .b b1_2, .i .i64 n1_3, .i .i64 n1_4]] = f129_t c lf n0_0 s0_1 b0_2 n0_3 n0_4 n1_0 s1_1 b1_2 n1_3 n1_4 := by kernel_rfl
theorem f129_eq (c : Orc) (lf : Nat) (n0_0 : Int) (s0_1 : ByteArray) (b0_2 : Bool) (n0_3 : Int) (n0_4 : Int) (n1_0 : Int) (s1_1 : ByteArray) (b1_2 : Bool) (n1_3 : Int) (n1_4 : Int) : funK c env lf 6 fi129 [.st [.i .i64 n0_0, .s s0_1, .b b0_2, .i .i64 n0_3, .i .i64 n0_4], .st [.i .i64 n1_0, .s s1_1, .b b1_2, .i .i64 n1_3, .i .i64 n1_4]] = f129 c lf n0_0 s0_1 b0_2 n0_3 n0_4 n1_0 s1_1 b1_2 n1_3 n1_4 := by
  refine (f129_raw c lf n0_0 s0_1 b0_2 n0_3 n0_4 n1_0 s1_1 b1_2 n1_3 n1_4).trans ?_
  rfl
/-- loop.example/g00285/laws.eqRowS, the loop at region 4. -/
def f83_0_s (c : Orc) (lf : Nat) (l0 : List T) (l1 : List T) (L : Int → Option (List T)) (x239 : Int) : Option (List T) :=
  bif iLt x239 (l0.length : Int) then
    bif inR x239 l0.length then
    bif inR x239 l1.length then
    (c 129 [T.st [T.i .i64 (asI (T.cell (l0.getD x239.toNat T.u) 0)), T.s (asS (T.cell (l0.getD x239.toNat T.u) 1)), T.b (asB (T.cell (l0.getD x239.toNat T.u) 2)), T.i .i64 (asI (T.cell (l0.getD x239.toNat T.u) 3)), T.i .i64 (asI (T.cell (l0.getD x239.toNat T.u) 4))], T.st [T.i .i64 (asI (T.cell (l1.getD x239.toNat T.u) 0)), T.s (asS (T.cell (l1.getD x239.toNat T.u) 1)), T.b (asB (T.cell (l1.getD x239.toNat T.u) 2)), T.i .i64 (asI (T.cell (l1.getD x239.toNat T.u) 3)), T.i .i64 (asI (T.cell (l1.getD x239.toNat T.u) 4))]]).bind fun r240 =>
    bif !(asB (nth r240 0)) then
      some [T.i .i64 0, T.b false]
    else
      L (IntKind.wrap .i64 (x239 + 1))
    else none
    else none
  else
    some [T.i .i64 1]
def f83_0_c (l0 : List T) (l1 : List T) (x239 : Int) : CSt := ⟨[.ro 0 true [.i .i64, .s, .b, .i .i64, .i .i64] l0, .ro 0 true [.i .i64, .s, .b, .i .i64, .i .i64] l1, .i .i64 x239], [.dead, .dead]⟩
theorem f83_0_round (c : Orc) (lf : Nat) (l0 : List T) (l1 : List T) (L : CSt → Option (List T)) (x239 : Int) :
    roundK c env lf 6 fi83 2 4 [] [0, 1, 5] (x83_4_0) L (f83_0_c l0 l1 x239) = f83_0_s c lf l0 l1 (fun x239 => L (f83_0_c l0 l1 x239)) x239 := by kernel_rfl
def f83_0 (c : Orc) (lf : Nat) (l0 : List T) (l1 : List T) : Nat → Int → Option (List T)
  | 0 => fun _ => none
  | n + 1 => fun x239 => f83_0_s c lf l0 l1 (f83_0 c lf l0 l1 n) x239
theorem f83_0_u (c : Orc) (lf : Nat) (l0 : List T) (l1 : List T) (n : Nat) (x239 : Int) : f83_0 c lf l0 l1 (n + 1) x239 = f83_0_s c lf l0 l1 (f83_0 c lf l0 l1 n) x239 := rfl
theorem f83_0_eq (c : Orc) (lf : Nat) (l0 : List T) (l1 : List T) (n : Nat) (x239 : Int) :
    lpK c env lf 6 fi83 2 4 [] [0, 1, 5] (x83_4_0) n (f83_0_c l0 l1 x239) = f83_0 c lf l0 l1 n x239 := by
  induction n generalizing x239 with
  | zero => rfl
  | succ n ih =>
    refine (f83_0_round c lf l0 l1 _ x239).trans ?_
    have e : (fun x239 => lpK c env lf 6 fi83 2 4 [] [0, 1, 5] (x83_4_0) n (f83_0_c l0 l1 x239)) = f83_0 c lf l0 l1 n := by funext x239; exact ih x239
    show f83_0_s c lf l0 l1 (fun x239 => lpK c env lf 6 fi83 2 4 [] [0, 1, 5] (x83_4_0) n (f83_0_c l0 l1 x239)) x239 = _
    rw [e]; rfl
/-- loop.example/g00285/laws.eqRowS -/
def f83_t (c : Orc) (lf : Nat) (lp0 : List T → List T → Int → Option (List T)) (l0 : List T) (l1 : List T) : Option (List T) :=
  bif (l0.length : Int) != (l1.length : Int) then
    some [T.b false]
  else
    (lp0 l0 l1 0).bind fun r241 =>
    bif asI (nth r241 0) == 0 then
      some [T.b (asB (nth r241 1))]
    else
      some [T.b true]
def f83 (c : Orc) (lf : Nat) (l0 : List T) (l1 : List T) : Option (List T) := f83_t c lf (fun (l0 : List T) (l1 : List T) (x239 : Int) => f83_0 c lf l0 l1 lf x239) l0 l1
theorem f83_raw (c : Orc) (lf : Nat) (l0 : List T) (l1 : List T) : funK c env lf 6 fi83 [.sl l0, .sl l1] = f83_t c lf (fun (l0 : List T) (l1 : List T) (x239 : Int) => lpK c env lf 6 fi83 2 4 [] [0, 1, 5] (x83_4_0) lf (f83_0_c l0 l1 x239)) l0 l1 := by kernel_rfl
theorem f83_eq (c : Orc) (lf : Nat) (l0 : List T) (l1 : List T) : funK c env lf 6 fi83 [.sl l0, .sl l1] = f83 c lf l0 l1 := by
  refine (f83_raw c lf l0 l1).trans ?_
  have e0 : (fun (l0 : List T) (l1 : List T) (x239 : Int) => lpK c env lf 6 fi83 2 4 [] [0, 1, 5] (x83_4_0) lf (f83_0_c l0 l1 x239)) = (fun (l0 : List T) (l1 : List T) (x239 : Int) => f83_0 c lf l0 l1 lf x239) := by funext l0 l1 x239; exact f83_0_eq c lf l0 l1 lf x239
  rw [e0]; rfl
/-- loop.example/g00285/laws.eqTable -/
def f28_t (c : Orc) (lf : Nat) (n0_0 : Int) (l0_1 : List T) (n1_0 : Int) (l1_1 : List T) : Option (List T) :=
  bif n0_0 != n1_0 then
    some [T.b false]
  else
    (c 83 [T.sl l0_1, T.sl l1_1]).bind fun r242 =>
    bif !(asB (nth r242 0)) then
      some [T.b false]
    else
      some [T.b true]
def f28 (c : Orc) (lf : Nat) (n0_0 : Int) (l0_1 : List T) (n1_0 : Int) (l1_1 : List T) : Option (List T) := f28_t c lf n0_0 l0_1 n1_0 l1_1
theorem f28_raw (c : Orc) (lf : Nat) (n0_0 : Int) (l0_1 : List T) (n1_0 : Int) (l1_1 : List T) : funK c env lf 6 fi28 [.st [.i .i64 n0_0, .sl l0_1], .st [.i .i64 n1_0, .sl l1_1]] = f28_t c lf n0_0 l0_1 n1_0 l1_1 := by kernel_rfl
theorem f28_eq (c : Orc) (lf : Nat) (n0_0 : Int) (l0_1 : List T) (n1_0 : Int) (l1_1 : List T) : funK c env lf 6 fi28 [.st [.i .i64 n0_0, .sl l0_1], .st [.i .i64 n1_0, .sl l1_1]] = f28 c lf n0_0 l0_1 n1_0 l1_1 := by
  refine (f28_raw c lf n0_0 l0_1 n1_0 l1_1).trans ?_
  rfl
/-- loop.example/g00285/laws.markText, the loop at region 4. -/
def f130_0_s (c : Orc) (lf : Nat) (L : Int → ByteArray → Option (List T)) (x246 : Int) (x247 : ByteArray) : Option (List T) :=
  bif iLt 0 x246 then
    bif nLe ((bytesOf ([T.i .u8 (IntKind.wrap .u8 (IntKind.wrap .i64 (48 + (x246.tmod 10))))] : List T)).size + x247.size) LIM then
    L (IntKind.wrap .i64 (x246.tdiv 10)) ((bytesOf ([T.i .u8 (IntKind.wrap .u8 (IntKind.wrap .i64 (48 + (x246.tmod 10))))] : List T)) ++ x247)
    else none
  else
    some [T.i .i64 0, T.s x247]
def f130_0_c (x246 : Int) (x247 : ByteArray) : CSt := ⟨[.i .i64 x246, .s x247], [.dead]⟩
theorem f130_0_round (c : Orc) (lf : Nat) (L : CSt → Option (List T)) (x246 : Int) (x247 : ByteArray) :
    roundK c env lf 6 fi130 1 4 [] [0, 3] (x130_4_0) L (f130_0_c x246 x247) = f130_0_s c lf (fun x246 x247 => L (f130_0_c x246 x247)) x246 x247 := by kernel_rfl
def f130_0 (c : Orc) (lf : Nat) : Nat → Int → ByteArray → Option (List T)
  | 0 => fun _ _ => none
  | n + 1 => fun x246 x247 => f130_0_s c lf (f130_0 c lf n) x246 x247
theorem f130_0_u (c : Orc) (lf : Nat) (n : Nat) (x246 : Int) (x247 : ByteArray) : f130_0 c lf (n + 1) x246 x247 = f130_0_s c lf (f130_0 c lf n) x246 x247 := rfl
theorem f130_0_eq (c : Orc) (lf : Nat) (n : Nat) (x246 : Int) (x247 : ByteArray) :
    lpK c env lf 6 fi130 1 4 [] [0, 3] (x130_4_0) n (f130_0_c x246 x247) = f130_0 c lf n x246 x247 := by
  induction n generalizing x246 x247 with
  | zero => rfl
  | succ n ih =>
    refine (f130_0_round c lf _ x246 x247).trans ?_
    have e : (fun x246 x247 => lpK c env lf 6 fi130 1 4 [] [0, 3] (x130_4_0) n (f130_0_c x246 x247)) = f130_0 c lf n := by funext x246 x247; exact ih x246 x247
    show f130_0_s c lf (fun x246 x247 => lpK c env lf 6 fi130 1 4 [] [0, 3] (x130_4_0) n (f130_0_c x246 x247)) x246 x247 = _
    rw [e]; rfl
/-- loop.example/g00285/laws.markText -/
def f130_t (c : Orc) (lf : Nat) (lp0 : Int → ByteArray → Option (List T)) (n0 : Int) : Option (List T) :=
  bif iLe n0 0 then
    some [T.s (⟨#[109, 48]⟩ : ByteArray)]
  else
    (lp0 n0 (⟨#[]⟩ : ByteArray)).bind fun r248 =>
    bif nLe ((⟨#[109]⟩ : ByteArray).size + (asS (nth r248 1)).size) LIM then
    some [T.s ((⟨#[109]⟩ : ByteArray) ++ (asS (nth r248 1)))]
    else none
def f130 (c : Orc) (lf : Nat) (n0 : Int) : Option (List T) := f130_t c lf (fun (x246 : Int) (x247 : ByteArray) => f130_0 c lf lf x246 x247) n0
theorem f130_raw (c : Orc) (lf : Nat) (n0 : Int) : funK c env lf 6 fi130 [.i .i64 n0] = f130_t c lf (fun (x246 : Int) (x247 : ByteArray) => lpK c env lf 6 fi130 1 4 [] [0, 3] (x130_4_0) lf (f130_0_c x246 x247)) n0 := by kernel_rfl
theorem f130_eq (c : Orc) (lf : Nat) (n0 : Int) : funK c env lf 6 fi130 [.i .i64 n0] = f130 c lf n0 := by
  refine (f130_raw c lf n0).trans ?_
  have e0 : (fun (x246 : Int) (x247 : ByteArray) => lpK c env lf 6 fi130 1 4 [] [0, 3] (x130_4_0) lf (f130_0_c x246 x247)) = (fun (x246 : Int) (x247 : ByteArray) => f130_0 c lf lf x246 x247) := by funext x246 x247; exact f130_0_eq c lf lf x246 x247
  rw [e0]; rfl
/-- loop.example/g00285/laws.markRowS, the loop at region 2. -/
def f84_0_s (c : Orc) (lf : Nat) (L : Int → Int → List T → Option (List T)) (x256 : Int) (x257 : Int) (x258 : List T) : Option (List T) :=
  bif iLt x257 (x258.length : Int) then
    bif inR x257 x258.length then
    (c 130 [T.i .i64 (IntKind.wrap .i64 (x256 + 1))]).bind fun r259 =>
    bif inR x257 ((x258.set x257.toNat (T.setc (x258.getD x257.toNat T.u) 0 (T.i .i64 x256))).length) then
    bif inR x257 (((x258.set x257.toNat (T.setc (x258.getD x257.toNat T.u) 0 (T.i .i64 x256))).set x257.toNat (T.setc ((x258.set x257.toNat (T.setc (x258.getD x257.toNat T.u) 0 (T.i .i64 x256))).getD x257.toNat T.u) 1 (T.s (asS (nth r259 0))))).length) then
    bif inR x257 ((((x258.set x257.toNat (T.setc (x258.getD x257.toNat T.u) 0 (T.i .i64 x256))).set x257.toNat (T.setc ((x258.set x257.toNat (T.setc (x258.getD x257.toNat T.u) 0 (T.i .i64 x256))).getD x257.toNat T.u) 1 (T.s (asS (nth r259 0))))).set x257.toNat (T.setc (((x258.set x257.toNat (T.setc (x258.getD x257.toNat T.u) 0 (T.i .i64 x256))).set x257.toNat (T.setc ((x258.set x257.toNat (T.setc (x258.getD x257.toNat T.u) 0 (T.i .i64 x256))).getD x257.toNat T.u) 1 (T.s (asS (nth r259 0))))).getD x257.toNat T.u) 2 (T.b (((IntKind.wrap .i64 ((IntKind.wrap .i64 (x256 + 1)) + 1)).tmod 3) == 0)))).length) then
    bif inR x257 (((((x258.set x257.toNat (T.setc (x258.getD x257.toNat T.u) 0 (T.i .i64 x256))).set x257.toNat (T.setc ((x258.set x257.toNat (T.setc (x258.getD x257.toNat T.u) 0 (T.i .i64 x256))).getD x257.toNat T.u) 1 (T.s (asS (nth r259 0))))).set x257.toNat (T.setc (((x258.set x257.toNat (T.setc (x258.getD x257.toNat T.u) 0 (T.i .i64 x256))).set x257.toNat (T.setc ((x258.set x257.toNat (T.setc (x258.getD x257.toNat T.u) 0 (T.i .i64 x256))).getD x257.toNat T.u) 1 (T.s (asS (nth r259 0))))).getD x257.toNat T.u) 2 (T.b (((IntKind.wrap .i64 ((IntKind.wrap .i64 (x256 + 1)) + 1)).tmod 3) == 0)))).set x257.toNat (T.setc ((((x258.set x257.toNat (T.setc (x258.getD x257.toNat T.u) 0 (T.i .i64 x256))).set x257.toNat (T.setc ((x258.set x257.toNat (T.setc (x258.getD x257.toNat T.u) 0 (T.i .i64 x256))).getD x257.toNat T.u) 1 (T.s (asS (nth r259 0))))).set x257.toNat (T.setc (((x258.set x257.toNat (T.setc (x258.getD x257.toNat T.u) 0 (T.i .i64 x256))).set x257.toNat (T.setc ((x258.set x257.toNat (T.setc (x258.getD x257.toNat T.u) 0 (T.i .i64 x256))).getD x257.toNat T.u) 1 (T.s (asS (nth r259 0))))).getD x257.toNat T.u) 2 (T.b (((IntKind.wrap .i64 ((IntKind.wrap .i64 (x256 + 1)) + 1)).tmod 3) == 0)))).getD x257.toNat T.u) 3 (T.i .i64 (IntKind.wrap .i64 ((IntKind.wrap .i64 ((IntKind.wrap .i64 (x256 + 1)) + 1)) + 1))))).length) then
    L (IntKind.wrap .i64 ((IntKind.wrap .i64 ((IntKind.wrap .i64 ((IntKind.wrap .i64 ((IntKind.wrap .i64 (x256 + 1)) + 1)) + 1)) + 1)) + 1)) (IntKind.wrap .i64 (x257 + 1)) (((((x258.set x257.toNat (T.setc (x258.getD x257.toNat T.u) 0 (T.i .i64 x256))).set x257.toNat (T.setc ((x258.set x257.toNat (T.setc (x258.getD x257.toNat T.u) 0 (T.i .i64 x256))).getD x257.toNat T.u) 1 (T.s (asS (nth r259 0))))).set x257.toNat (T.setc (((x258.set x257.toNat (T.setc (x258.getD x257.toNat T.u) 0 (T.i .i64 x256))).set x257.toNat (T.setc ((x258.set x257.toNat (T.setc (x258.getD x257.toNat T.u) 0 (T.i .i64 x256))).getD x257.toNat T.u) 1 (T.s (asS (nth r259 0))))).getD x257.toNat T.u) 2 (T.b (((IntKind.wrap .i64 ((IntKind.wrap .i64 (x256 + 1)) + 1)).tmod 3) == 0)))).set x257.toNat (T.setc ((((x258.set x257.toNat (T.setc (x258.getD x257.toNat T.u) 0 (T.i .i64 x256))).set x257.toNat (T.setc ((x258.set x257.toNat (T.setc (x258.getD x257.toNat T.u) 0 (T.i .i64 x256))).getD x257.toNat T.u) 1 (T.s (asS (nth r259 0))))).set x257.toNat (T.setc (((x258.set x257.toNat (T.setc (x258.getD x257.toNat T.u) 0 (T.i .i64 x256))).set x257.toNat (T.setc ((x258.set x257.toNat (T.setc (x258.getD x257.toNat T.u) 0 (T.i .i64 x256))).getD x257.toNat T.u) 1 (T.s (asS (nth r259 0))))).getD x257.toNat T.u) 2 (T.b (((IntKind.wrap .i64 ((IntKind.wrap .i64 (x256 + 1)) + 1)).tmod 3) == 0)))).getD x257.toNat T.u) 3 (T.i .i64 (IntKind.wrap .i64 ((IntKind.wrap .i64 ((IntKind.wrap .i64 (x256 + 1)) + 1)) + 1))))).set x257.toNat (T.setc (((((x258.set x257.toNat (T.setc (x258.getD x257.toNat T.u) 0 (T.i .i64 x256))).set x257.toNat (T.setc ((x258.set x257.toNat (T.setc (x258.getD x257.toNat T.u) 0 (T.i .i64 x256))).getD x257.toNat T.u) 1 (T.s (asS (nth r259 0))))).set x257.toNat (T.setc (((x258.set x257.toNat (T.setc (x258.getD x257.toNat T.u) 0 (T.i .i64 x256))).set x257.toNat (T.setc ((x258.set x257.toNat (T.setc (x258.getD x257.toNat T.u) 0 (T.i .i64 x256))).getD x257.toNat T.u) 1 (T.s (asS (nth r259 0))))).getD x257.toNat T.u) 2 (T.b (((IntKind.wrap .i64 ((IntKind.wrap .i64 (x256 + 1)) + 1)).tmod 3) == 0)))).set x257.toNat (T.setc ((((x258.set x257.toNat (T.setc (x258.getD x257.toNat T.u) 0 (T.i .i64 x256))).set x257.toNat (T.setc ((x258.set x257.toNat (T.setc (x258.getD x257.toNat T.u) 0 (T.i .i64 x256))).getD x257.toNat T.u) 1 (T.s (asS (nth r259 0))))).set x257.toNat (T.setc (((x258.set x257.toNat (T.setc (x258.getD x257.toNat T.u) 0 (T.i .i64 x256))).set x257.toNat (T.setc ((x258.set x257.toNat (T.setc (x258.getD x257.toNat T.u) 0 (T.i .i64 x256))).getD x257.toNat T.u) 1 (T.s (asS (nth r259 0))))).getD x257.toNat T.u) 2 (T.b (((IntKind.wrap .i64 ((IntKind.wrap .i64 (x256 + 1)) + 1)).tmod 3) == 0)))).getD x257.toNat T.u) 3 (T.i .i64 (IntKind.wrap .i64 ((IntKind.wrap .i64 ((IntKind.wrap .i64 (x256 + 1)) + 1)) + 1))))).getD x257.toNat T.u) 4 (T.i .i64 (IntKind.wrap .i64 ((IntKind.wrap .i64 ((IntKind.wrap .i64 ((IntKind.wrap .i64 (x256 + 1)) + 1)) + 1)) + 1)))))
    else none
    else none
    else none
    else none
    else none
  else
    some [T.i .i64 0, T.i .i64 x256, T.sl x258]
def f84_0_c (x256 : Int) (x257 : Int) (x258 : List T) : CSt := ⟨[.rf 0 [] 0 none, .i .i64 x256, .i .i64 x257], [.row true [.i .i64, .s, .b, .i .i64, .i .i64] x258 0 false, .dead]⟩
theorem f84_0_round (c : Orc) (lf : Nat) (L : CSt → Option (List T)) (x256 : Int) (x257 : Int) (x258 : List T) :
    roundK c env lf 6 fi84 2 2 [] [0, 1, 5] (x84_2_0) L (f84_0_c x256 x257 x258) = f84_0_s c lf (fun x256 x257 x258 => L (f84_0_c x256 x257 x258)) x256 x257 x258 := by kernel_rfl
def f84_0 (c : Orc) (lf : Nat) : Nat → Int → Int → List T → Option (List T)
  | 0 => fun _ _ _ => none
  | n + 1 => fun x256 x257 x258 => f84_0_s c lf (f84_0 c lf n) x256 x257 x258
theorem f84_0_u (c : Orc) (lf : Nat) (n : Nat) (x256 : Int) (x257 : Int) (x258 : List T) : f84_0 c lf (n + 1) x256 x257 x258 = f84_0_s c lf (f84_0 c lf n) x256 x257 x258 := rfl
theorem f84_0_eq (c : Orc) (lf : Nat) (n : Nat) (x256 : Int) (x257 : Int) (x258 : List T) :
    lpK c env lf 6 fi84 2 2 [] [0, 1, 5] (x84_2_0) n (f84_0_c x256 x257 x258) = f84_0 c lf n x256 x257 x258 := by
  induction n generalizing x256 x257 x258 with
  | zero => rfl
  | succ n ih =>
    refine (f84_0_round c lf _ x256 x257 x258).trans ?_
    have e : (fun x256 x257 x258 => lpK c env lf 6 fi84 2 2 [] [0, 1, 5] (x84_2_0) n (f84_0_c x256 x257 x258)) = f84_0 c lf n := by funext x256 x257 x258; exact ih x256 x257 x258
    show f84_0_s c lf (fun x256 x257 x258 => lpK c env lf 6 fi84 2 2 [] [0, 1, 5] (x84_2_0) n (f84_0_c x256 x257 x258)) x256 x257 x258 = _
    rw [e]; rfl
/-- loop.example/g00285/laws.markRowS -/
def f84_t (c : Orc) (lf : Nat) (lp0 : Int → Int → List T → Option (List T)) (l0 : List T) (n1 : Int) : Option (List T) :=
  (lp0 n1 0 l0).bind fun r260 =>
  some [T.i .i64 (asI (nth r260 1)), T.sl (asL (nth r260 2))]
def f84 (c : Orc) (lf : Nat) (l0 : List T) (n1 : Int) : Option (List T) := f84_t c lf (fun (x256 : Int) (x257 : Int) (x258 : List T) => f84_0 c lf lf x256 x257 x258) l0 n1
theorem f84_raw (c : Orc) (lf : Nat) (l0 : List T) (n1 : Int) : funK c env lf 6 fi84 [.sl l0, .i .i64 n1] = f84_t c lf (fun (x256 : Int) (x257 : Int) (x258 : List T) => lpK c env lf 6 fi84 2 2 [] [0, 1, 5] (x84_2_0) lf (f84_0_c x256 x257 x258)) l0 n1 := by kernel_rfl
theorem f84_eq (c : Orc) (lf : Nat) (l0 : List T) (n1 : Int) : funK c env lf 6 fi84 [.sl l0, .i .i64 n1] = f84 c lf l0 n1 := by
  refine (f84_raw c lf l0 n1).trans ?_
  have e0 : (fun (x256 : Int) (x257 : Int) (x258 : List T) => lpK c env lf 6 fi84 2 2 [] [0, 1, 5] (x84_2_0) lf (f84_0_c x256 x257 x258)) = (fun (x256 : Int) (x257 : Int) (x258 : List T) => f84_0 c lf lf x256 x257 x258) := by funext x256 x257 x258; exact f84_0_eq c lf lf x256 x257 x258
  rw [e0]; rfl
/-- loop.example/g00285/laws.markTable -/
def f29_t (c : Orc) (lf : Nat) (n0_0 : Int) (l0_1 : List T) (n1 : Int) : Option (List T) :=
  (c 84 [T.sl l0_1, T.i .i64 n1]).bind fun r261 =>
  some [T.i .i64 (asI (nth r261 0)), T.sl (asL (nth r261 1))]
def f29 (c : Orc) (lf : Nat) (n0_0 : Int) (l0_1 : List T) (n1 : Int) : Option (List T) := f29_t c lf n0_0 l0_1 n1
theorem f29_raw (c : Orc) (lf : Nat) (n0_0 : Int) (l0_1 : List T) (n1 : Int) : funK c env lf 6 fi29 [.st [.i .i64 n0_0, .sl l0_1], .i .i64 n1] = f29_t c lf n0_0 l0_1 n1 := by kernel_rfl
theorem f29_eq (c : Orc) (lf : Nat) (n0_0 : Int) (l0_1 : List T) (n1 : Int) : funK c env lf 6 fi29 [.st [.i .i64 n0_0, .sl l0_1], .i .i64 n1] = f29 c lf n0_0 l0_1 n1 := by
  refine (f29_raw c lf n0_0 l0_1 n1).trans ?_
  rfl
/-- loop.example/g00285/laws.markByteS, the loop at region 2. -/
def f30_0_s (c : Orc) (lf : Nat) (L : Int → Int → List T → Option (List T)) (x266 : Int) (x267 : Int) (x268 : List T) : Option (List T) :=
  bif iLt x267 (x268.length : Int) then
    bif inR x267 x268.length then
    L (IntKind.wrap .i64 (x266 + 1)) (IntKind.wrap .i64 (x267 + 1)) (x268.set x267.toNat (T.i .u8 (IntKind.wrap .u8 x266)))
    else none
  else
    some [T.i .i64 0, T.i .i64 x266, T.sl x268]
def f30_0_c (x266 : Int) (x267 : Int) (x268 : List T) : CSt := ⟨[.rf 0 [] 0 none, .i .i64 x266, .i .i64 x267], [.row false [.i .u8] x268 0 false, .dead]⟩
theorem f30_0_round (c : Orc) (lf : Nat) (L : CSt → Option (List T)) (x266 : Int) (x267 : Int) (x268 : List T) :
    roundK c env lf 6 fi30 2 2 [] [0, 1, 5] (x30_2_0) L (f30_0_c x266 x267 x268) = f30_0_s c lf (fun x266 x267 x268 => L (f30_0_c x266 x267 x268)) x266 x267 x268 := by kernel_rfl
def f30_0 (c : Orc) (lf : Nat) : Nat → Int → Int → List T → Option (List T)
  | 0 => fun _ _ _ => none
  | n + 1 => fun x266 x267 x268 => f30_0_s c lf (f30_0 c lf n) x266 x267 x268
theorem f30_0_u (c : Orc) (lf : Nat) (n : Nat) (x266 : Int) (x267 : Int) (x268 : List T) : f30_0 c lf (n + 1) x266 x267 x268 = f30_0_s c lf (f30_0 c lf n) x266 x267 x268 := rfl
theorem f30_0_eq (c : Orc) (lf : Nat) (n : Nat) (x266 : Int) (x267 : Int) (x268 : List T) :
    lpK c env lf 6 fi30 2 2 [] [0, 1, 5] (x30_2_0) n (f30_0_c x266 x267 x268) = f30_0 c lf n x266 x267 x268 := by
  induction n generalizing x266 x267 x268 with
  | zero => rfl
  | succ n ih =>
    refine (f30_0_round c lf _ x266 x267 x268).trans ?_
    have e : (fun x266 x267 x268 => lpK c env lf 6 fi30 2 2 [] [0, 1, 5] (x30_2_0) n (f30_0_c x266 x267 x268)) = f30_0 c lf n := by funext x266 x267 x268; exact ih x266 x267 x268
    show f30_0_s c lf (fun x266 x267 x268 => lpK c env lf 6 fi30 2 2 [] [0, 1, 5] (x30_2_0) n (f30_0_c x266 x267 x268)) x266 x267 x268 = _
    rw [e]; rfl
/-- loop.example/g00285/laws.markByteS -/
def f30_t (c : Orc) (lf : Nat) (lp0 : Int → Int → List T → Option (List T)) (l0 : List T) (n1 : Int) : Option (List T) :=
  (lp0 n1 0 l0).bind fun r269 =>
  some [T.i .i64 (asI (nth r269 1)), T.sl (asL (nth r269 2))]
def f30 (c : Orc) (lf : Nat) (l0 : List T) (n1 : Int) : Option (List T) := f30_t c lf (fun (x266 : Int) (x267 : Int) (x268 : List T) => f30_0 c lf lf x266 x267 x268) l0 n1
theorem f30_raw (c : Orc) (lf : Nat) (l0 : List T) (n1 : Int) : funK c env lf 6 fi30 [.sl l0, .i .i64 n1] = f30_t c lf (fun (x266 : Int) (x267 : Int) (x268 : List T) => lpK c env lf 6 fi30 2 2 [] [0, 1, 5] (x30_2_0) lf (f30_0_c x266 x267 x268)) l0 n1 := by kernel_rfl
theorem f30_eq (c : Orc) (lf : Nat) (l0 : List T) (n1 : Int) : funK c env lf 6 fi30 [.sl l0, .i .i64 n1] = f30 c lf l0 n1 := by
  refine (f30_raw c lf l0 n1).trans ?_
  have e0 : (fun (x266 : Int) (x267 : Int) (x268 : List T) => lpK c env lf 6 fi30 2 2 [] [0, 1, 5] (x30_2_0) lf (f30_0_c x266 x267 x268)) = (fun (x266 : Int) (x267 : Int) (x268 : List T) => f30_0 c lf lf x266 x267 x268) := by funext x266 x267 x268; exact f30_0_eq c lf lf x266 x267 x268
  rw [e0]; rfl
/-- loop.example/g00285/laws.heldByteS, the loop at region 2. -/
def f31_0_s (c : Orc) (lf : Nat) (l0 : List T) (L : Int → Int → Option (List T)) (x273 : Int) (x274 : Int) : Option (List T) :=
  bif iLt x274 (l0.length : Int) then
    bif inR x274 l0.length then
    bif (asI (l0.getD x274.toNat T.u)) != (IntKind.wrap .u8 x273) then
      some [T.i .i64 0, T.i .i64 (-1)]
    else
      L (IntKind.wrap .i64 (x273 + 1)) (IntKind.wrap .i64 (x274 + 1))
    else none
  else
    some [T.i .i64 1, T.i .i64 x273]
def f31_0_c (l0 : List T) (x273 : Int) (x274 : Int) : CSt := ⟨[.ro 0 false [.i .u8] l0, .i .i64 x273, .i .i64 x274], [.dead, .dead]⟩
theorem f31_0_round (c : Orc) (lf : Nat) (l0 : List T) (L : CSt → Option (List T)) (x273 : Int) (x274 : Int) :
    roundK c env lf 6 fi31 2 2 [] [0, 1, 5] (x31_2_0) L (f31_0_c l0 x273 x274) = f31_0_s c lf l0 (fun x273 x274 => L (f31_0_c l0 x273 x274)) x273 x274 := by kernel_rfl
def f31_0 (c : Orc) (lf : Nat) (l0 : List T) : Nat → Int → Int → Option (List T)
  | 0 => fun _ _ => none
  | n + 1 => fun x273 x274 => f31_0_s c lf l0 (f31_0 c lf l0 n) x273 x274
theorem f31_0_u (c : Orc) (lf : Nat) (l0 : List T) (n : Nat) (x273 : Int) (x274 : Int) : f31_0 c lf l0 (n + 1) x273 x274 = f31_0_s c lf l0 (f31_0 c lf l0 n) x273 x274 := rfl
theorem f31_0_eq (c : Orc) (lf : Nat) (l0 : List T) (n : Nat) (x273 : Int) (x274 : Int) :
    lpK c env lf 6 fi31 2 2 [] [0, 1, 5] (x31_2_0) n (f31_0_c l0 x273 x274) = f31_0 c lf l0 n x273 x274 := by
  induction n generalizing x273 x274 with
  | zero => rfl
  | succ n ih =>
    refine (f31_0_round c lf l0 _ x273 x274).trans ?_
    have e : (fun x273 x274 => lpK c env lf 6 fi31 2 2 [] [0, 1, 5] (x31_2_0) n (f31_0_c l0 x273 x274)) = f31_0 c lf l0 n := by funext x273 x274; exact ih x273 x274
    show f31_0_s c lf l0 (fun x273 x274 => lpK c env lf 6 fi31 2 2 [] [0, 1, 5] (x31_2_0) n (f31_0_c l0 x273 x274)) x273 x274 = _
    rw [e]; rfl
/-- loop.example/g00285/laws.heldByteS -/
def f31_t (c : Orc) (lf : Nat) (lp0 : List T → Int → Int → Option (List T)) (l0 : List T) (n1 : Int) : Option (List T) :=
  (lp0 l0 n1 0).bind fun r275 =>
  bif asI (nth r275 0) == 0 then
    some [T.i .i64 (asI (nth r275 1))]
  else
    some [T.i .i64 (asI (nth r275 1))]
def f31 (c : Orc) (lf : Nat) (l0 : List T) (n1 : Int) : Option (List T) := f31_t c lf (fun (l0 : List T) (x273 : Int) (x274 : Int) => f31_0 c lf l0 lf x273 x274) l0 n1
theorem f31_raw (c : Orc) (lf : Nat) (l0 : List T) (n1 : Int) : funK c env lf 6 fi31 [.sl l0, .i .i64 n1] = f31_t c lf (fun (l0 : List T) (x273 : Int) (x274 : Int) => lpK c env lf 6 fi31 2 2 [] [0, 1, 5] (x31_2_0) lf (f31_0_c l0 x273 x274)) l0 n1 := by kernel_rfl
theorem f31_eq (c : Orc) (lf : Nat) (l0 : List T) (n1 : Int) : funK c env lf 6 fi31 [.sl l0, .i .i64 n1] = f31 c lf l0 n1 := by
  refine (f31_raw c lf l0 n1).trans ?_
  have e0 : (fun (l0 : List T) (x273 : Int) (x274 : Int) => lpK c env lf 6 fi31 2 2 [] [0, 1, 5] (x31_2_0) lf (f31_0_c l0 x273 x274)) = (fun (l0 : List T) (x273 : Int) (x274 : Int) => f31_0 c lf l0 lf x273 x274) := by funext l0 x273 x274; exact f31_0_eq c lf l0 lf x273 x274
  rw [e0]; rfl
/-- loop.example/g00285/laws.FnExactPutTable -/
def f4_t (c : Orc) (lf : Nat) (n0_0 : Int) (l0_1 : List T) : Option (List T) :=
  (c 23 [T.st [T.i .i64 n0_0, T.sl l0_1], T.i .i64 1048576]).bind fun r276 =>
  bif iLt (asI (nth r276 0)) 0 then
    some [T.b true]
  else
    (c 25 [T.st [T.i .i64 n0_0, T.sl l0_1]]).bind fun r277 =>
    (c 24 [T.st [T.i .i64 (asI (T.cell (nth r277 0) 0)), T.sl (asL (T.cell (nth r277 0) 1))]]).bind fun r278 =>
    (c 25 [T.st [T.i .i64 n0_0, T.sl l0_1]]).bind fun r279 =>
    (c 26 [T.st [T.i .i64 (asI (T.cell (nth r279 0) 0)), T.sl (asL (T.cell (nth r279 0) 1))]]).bind fun r280 =>
    (c 27 [T.sl (asL (nth r280 0)), T.sl (asL (nth r278 0))]).bind fun r281 =>
    bif !(asB (nth r281 0)) then
      some [T.b false]
    else
      (c 25 [T.st [T.i .i64 n0_0, T.sl l0_1]]).bind fun r282 =>
      (c 28 [T.st [T.i .i64 (asI (T.cell (nth r279 0) 0)), T.sl (asL (T.cell (nth r279 0) 1))], T.st [T.i .i64 (asI (T.cell (nth r282 0) 0)), T.sl (asL (T.cell (nth r282 0) 1))]]).bind fun r283 =>
      bif !(asB (nth r283 0)) then
        some [T.b false]
      else
        (c 29 [T.st [T.i .i64 (asI (T.cell (nth r279 0) 0)), T.sl (asL (T.cell (nth r279 0) 1))], T.i .i64 1]).bind fun r284 =>
        bif iLt (asI (nth r284 0)) 0 then
          some [T.b false]
        else
          (c 27 [T.sl (asL (nth r280 0)), T.sl (asL (nth r278 0))]).bind fun r285 =>
          bif !(asB (nth r285 0)) then
            some [T.b false]
          else
            (c 30 [T.sl (asL (nth r280 0)), T.i .i64 1]).bind fun r286 =>
            (c 31 [T.sl (asL (nth r286 1)), T.i .i64 1]).bind fun r287 =>
            bif iLt (asI (nth r287 0)) 0 then
              some [T.b false]
            else
              bif (asI (nth r287 0)) != (asI (nth r286 0)) then
                some [T.b false]
              else
                (c 25 [T.st [T.i .i64 n0_0, T.sl l0_1]]).bind fun r288 =>
                (c 26 [T.st [T.i .i64 (asI (T.cell (nth r288 0) 0)), T.sl (asL (T.cell (nth r288 0) 1))]]).bind fun r289 =>
                (c 27 [T.sl (asL (nth r289 0)), T.sl (asL (nth r278 0))]).bind fun r290 =>
                bif !(asB (nth r290 0)) then
                  some [T.b false]
                else
                  (c 31 [T.sl (asL (nth r286 1)), T.i .i64 1]).bind fun r291 =>
                  bif iLt (asI (nth r291 0)) 0 then
                    some [T.b false]
                  else
                    bif (asI (nth r291 0)) != (asI (nth r286 0)) then
                      some [T.b false]
                    else
                      some [T.b true]
def f4 (c : Orc) (lf : Nat) (n0_0 : Int) (l0_1 : List T) : Option (List T) := f4_t c lf n0_0 l0_1
theorem f4_raw (c : Orc) (lf : Nat) (n0_0 : Int) (l0_1 : List T) : funK c env lf 6 fi4 [.st [.i .i64 n0_0, .sl l0_1]] = f4_t c lf n0_0 l0_1 := by kernel_rfl
theorem f4_eq (c : Orc) (lf : Nat) (n0_0 : Int) (l0_1 : List T) : funK c env lf 6 fi4 [.st [.i .i64 n0_0, .sl l0_1]] = f4 c lf n0_0 l0_1 := by
  refine (f4_raw c lf n0_0 l0_1).trans ?_
  rfl
end Go.Proofs.Ytockabaoaneplaa.T
