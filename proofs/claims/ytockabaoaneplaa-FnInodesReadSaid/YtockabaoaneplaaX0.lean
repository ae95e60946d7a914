/- What functions of the law FnInodesRead come to, in trees; no condition. -/
import Derived.Test.YtockabaoaneplaaRows
import Derived.Test.YtockabaoaneplaaV4
import Derived.KernelRfl
set_option linter.unusedVariables false
set_option linter.constructorNameAsVariable false
set_option linter.unusedSimpArgs false
set_option linter.unnecessarySimpa false
namespace Go.Proofs.Ytockabaoaneplaa.T
open Go Go.Proofs.YtockabaoaneplaaV
def tyTab : List (Nat × Ti) := [
  (3, ⟨false, [.i .i64], .o⟩),
  (4, ⟨false, [.b], .o⟩),
  (5, ⟨false, [.i .u8], .o⟩),
  (9, ⟨false, [.s], .o⟩),
  (22, ⟨false, [.sl false [.i .u8]], .sl 5⟩),
  (50, ⟨false, [.sl true [.s, .i .i64]], .sl 61⟩),
  (51, ⟨false, [.sl true [.s, .s]], .sl 133⟩),
  (53, ⟨true, [.i .i64, .i .i64, .i .i64, .sl false [.i .u8], .sl true [.s, .i .i64], .sl true [.s, .s]], .st [(0, 3), (1, 3), (2, 3), (3, 22), (4, 50), (5, 51)]⟩),
  (61, ⟨true, [.s, .i .i64], .st [(0, 9), (1, 3)]⟩),
  (101, ⟨false, [.o], .o⟩),
  (107, ⟨false, [.sl false [.i .i64]], .sl 3⟩),
  (108, ⟨false, [.o], .o⟩),
  (110, ⟨true, [.sl false [.i .u8], .i .i64, .b], .st [(0, 22), (1, 3), (2, 4)]⟩),
  (113, ⟨false, [.o], .o⟩),
  (115, ⟨true, [.sl false [.i .u8], .i .i64, .b], .st [(0, 22), (1, 3), (2, 4)]⟩),
  (133, ⟨true, [.s, .s], .st [(0, 9), (1, 9)]⟩),
  (153, ⟨true, [.sl false [.i .u8], .i .i64, .i .i64], .st [(0, 22), (1, 3), (2, 3)]⟩),
  (159, ⟨false, [.i .u64], .o⟩),
  (164, ⟨false, [.sl false [.s]], .sl 9⟩)]
noncomputable def fi13 : Fi := ⟨Try.f13, [], false, [.ro (.sl false [.i .u8])], [.v (.b)]⟩
def x65_3_0 : List (Ex × List Nat × CSt) := [((.ex 0), [0, 3], ⟨[.ro 0 false [.i .u8] [], .i .i64 0], [.dead]⟩)]
noncomputable def fi65 : Fi := ⟨Try.f65, [⟨3, [0, 3, 4], [], [(⟨[.ro 0 false [.i .u8] [], .i .i64 0, .i .i64 0], [.dead]⟩, x65_3_0)]⟩], false, [.ro (.sl false [.i .u8])], [.bx [.ro (.sl false [.i .u8]), .v (.i .i64), .v (.i .i64)]]⟩
noncomputable def fi124 : Fi := ⟨Try.f124, [], false, [.bx [.ro (.sl false [.i .u8]), .v (.i .i64), .v (.i .i64)]], [.v (.i .i64)]⟩
noncomputable def fi70 : Fi := ⟨Try.f70, [], false, [.bx [.ro (.sl false [.i .u8]), .v (.i .i64), .v (.i .i64)], .v (.i .i64)], [.v (.i .i64)]⟩
noncomputable def fi71 : Fi := ⟨Try.f71, [], false, [.bx [.ro (.sl false [.i .u8]), .v (.i .i64), .v (.i .i64)], .ro (.sl false [.i .i64])], [.v (.i .i64)]⟩
def x143_3_0 : List (Ex × List Nat × CSt) := [((.ex 0), [5], ⟨[.rf 5 [] 0 none], [.box [.ro 1 false [.i .u8] [], .i .i64 0, .i .i64 0], .dead, .dead, .dead, .dead, .row false [.i .u8] [] 0 false]⟩)]
noncomputable def fi143 : Fi := ⟨Try.f143, [⟨3, [0, 1, 5, 6], [], [(⟨[.bp 0 0, .i .i64 0, .rf 5 [] 0 none, .i .i64 0], [.box [.ro 1 false [.i .u8] [], .i .i64 0, .i .i64 0], .dead, .dead, .dead, .dead, .row false [.i .u8] [] 0 false]⟩, x143_3_0)]⟩], false, [.bx [.ro (.sl false [.i .u8]), .v (.i .i64), .v (.i .i64)], .v (.i .i64)], [.ow (.sl false [.i .u8])]⟩
noncomputable def fi118 : Fi := ⟨Try.f118, [], false, [.bx [.ro (.sl false [.i .u8]), .v (.i .i64), .v (.i .i64)], .v (.i .i64)], [.v (.b)]⟩
noncomputable def fi131 : Fi := ⟨Try.f131, [], false, [.bx [.ro (.sl false [.i .u8]), .v (.i .i64), .v (.i .i64)], .ro (.sl false [.s])], [.v (.s)]⟩
def x117_7_0 : List (Ex × List Nat × CSt) := [((.ex 0), [0, 2, 3, 4], ⟨[.bp 0 0, .bp 4 0, .bp 8 0, .rf 12 [] 0 none], [.box [.ro 1 false [.i .u8] [], .i .i64 0, .i .i64 0], .dead, .dead, .dead, .box [.i .i64 0, .i .i64 0, .i .i64 0, .rf 5 [] 0 none, .rf 6 [] 0 none, .rf 7 [] 0 none], .row false [.i .u8] [] 0 false, .row true [.s, .i .i64] [] 0 false, .row true [.s, .s] [] 0 false, .box [.i .i64 0, .i .i64 0, .i .i64 0, .rf 9 [] 0 none, .rf 10 [] 0 none, .rf 11 [] 0 none], .row false [.i .u8] [] 0 false, .row true [.s, .i .i64] [] 0 false, .row true [.s, .s] [] 0 false, .row false [.s] [] 0 false]⟩)]
def x117_12_0 : List (Ex × List Nat × CSt) := [((.ex 2), [2, 3], ⟨[.bp 4 0, .bp 8 0], [.box [.ro 1 false [.i .u8] [], .i .i64 0, .i .i64 0], .dead, .dead, .dead, .box [.i .i64 0, .i .i64 0, .i .i64 0, .rf 5 [] 0 none, .rf 6 [] 0 none, .rf 7 [] 0 none], .row false [.i .u8] [] 0 false, .row true [.s, .i .i64] [] 0 false, .row true [.s, .s] [] 0 false, .box [.i .i64 0, .i .i64 0, .i .i64 0, .rf 9 [] 0 none, .rf 10 [] 0 none, .rf 11 [] 0 none], .row false [.i .u8] [] 0 false, .row true [.s, .i .i64] [] 0 false, .row true [.s, .s] [] 0 false]⟩)]
noncomputable def fi117 : Fi := ⟨Try.f117, [⟨7, [0, 2, 3, 4, 5], [], [(⟨[.bp 0 0, .bp 4 0, .bp 8 0, .rf 12 [] 0 none, .i .i64 0], [.box [.ro 1 false [.i .u8] [], .i .i64 0, .i .i64 0], .dead, .dead, .dead, .box [.i .i64 0, .i .i64 0, .i .i64 0, .rf 5 [] 0 none, .rf 6 [] 0 none, .rf 7 [] 0 none], .row false [.i .u8] [] 0 false, .row true [.s, .i .i64] [] 0 false, .row true [.s, .s] [] 0 false, .box [.i .i64 0, .i .i64 0, .i .i64 0, .rf 9 [] 0 none, .rf 10 [] 0 none, .rf 11 [] 0 none], .row false [.i .u8] [] 0 false, .row true [.s, .i .i64] [] 0 false, .row true [.s, .s] [] 0 false, .row false [.s] [] 0 false]⟩, x117_7_0)]⟩, ⟨12, [0, 2, 3, 4, 6], [], [(⟨[.bp 0 0, .bp 4 0, .bp 8 0, .rf 12 [] 0 none, .i .i64 0], [.box [.ro 1 false [.i .u8] [], .i .i64 0, .i .i64 0], .dead, .dead, .dead, .box [.i .i64 0, .i .i64 0, .i .i64 0, .rf 5 [] 0 none, .rf 6 [] 0 none, .rf 7 [] 0 none], .row false [.i .u8] [] 0 false, .row true [.s, .i .i64] [] 0 false, .row true [.s, .s] [] 0 false, .box [.i .i64 0, .i .i64 0, .i .i64 0, .rf 9 [] 0 none, .rf 10 [] 0 none, .rf 11 [] 0 none], .row false [.i .u8] [] 0 false, .row true [.s, .i .i64] [] 0 false, .row true [.s, .s] [] 0 false, .row false [.s] [] 0 false]⟩, x117_12_0)]⟩], false, [.bx [.ro (.sl false [.i .u8]), .v (.i .i64), .v (.i .i64)]], [.ag [.v (.i .i64), .v (.i .i64), .v (.i .i64), .ow (.sl false [.i .u8]), .ow (.sl true [.s, .i .i64]), .ow (.sl true [.s, .s])]]⟩
noncomputable def fi77 : Fi := ⟨Try.f77, [], false, [.v (.i .i64), .v (.i .i64), .v (.i .i64)], [.v (.b)]⟩
def x109_2_0 : List (Ex × List Nat × CSt) := [(.ret, [2], ⟨[.b false], [.dead]⟩), ((.ex 0), [0], ⟨[.s (⟨#[]⟩ : ByteArray)], [.dead]⟩)]
noncomputable def fi109 : Fi := ⟨Try.f109, [⟨2, [0, 3], [], [(⟨[.s (⟨#[]⟩ : ByteArray), .i .i64 0], [.dead]⟩, x109_2_0)]⟩], false, [.v (.s)], [.v (.b)]⟩
def x87_2_0 : List (Ex × List Nat × CSt) := [(.ret, [2], ⟨[.b false], [.dead]⟩), ((.ex 0), [0], ⟨[.ro 0 true [.s, .i .i64] []], [.dead]⟩)]
noncomputable def fi87 : Fi := ⟨Try.f87, [⟨2, [0, 3], [], [(⟨[.ro 0 true [.s, .i .i64] [], .i .i64 0], [.dead]⟩, x87_2_0)]⟩], false, [.ro (.sl true [.s, .i .i64])], [.v (.b)]⟩
def x88_2_0 : List (Ex × List Nat × CSt) := [(.ret, [2], ⟨[.b false], [.dead]⟩), ((.ex 0), [0], ⟨[.ro 0 true [.s, .s] []], [.dead]⟩)]
noncomputable def fi88 : Fi := ⟨Try.f88, [⟨2, [0, 3], [], [(⟨[.ro 0 true [.s, .s] [], .i .i64 0], [.dead]⟩, x88_2_0)]⟩], false, [.ro (.sl true [.s, .s])], [.v (.b)]⟩
noncomputable def fi34 : Fi := ⟨Try.f34, [], false, [.ag [.v (.i .i64), .v (.i .i64), .v (.i .i64), .ro (.sl false [.i .u8]), .ro (.sl true [.s, .i .i64]), .ro (.sl true [.s, .s])]], [.v (.b)]⟩
def x79_6_0 : List (Ex × List Nat × CSt) := [((.ex 0), [1, 5], ⟨[.i .i64 0, .rf 2 [] 0 none], [.dead, .dead, .row false [.i .u8] [] 0 false]⟩)]
noncomputable def fi79 : Fi := ⟨Try.f79, [⟨6, [1, 5], [], [(⟨[.i .i64 0, .rf 2 [] 0 none], [.dead, .dead, .row false [.i .u8] [] 0 false]⟩, x79_6_0)]⟩], false, [.ro (.sl false [.i .u8]), .v (.i .i64)], [.ow (.sl false [.i .u8])]⟩
noncomputable def fi80 : Fi := ⟨Try.f80, [], false, [.ro (.sl false [.i .u8]), .v (.s)], [.ow (.sl false [.i .u8])]⟩
def x116_6_0 : List (Ex × List Nat × CSt) := [((.ex 0), [1, 3], ⟨[.bp 6 0, .rf 7 [] 0 none], [.dead, .dead, .dead, .dead, .dead, .dead, .box [.i .i64 0, .i .i64 0, .i .i64 0, .ro 0 false [.i .u8] [], .ro 0 true [.s, .i .i64] [], .ro 0 true [.s, .s] []], .row false [.i .u8] [] 0 false]⟩)]
def x116_11_0 : List (Ex × List Nat × CSt) := [((.ex 2), [3], ⟨[.rf 6 [] 0 none], [.dead, .dead, .dead, .dead, .dead, .dead, .row false [.i .u8] [] 0 false]⟩)]
noncomputable def fi116 : Fi := ⟨Try.f116, [⟨6, [1, 3, 4], [], [(⟨[.bp 6 0, .rf 7 [] 0 none, .i .i64 0], [.dead, .dead, .dead, .dead, .dead, .dead, .box [.i .i64 0, .i .i64 0, .i .i64 0, .ro 0 false [.i .u8] [], .ro 0 true [.s, .i .i64] [], .ro 0 true [.s, .s] []], .row false [.i .u8] [] 0 false]⟩, x116_6_0)]⟩, ⟨11, [1, 3, 5], [], [(⟨[.bp 6 0, .rf 7 [] 0 none, .i .i64 0], [.dead, .dead, .dead, .dead, .dead, .dead, .box [.i .i64 0, .i .i64 0, .i .i64 0, .ro 0 false [.i .u8] [], .ro 0 true [.s, .i .i64] [], .ro 0 true [.s, .s] []], .row false [.i .u8] [] 0 false]⟩, x116_11_0)]⟩], false, [.ag [.v (.i .i64), .v (.i .i64), .v (.i .i64), .ro (.sl false [.i .u8]), .ro (.sl true [.s, .i .i64]), .ro (.sl true [.s, .s])]], [.ow (.sl false [.i .u8])]⟩
noncomputable def fi58 : Fi := ⟨Try.f58, [], false, [.ro (.sl false [.i .u8])], [.ow (.sl false [.i .u8])]⟩
def x125_6_0 : List (Ex × List Nat × CSt) := [((.ex 0), [], ⟨[], [.dead, .dead]⟩), (.ret, [4, 5, 6], ⟨[.i .i64 0, .i .i64 0, .b false], [.dead, .dead]⟩)]
noncomputable def fi125 : Fi := ⟨Try.f125, [⟨6, [0, 1, 7, 8, 9], [], [(⟨[.ro 0 false [.i .u8] [], .i .i64 0, .i .i64 0, .i .i64 0, .i .i64 0], [.dead, .dead]⟩, x125_6_0)]⟩], false, [.ro (.sl false [.i .u8]), .v (.i .i64)], [.v (.i .i64), .v (.i .i64), .v (.b)]⟩
noncomputable def fi72 : Fi := ⟨Try.f72, [], false, [.bx [.ro (.sl false [.i .u8]), .v (.i .i64), .v (.b)]], [.v (.i .i64)]⟩
noncomputable def fi132 : Fi := ⟨Try.f132, [], false, [.ro (.sl false [.i .u8]), .v (.i .i64)], [.v (.s), .v (.i .i64), .v (.b)]⟩
noncomputable def fi91 : Fi := ⟨Try.f91, [], false, [.bx [.ro (.sl false [.i .u8]), .v (.i .i64), .v (.b)]], [.v (.s)]⟩
noncomputable def fi73 : Fi := ⟨Try.f73, [], false, [.bx [.ro (.sl false [.i .u8]), .v (.i .i64), .v (.b)]], [.v (.i .i64)]⟩
def x92_3_0 : List (Ex × List Nat × CSt) := [((.ex 0), [3], ⟨[.rf 4 [] 0 none], [.box [.ro 1 false [.i .u8] [], .i .i64 0, .b false], .dead, .dead, .dead, .row true [.s, .s] [] 0 false]⟩)]
noncomputable def fi92 : Fi := ⟨Try.f92, [⟨3, [0, 3, 8, 9], [], [(⟨[.bp 0 0, .rf 4 [] 0 none, .i .i64 0, .i .i64 0], [.box [.ro 1 false [.i .u8] [], .i .i64 0, .b false], .dead, .dead, .dead, .row true [.s, .s] [] 0 false]⟩, x92_3_0)]⟩], false, [.bx [.ro (.sl false [.i .u8]), .v (.i .i64), .v (.b)]], [.ow (.sl true [.s, .s])]⟩
noncomputable def fi74 : Fi := ⟨Try.f74, [], false, [.bx [.ro (.sl false [.i .u8]), .v (.i .i64), .v (.b)]], [.v (.b)]⟩
noncomputable def fi76 : Fi := ⟨Try.f76, [], false, [.v (.i .i64), .v (.i .i64), .v (.i .i64)], [.v (.b)]⟩
def x90_2_0 : List (Ex × List Nat × CSt) := [(.ret, [2], ⟨[.b false], [.dead]⟩), ((.ex 0), [0], ⟨[.s (⟨#[]⟩ : ByteArray)], [.dead]⟩)]
noncomputable def fi90 : Fi := ⟨Try.f90, [⟨2, [0, 6, 7], [], [(⟨[.s (⟨#[]⟩ : ByteArray), .i .i64 0, .i .i64 0], [.dead]⟩, x90_2_0)]⟩], false, [.v (.s)], [.v (.b)]⟩
def x89_2_0 : List (Ex × List Nat × CSt) := [(.ret, [2], ⟨[.b false], [.dead]⟩), ((.ex 0), [0], ⟨[.ro 0 true [.s, .s] []], [.dead]⟩)]
noncomputable def fi89 : Fi := ⟨Try.f89, [⟨2, [0, 5, 6, 7], [], [(⟨[.ro 0 true [.s, .s] [], .ro 0 true [.s, .s] [], .i .i64 0, .i .i64 0], [.dead]⟩, x89_2_0)]⟩], false, [.ro (.sl true [.s, .s])], [.v (.b)]⟩
def x35_4_0 : List (Ex × List Nat × CSt) := [(.ret, [2], ⟨[.b false], [.dead, .dead, .dead, .dead, .dead, .dead]⟩), ((.ex 0), [1], ⟨[.bp 6 0], [.dead, .dead, .dead, .dead, .dead, .dead, .box [.i .i64 0, .i .i64 0, .i .i64 0, .ro 0 false [.i .u8] [], .ro 0 true [.s, .i .i64] [], .ro 0 true [.s, .s] []]]⟩)]
noncomputable def fi35 : Fi := ⟨Try.f35, [⟨4, [1, 28, 29, 30], [], [(⟨[.bp 6 0, .ro 0 true [.s, .i .i64] [], .i .i64 0, .i .i64 0], [.dead, .dead, .dead, .dead, .dead, .dead, .box [.i .i64 0, .i .i64 0, .i .i64 0, .ro 0 false [.i .u8] [], .ro 0 true [.s, .i .i64] [], .ro 0 true [.s, .s] []]]⟩, x35_4_0)]⟩], false, [.ag [.v (.i .i64), .v (.i .i64), .v (.i .i64), .ro (.sl false [.i .u8]), .ro (.sl true [.s, .i .i64]), .ro (.sl true [.s, .s])]], [.v (.b)]⟩
def x36_8_0 : List (Ex × List Nat × CSt) := [((.ex 0), [2, 4, 5], ⟨[.bp 1 0, .bp 5 0, .bp 6 0], [.dead, .box [.i .i64 0, .i .i64 0, .i .i64 0, .rf 2 [] 0 none, .rf 3 [] 0 none, .rf 4 [] 0 none], .row false [.i .u8] [] 0 false, .row true [.s, .i .i64] [] 0 false, .row true [.s, .s] [] 0 false, .box [.ro 0 false [.i .u8] [], .i .i64 0, .b false], .box [.i .i64 0, .i .i64 0, .i .i64 0, .rf 7 [] 0 none, .rf 8 [] 0 none, .rf 9 [] 0 none], .row false [.i .u8] [] 0 false, .row true [.s, .i .i64] [] 0 false, .row true [.s, .s] [] 0 false]⟩)]
noncomputable def fi36 : Fi := ⟨Try.f36, [⟨8, [2, 4, 5, 26, 27], [], [(⟨[.bp 1 0, .bp 5 0, .bp 6 0, .i .i64 0, .i .i64 0], [.dead, .box [.i .i64 0, .i .i64 0, .i .i64 0, .rf 2 [] 0 none, .rf 3 [] 0 none, .rf 4 [] 0 none], .row false [.i .u8] [] 0 false, .row true [.s, .i .i64] [] 0 false, .row true [.s, .s] [] 0 false, .box [.ro 0 false [.i .u8] [], .i .i64 0, .b false], .box [.i .i64 0, .i .i64 0, .i .i64 0, .rf 7 [] 0 none, .rf 8 [] 0 none, .rf 9 [] 0 none], .row false [.i .u8] [] 0 false, .row true [.s, .i .i64] [] 0 false, .row true [.s, .s] [] 0 false]⟩, x36_8_0)]⟩], false, [.ro (.sl false [.i .u8])], [.ag [.v (.i .i64), .v (.i .i64), .v (.i .i64), .ow (.sl false [.i .u8]), .ow (.sl true [.s, .i .i64]), .ow (.sl true [.s, .s])], .v (.b)]⟩
def x126_3_0 : List (Ex × List Nat × CSt) := [(.ret, [4, 5, 6], ⟨[.i .i64 0, .i .i64 0, .b false], [.dead, .dead]⟩), ((.ex 0), [], ⟨[], [.dead, .dead]⟩)]
noncomputable def fi126 : Fi := ⟨Try.f126, [⟨3, [0, 1, 7, 8], [], [(⟨[.ro 0 false [.i .u8] [], .i .i64 0, .i .i64 0, .i .i64 0], [.dead, .dead]⟩, x126_3_0)]⟩], false, [.ro (.sl false [.i .u8]), .v (.i .i64)], [.v (.i .i64), .v (.i .i64), .v (.b)]⟩
noncomputable def fi75 : Fi := ⟨Try.f75, [], false, [.bx [.ro (.sl false [.i .u8]), .v (.i .i64), .v (.b)]], [.v (.i .i64)]⟩
noncomputable def fi139 : Fi := ⟨Try.f139, [], false, [.ro (.sl false [.i .u8]), .v (.i .i64)], [.v (.s), .v (.i .i64), .v (.b)]⟩
noncomputable def fi101 : Fi := ⟨Try.f101, [], false, [.bx [.ro (.sl false [.i .u8]), .v (.i .i64), .v (.b)]], [.v (.s)]⟩
def x54_8_0 : List (Ex × List Nat × CSt) := [((.ex 0), [0, 2, 4, 5, 6], ⟨[.ro 0 false [.i .u8] [], .bp 1 0, .bp 5 0, .bp 6 0, .i .i64 0], [.dead, .box [.i .i64 0, .i .i64 0, .i .i64 0, .rf 2 [] 0 none, .rf 3 [] 0 none, .rf 4 [] 0 none], .row false [.i .u8] [] 0 false, .row true [.s, .i .i64] [] 0 false, .row true [.s, .s] [] 0 false, .box [.ro 0 false [.i .u8] [], .i .i64 0, .b false], .box [.i .i64 0, .i .i64 0, .i .i64 0, .rf 7 [] 0 none, .rf 8 [] 0 none, .rf 9 [] 0 none], .row false [.i .u8] [] 0 false, .row true [.s, .i .i64] [] 0 false, .row true [.s, .s] [] 0 false]⟩)]
def x54_15_0 : List (Ex × List Nat × CSt) := [((.ex 2), [0, 2, 4, 5, 6, 9], ⟨[.ro 0 false [.i .u8] [], .bp 1 0, .bp 5 0, .bp 6 0, .i .i64 0, .i .i64 0], [.dead, .box [.i .i64 0, .i .i64 0, .i .i64 0, .rf 2 [] 0 none, .rf 3 [] 0 none, .rf 4 [] 0 none], .row false [.i .u8] [] 0 false, .row true [.s, .i .i64] [] 0 false, .row true [.s, .s] [] 0 false, .box [.ro 0 false [.i .u8] [], .i .i64 0, .b false], .box [.i .i64 0, .i .i64 0, .i .i64 0, .rf 7 [] 0 none, .rf 8 [] 0 none, .rf 9 [] 0 none], .row false [.i .u8] [] 0 false, .row true [.s, .i .i64] [] 0 false, .row true [.s, .s] [] 0 false]⟩)]
noncomputable def fi54 : Fi := ⟨Try.f54, [⟨8, [0, 2, 4, 5, 6, 7], [], [(⟨[.ro 0 false [.i .u8] [], .bp 1 0, .bp 5 0, .bp 6 0, .i .i64 0, .i .i64 0], [.dead, .box [.i .i64 0, .i .i64 0, .i .i64 0, .rf 2 [] 0 none, .rf 3 [] 0 none, .rf 4 [] 0 none], .row false [.i .u8] [] 0 false, .row true [.s, .i .i64] [] 0 false, .row true [.s, .s] [] 0 false, .box [.ro 0 false [.i .u8] [], .i .i64 0, .b false], .box [.i .i64 0, .i .i64 0, .i .i64 0, .rf 7 [] 0 none, .rf 8 [] 0 none, .rf 9 [] 0 none], .row false [.i .u8] [] 0 false, .row true [.s, .i .i64] [] 0 false, .row true [.s, .s] [] 0 false]⟩, x54_8_0)]⟩, ⟨15, [0, 2, 4, 5, 6, 9, 10], [], [(⟨[.ro 0 false [.i .u8] [], .bp 1 0, .bp 5 0, .bp 6 0, .i .i64 0, .i .i64 0, .i .i64 0], [.dead, .box [.i .i64 0, .i .i64 0, .i .i64 0, .rf 2 [] 0 none, .rf 3 [] 0 none, .rf 4 [] 0 none], .row false [.i .u8] [] 0 false, .row true [.s, .i .i64] [] 0 false, .row true [.s, .s] [] 0 false, .box [.ro 0 false [.i .u8] [], .i .i64 0, .b false], .box [.i .i64 0, .i .i64 0, .i .i64 0, .rf 7 [] 0 none, .rf 8 [] 0 none, .rf 9 [] 0 none], .row false [.i .u8] [] 0 false, .row true [.s, .i .i64] [] 0 false, .row true [.s, .s] [] 0 false]⟩, x54_15_0)]⟩], false, [.ro (.sl false [.i .u8])], [.ag [.v (.i .i64), .v (.i .i64), .v (.i .i64), .ow (.sl false [.i .u8]), .ow (.sl true [.s, .i .i64]), .ow (.sl true [.s, .s])], .v (.b)]⟩
noncomputable def fi85 : Fi := ⟨Try.f85, [], false, [.bx [.ro (.sl false [.i .u8]), .v (.i .i64), .v (.i .i64)]], [.ag [.v (.i .i64), .v (.i .i64), .v (.i .i64), .ow (.sl false [.i .u8]), .ow (.sl true [.s, .i .i64]), .ow (.sl true [.s, .s])]]⟩
noncomputable def fi119 : Fi := ⟨Try.f119, [], false, [.ag [.v (.i .i64), .v (.i .i64), .v (.i .i64), .ro (.sl false [.i .u8]), .ro (.sl true [.s, .i .i64]), .ro (.sl true [.s, .s])]], [.ag [.v (.i .i64), .v (.i .i64), .v (.i .i64), .ow (.sl false [.i .u8]), .ow (.sl true [.s, .i .i64]), .ow (.sl true [.s, .s])]]⟩
noncomputable def fi59 : Fi := ⟨Try.f59, [], false, [.ro (.sl false [.i .u8])], [.ag [.v (.i .i64), .v (.i .i64), .v (.i .i64), .ow (.sl false [.i .u8]), .ow (.sl true [.s, .i .i64]), .ow (.sl true [.s, .s])], .ag [.v (.i .i64), .v (.i .i64), .v (.i .i64), .ow (.sl false [.i .u8]), .ow (.sl true [.s, .i .i64]), .ow (.sl true [.s, .s])]]⟩
noncomputable def fi123 : Fi := ⟨Try.f123, [], false, [.ro (.sl false [.i .u8])], [.ow (.sl false [.i .u8])]⟩
def x67_3_0 : List (Ex × List Nat × CSt) := [((.ex 0), [1, 5], ⟨[.i .i64 0, .rf 2 [] 0 none], [.dead, .dead, .row false [.i .u8] [] 0 false]⟩)]
noncomputable def fi67 : Fi := ⟨Try.f67, [⟨3, [1, 5], [], [(⟨[.i .i64 0, .rf 2 [] 0 none], [.dead, .dead, .row false [.i .u8] [] 0 false]⟩, x67_3_0)]⟩], false, [.ro (.sl false [.i .u8]), .v (.i .i64)], [.ow (.sl false [.i .u8])]⟩
noncomputable def fi82 : Fi := ⟨Try.f82, [], false, [.ro (.sl false [.i .u8]), .v (.s)], [.ow (.sl false [.i .u8])]⟩
def x86_3_0 : List (Ex × List Nat × CSt) := [((.ex 0), [0], ⟨[.rf 2 [] 0 none], [.dead, .dead, .row false [.i .u8] [] 0 false]⟩)]
noncomputable def fi86 : Fi := ⟨Try.f86, [⟨3, [0, 11, 12, 13], [], [(⟨[.rf 2 [] 0 none, .ro 0 true [.s, .s] [], .i .i64 0, .i .i64 0], [.dead, .dead, .row false [.i .u8] [] 0 false]⟩, x86_3_0)]⟩], false, [.ro (.sl false [.i .u8]), .ro (.sl true [.s, .s])], [.ow (.sl false [.i .u8])]⟩
def x33_6_0 : List (Ex × List Nat × CSt) := [((.ex 0), [1, 3], ⟨[.bp 6 0, .rf 7 [] 0 none], [.dead, .dead, .dead, .dead, .dead, .dead, .box [.i .i64 0, .i .i64 0, .i .i64 0, .ro 0 false [.i .u8] [], .ro 0 true [.s, .i .i64] [], .ro 0 true [.s, .s] []], .row false [.i .u8] [] 0 false]⟩)]
noncomputable def fi33 : Fi := ⟨Try.f33, [⟨6, [1, 3, 28, 29, 30], [], [(⟨[.bp 6 0, .rf 7 [] 0 none, .ro 0 true [.s, .i .i64] [], .i .i64 0, .i .i64 0], [.dead, .dead, .dead, .dead, .dead, .dead, .box [.i .i64 0, .i .i64 0, .i .i64 0, .ro 0 false [.i .u8] [], .ro 0 true [.s, .i .i64] [], .ro 0 true [.s, .s] []], .row false [.i .u8] [] 0 false]⟩, x33_6_0)]⟩], false, [.ag [.v (.i .i64), .v (.i .i64), .v (.i .i64), .ro (.sl false [.i .u8]), .ro (.sl true [.s, .i .i64]), .ro (.sl true [.s, .s])]], [.ow (.sl false [.i .u8])]⟩
def x20_4_0 : List (Ex × List Nat × CSt) := [(.ret, [4], ⟨[.b false], [.dead, .dead]⟩), ((.ex 0), [], ⟨[], [.dead, .dead]⟩)]
noncomputable def fi20 : Fi := ⟨Try.f20, [⟨4, [0, 1, 5], [], [(⟨[.ro 0 false [.i .u8] [], .ro 0 false [.i .u8] [], .i .i64 0], [.dead, .dead]⟩, x20_4_0)]⟩], false, [.ro (.sl false [.i .u8]), .ro (.sl false [.i .u8])], [.v (.b)]⟩
def x93_4_0 : List (Ex × List Nat × CSt) := [(.ret, [4], ⟨[.b false], [.dead, .dead]⟩), ((.ex 0), [], ⟨[], [.dead, .dead]⟩)]
noncomputable def fi93 : Fi := ⟨Try.f93, [⟨4, [0, 1, 12, 13], [], [(⟨[.ro 0 false [.i .u8] [], .ro 0 false [.i .u8] [], .i .i64 0, .i .i64 0], [.dead, .dead]⟩, x93_4_0)]⟩], false, [.ro (.sl false [.i .u8]), .ro (.sl false [.i .u8])], [.v (.b)]⟩
def x94_4_0 : List (Ex × List Nat × CSt) := [(.ret, [4], ⟨[.b false], [.dead, .dead]⟩), ((.ex 0), [], ⟨[], [.dead, .dead]⟩)]
noncomputable def fi94 : Fi := ⟨Try.f94, [⟨4, [0, 1, 12, 13], [], [(⟨[.ro 0 true [.s, .i .i64] [], .ro 0 true [.s, .i .i64] [], .i .i64 0, .i .i64 0], [.dead, .dead]⟩, x94_4_0)]⟩], false, [.ro (.sl true [.s, .i .i64]), .ro (.sl true [.s, .i .i64])], [.v (.b)]⟩
def x95_4_0 : List (Ex × List Nat × CSt) := [(.ret, [4], ⟨[.b false], [.dead, .dead]⟩), ((.ex 0), [], ⟨[], [.dead, .dead]⟩)]
noncomputable def fi95 : Fi := ⟨Try.f95, [⟨4, [0, 1, 12, 13], [], [(⟨[.ro 0 true [.s, .s] [], .ro 0 true [.s, .s] [], .i .i64 0, .i .i64 0], [.dead, .dead]⟩, x95_4_0)]⟩], false, [.ro (.sl true [.s, .s]), .ro (.sl true [.s, .s])], [.v (.b)]⟩
noncomputable def fi38 : Fi := ⟨Try.f38, [], false, [.ag [.v (.i .i64), .v (.i .i64), .v (.i .i64), .ro (.sl false [.i .u8]), .ro (.sl true [.s, .i .i64]), .ro (.sl true [.s, .s])], .ag [.v (.i .i64), .v (.i .i64), .v (.i .i64), .ro (.sl false [.i .u8]), .ro (.sl true [.s, .i .i64]), .ro (.sl true [.s, .s])]], [.v (.b)]⟩
def x120_4_0 : List (Ex × List Nat × CSt) := [(.ret, [4], ⟨[.b false], [.dead, .dead]⟩), ((.ex 0), [], ⟨[], [.dead, .dead]⟩)]
noncomputable def fi120 : Fi := ⟨Try.f120, [⟨4, [0, 1, 5], [], [(⟨[.ro 0 false [.i .u8] [], .ro 0 false [.i .u8] [], .i .i64 0], [.dead, .dead]⟩, x120_4_0)]⟩], false, [.ro (.sl false [.i .u8]), .ro (.sl false [.i .u8])], [.v (.b)]⟩
def x60_4_0 : List (Ex × List Nat × CSt) := [(.ret, [4], ⟨[.b false], [.dead, .dead, .dead, .dead, .dead, .dead, .dead, .dead, .dead, .dead, .dead, .dead]⟩), ((.ex 0), [2, 3], ⟨[.bp 12 0, .bp 13 0], [.dead, .dead, .dead, .dead, .dead, .dead, .dead, .dead, .dead, .dead, .dead, .dead, .box [.i .i64 0, .i .i64 0, .i .i64 0, .ro 0 false [.i .u8] [], .ro 0 true [.s, .i .i64] [], .ro 0 true [.s, .s] []], .box [.i .i64 0, .i .i64 0, .i .i64 0, .ro 0 false [.i .u8] [], .ro 0 true [.s, .i .i64] [], .ro 0 true [.s, .s] []]]⟩)]
def x60_9_0 : List (Ex × List Nat × CSt) := [(.ret, [4], ⟨[.b false], [.dead, .dead, .dead, .dead, .dead, .dead, .dead, .dead, .dead, .dead, .dead, .dead]⟩), ((.ex 2), [], ⟨[], [.dead, .dead, .dead, .dead, .dead, .dead, .dead, .dead, .dead, .dead, .dead, .dead]⟩)]
noncomputable def fi60 : Fi := ⟨Try.f60, [⟨4, [2, 3, 5], [], [(⟨[.bp 12 0, .bp 13 0, .i .i64 0], [.dead, .dead, .dead, .dead, .dead, .dead, .dead, .dead, .dead, .dead, .dead, .dead, .box [.i .i64 0, .i .i64 0, .i .i64 0, .ro 0 false [.i .u8] [], .ro 0 true [.s, .i .i64] [], .ro 0 true [.s, .s] []], .box [.i .i64 0, .i .i64 0, .i .i64 0, .ro 0 false [.i .u8] [], .ro 0 true [.s, .i .i64] [], .ro 0 true [.s, .s] []]]⟩, x60_4_0)]⟩, ⟨9, [2, 3, 6], [], [(⟨[.bp 12 0, .bp 13 0, .i .i64 0], [.dead, .dead, .dead, .dead, .dead, .dead, .dead, .dead, .dead, .dead, .dead, .dead, .box [.i .i64 0, .i .i64 0, .i .i64 0, .ro 0 false [.i .u8] [], .ro 0 true [.s, .i .i64] [], .ro 0 true [.s, .s] []], .box [.i .i64 0, .i .i64 0, .i .i64 0, .ro 0 false [.i .u8] [], .ro 0 true [.s, .i .i64] [], .ro 0 true [.s, .s] []]]⟩, x60_9_0)]⟩], false, [.ag [.v (.i .i64), .v (.i .i64), .v (.i .i64), .ro (.sl false [.i .u8]), .ro (.sl true [.s, .i .i64]), .ro (.sl true [.s, .s])], .ag [.v (.i .i64), .v (.i .i64), .v (.i .i64), .ro (.sl false [.i .u8]), .ro (.sl true [.s, .i .i64]), .ro (.sl true [.s, .s])]], [.v (.b)]⟩
noncomputable def fi11 : Fi := ⟨Try.f11, [], false, [.ro (.sl false [.i .u8])], [.v (.b)]⟩
noncomputable def fiTab : List (Nat × Fi) := [(13, fi13), (65, fi65), (124, fi124), (70, fi70), (71, fi71), (143, fi143), (118, fi118), (131, fi131), (117, fi117), (77, fi77), (109, fi109), (87, fi87), (88, fi88), (34, fi34), (79, fi79), (80, fi80), (116, fi116), (58, fi58), (125, fi125), (72, fi72), (132, fi132), (91, fi91), (73, fi73), (92, fi92), (74, fi74), (76, fi76), (90, fi90), (89, fi89), (35, fi35), (36, fi36), (126, fi126), (75, fi75), (139, fi139), (101, fi101), (54, fi54), (85, fi85), (119, fi119), (59, fi59), (123, fi123), (67, fi67), (82, fi82), (86, fi86), (33, fi33), (20, fi20), (93, fi93), (94, fi94), (95, fi95), (38, fi38), (120, fi120), (60, fi60), (11, fi11)]
-- EXT 123 clone 22 5
def X : Nat → Option (List T → Option (List T)) := lookN [(123, cloneF)]
noncomputable def env : Env := ⟨lookN fiTab, lookN tyTab⟩
-- FUNCTIONS
/-- loop.example/g00285/laws.big -/
def f13_t (c : Orc) (lf : Nat) (l0 : List T) : Option (List T) :=
  some [T.b (iLt 1048576 (l0.length : Int))]
def f13 (c : Orc) (lf : Nat) (l0 : List T) : Option (List T) := f13_t c lf l0
theorem f13_raw (c : Orc) (lf : Nat) (l0 : List T) : funK c env lf 6 fi13 [.sl l0] = f13_t c lf l0 := by kernel_rfl
theorem f13_eq (c : Orc) (lf : Nat) (l0 : List T) : funK c env lf 6 fi13 [.sl l0] = f13 c lf l0 := by
  refine (f13_raw c lf l0).trans ?_
  rfl
/-- loop.example/g00285/spec.l1New, the loop at region 3. -/
def f65_0_s (c : Orc) (lf : Nat) (l0 : List T) (L : Int → Int → Option (List T)) (x7 : Int) (x8 : Int) : Option (List T) :=
  bif iLt x8 (l0.length : Int) then
    bif iLt x8 4000 then
      bif inR x8 l0.length then
      L (intBits .and .i64 (IntKind.wrap .i64 ((IntKind.wrap .i64 ((IntKind.wrap .i64 (x7 * 137)) + (IntKind.wrap .i64 (asI (l0.getD x8.toNat T.u))))) + 11)) 1073741823) (IntKind.wrap .i64 (x8 + 1))
      else none
    else
      some [T.i .i64 0, T.sl l0, T.i .i64 x7]
  else
    some [T.i .i64 0, T.sl l0, T.i .i64 x7]
def f65_0_c (l0 : List T) (x7 : Int) (x8 : Int) : CSt := ⟨[.ro 0 false [.i .u8] l0, .i .i64 x7, .i .i64 x8], [.dead]⟩
theorem f65_0_round (c : Orc) (lf : Nat) (l0 : List T) (L : CSt → Option (List T)) (x7 : Int) (x8 : Int) :
    roundK c env lf 6 fi65 1 3 [] [0, 3, 4] (x65_3_0) L (f65_0_c l0 x7 x8) = f65_0_s c lf l0 (fun x7 x8 => L (f65_0_c l0 x7 x8)) x7 x8 := by kernel_rfl
def f65_0 (c : Orc) (lf : Nat) (l0 : List T) : Nat → Int → Int → Option (List T)
  | 0 => fun _ _ => none
  | n + 1 => fun x7 x8 => f65_0_s c lf l0 (f65_0 c lf l0 n) x7 x8
theorem f65_0_u (c : Orc) (lf : Nat) (l0 : List T) (n : Nat) (x7 : Int) (x8 : Int) : f65_0 c lf l0 (n + 1) x7 x8 = f65_0_s c lf l0 (f65_0 c lf l0 n) x7 x8 := rfl
theorem f65_0_eq (c : Orc) (lf : Nat) (l0 : List T) (n : Nat) (x7 : Int) (x8 : Int) :
    lpK c env lf 6 fi65 1 3 [] [0, 3, 4] (x65_3_0) n (f65_0_c l0 x7 x8) = f65_0 c lf l0 n x7 x8 := by
  induction n generalizing x7 x8 with
  | zero => rfl
  | succ n ih =>
    refine (f65_0_round c lf l0 _ x7 x8).trans ?_
    have e : (fun x7 x8 => lpK c env lf 6 fi65 1 3 [] [0, 3, 4] (x65_3_0) n (f65_0_c l0 x7 x8)) = f65_0 c lf l0 n := by funext x7 x8; exact ih x7 x8
    show f65_0_s c lf l0 (fun x7 x8 => lpK c env lf 6 fi65 1 3 [] [0, 3, 4] (x65_3_0) n (f65_0_c l0 x7 x8)) x7 x8 = _
    rw [e]; rfl
/-- loop.example/g00285/spec.l1New -/
def f65_t (c : Orc) (lf : Nat) (lp0 : List T → Int → Int → Option (List T)) (l0 : List T) : Option (List T) :=
  (lp0 l0 (IntKind.wrap .i64 (351351 + (l0.length : Int))) 0).bind fun r9 =>
  some [T.st [T.sl (asL (nth r9 1)), T.i .i64 0, T.i .i64 (asI (nth r9 2))]]
def f65 (c : Orc) (lf : Nat) (l0 : List T) : Option (List T) := f65_t c lf (fun (l0 : List T) (x7 : Int) (x8 : Int) => f65_0 c lf l0 lf x7 x8) l0
theorem f65_raw (c : Orc) (lf : Nat) (l0 : List T) : funK c env lf 6 fi65 [.sl l0] = f65_t c lf (fun (l0 : List T) (x7 : Int) (x8 : Int) => lpK c env lf 6 fi65 1 3 [] [0, 3, 4] (x65_3_0) lf (f65_0_c l0 x7 x8)) l0 := by kernel_rfl
theorem f65_eq (c : Orc) (lf : Nat) (l0 : List T) : funK c env lf 6 fi65 [.sl l0] = f65 c lf l0 := by
  refine (f65_raw c lf l0).trans ?_
  have e0 : (fun (l0 : List T) (x7 : Int) (x8 : Int) => lpK c env lf 6 fi65 1 3 [] [0, 3, 4] (x65_3_0) lf (f65_0_c l0 x7 x8)) = (fun (l0 : List T) (x7 : Int) (x8 : Int) => f65_0 c lf l0 lf x7 x8) := by funext l0 x7 x8; exact f65_0_eq c lf l0 lf x7 x8
  rw [e0]; rfl
/-- loop.example/g00285/spec.l1Byte -/
def f124_t (c : Orc) (lf : Nat) (l0_0 : List T) (n0_1 : Int) (n0_2 : Int) : Option (List T) :=
  bif iLt n0_1 (l0_0.length : Int) then
    bif inR n0_1 l0_0.length then
    some [T.i .i64 (intBits .and .i64 (IntKind.wrap .i64 ((intBits .and .i64 (intBits .xor .i64 (shiftI .shr .i64 (IntKind.wrap .i64 ((IntKind.wrap .i64 (n0_2 * 6364136223846793005)) + 1442695040888963407)) 33) (shiftI .shr .i64 (IntKind.wrap .i64 ((IntKind.wrap .i64 (n0_2 * 6364136223846793005)) + 1442695040888963407)) 47)) 255) + (IntKind.wrap .i64 (asI (l0_0.getD n0_1.toNat T.u))))) 255), T.st [T.sl l0_0, T.i .i64 (IntKind.wrap .i64 (n0_1 + 1)), T.i .i64 (IntKind.wrap .i64 ((IntKind.wrap .i64 (n0_2 * 6364136223846793005)) + 1442695040888963407))]]
    else none
  else
    some [T.i .i64 (intBits .and .i64 (intBits .xor .i64 (shiftI .shr .i64 (IntKind.wrap .i64 ((IntKind.wrap .i64 (n0_2 * 6364136223846793005)) + 1442695040888963407)) 33) (shiftI .shr .i64 (IntKind.wrap .i64 ((IntKind.wrap .i64 (n0_2 * 6364136223846793005)) + 1442695040888963407)) 47)) 255), T.st [T.sl l0_0, T.i .i64 n0_1, T.i .i64 (IntKind.wrap .i64 ((IntKind.wrap .i64 (n0_2 * 6364136223846793005)) + 1442695040888963407))]]
def f124 (c : Orc) (lf : Nat) (l0_0 : List T) (n0_1 : Int) (n0_2 : Int) : Option (List T) := f124_t c lf l0_0 n0_1 n0_2
theorem f124_raw (c : Orc) (lf : Nat) (l0_0 : List T) (n0_1 : Int) (n0_2 : Int) : funK c env lf 6 fi124 [.st [.sl l0_0, .i .i64 n0_1, .i .i64 n0_2]] = f124_t c lf l0_0 n0_1 n0_2 := by kernel_rfl
theorem f124_eq (c : Orc) (lf : Nat) (l0_0 : List T) (n0_1 : Int) (n0_2 : Int) : funK c env lf 6 fi124 [.st [.sl l0_0, .i .i64 n0_1, .i .i64 n0_2]] = f124 c lf l0_0 n0_1 n0_2 := by
  refine (f124_raw c lf l0_0 n0_1 n0_2).trans ?_
  rfl
/-- loop.example/g00285/spec.l1Below -/
def f70_t (c : Orc) (lf : Nat) (l0_0 : List T) (n0_1 : Int) (n0_2 : Int) (n1 : Int) : Option (List T) :=
  bif iLe n1 0 then
    some [T.i .i64 0, T.st [T.sl l0_0, T.i .i64 n0_1, T.i .i64 n0_2]]
  else
    bif iLe n1 256 then
      (c 124 [T.st [T.sl l0_0, T.i .i64 n0_1, T.i .i64 n0_2]]).bind fun r10 =>
      bif n1 != 0 then
      some [T.i .i64 ((asI (nth r10 0)).tmod n1), T.st [T.sl l0_0, T.i .i64 (asI (T.cell (nth r10 1) 1)), T.i .i64 (asI (T.cell (nth r10 1) 2))]]
      else none
    else
      (c 124 [T.st [T.sl l0_0, T.i .i64 n0_1, T.i .i64 n0_2]]).bind fun r11 =>
      (c 124 [T.st [T.sl l0_0, T.i .i64 (asI (T.cell (nth r11 1) 1)), T.i .i64 (asI (T.cell (nth r11 1) 2))]]).bind fun r12 =>
      (c 124 [T.st [T.sl l0_0, T.i .i64 (asI (T.cell (nth r12 1) 1)), T.i .i64 (asI (T.cell (nth r12 1) 2))]]).bind fun r13 =>
      bif n1 != 0 then
      some [T.i .i64 ((IntKind.wrap .i64 ((IntKind.wrap .i64 ((IntKind.wrap .i64 ((asI (nth r11 0)) * 65536)) + (IntKind.wrap .i64 ((asI (nth r12 0)) * 256)))) + (asI (nth r13 0)))).tmod n1), T.st [T.sl l0_0, T.i .i64 (asI (T.cell (nth r13 1) 1)), T.i .i64 (asI (T.cell (nth r13 1) 2))]]
      else none
def f70 (c : Orc) (lf : Nat) (l0_0 : List T) (n0_1 : Int) (n0_2 : Int) (n1 : Int) : Option (List T) := f70_t c lf l0_0 n0_1 n0_2 n1
theorem f70_raw (c : Orc) (lf : Nat) (l0_0 : List T) (n0_1 : Int) (n0_2 : Int) (n1 : Int) : funK c env lf 6 fi70 [.st [.sl l0_0, .i .i64 n0_1, .i .i64 n0_2], .i .i64 n1] = f70_t c lf l0_0 n0_1 n0_2 n1 := by kernel_rfl
theorem f70_eq (c : Orc) (lf : Nat) (l0_0 : List T) (n0_1 : Int) (n0_2 : Int) (n1 : Int) : funK c env lf 6 fi70 [.st [.sl l0_0, .i .i64 n0_1, .i .i64 n0_2], .i .i64 n1] = f70 c lf l0_0 n0_1 n0_2 n1 := by
  refine (f70_raw c lf l0_0 n0_1 n0_2 n1).trans ?_
  rfl
/-- loop.example/g00285/spec.l1Int -/
def f71_t (c : Orc) (lf : Nat) (l0_0 : List T) (n0_1 : Int) (n0_2 : Int) (l1 : List T) : Option (List T) :=
  (c 70 [T.st [T.sl l0_0, T.i .i64 n0_1, T.i .i64 n0_2], T.i .i64 (l1.length : Int)]).bind fun r14 =>
  bif inR (asI (nth r14 0)) l1.length then
  some [T.i .i64 (asI (l1.getD ((asI (nth r14 0)).toNat) T.u)), T.st [T.sl l0_0, T.i .i64 (asI (T.cell (nth r14 1) 1)), T.i .i64 (asI (T.cell (nth r14 1) 2))]]
  else none
def f71 (c : Orc) (lf : Nat) (l0_0 : List T) (n0_1 : Int) (n0_2 : Int) (l1 : List T) : Option (List T) := f71_t c lf l0_0 n0_1 n0_2 l1
theorem f71_raw (c : Orc) (lf : Nat) (l0_0 : List T) (n0_1 : Int) (n0_2 : Int) (l1 : List T) : funK c env lf 6 fi71 [.st [.sl l0_0, .i .i64 n0_1, .i .i64 n0_2], .sl l1] = f71_t c lf l0_0 n0_1 n0_2 l1 := by kernel_rfl
theorem f71_eq (c : Orc) (lf : Nat) (l0_0 : List T) (n0_1 : Int) (n0_2 : Int) (l1 : List T) : funK c env lf 6 fi71 [.st [.sl l0_0, .i .i64 n0_1, .i .i64 n0_2], .sl l1] = f71 c lf l0_0 n0_1 n0_2 l1 := by
  refine (f71_raw c lf l0_0 n0_1 n0_2 l1).trans ?_
  rfl
/-- loop.example/g00285/spec.l1Bytes, the loop at region 3. -/
def f143_0_s (c : Orc) (lf : Nat) (l0_0 : List T) (n1 : Int) (L : Int → Int → Int → List T → Option (List T)) (x23 : Int) (x24 : Int) (x25 : Int) (x26 : List T) : Option (List T) :=
  bif iLt x23 n1 then
    (c 124 [T.st [T.sl l0_0, T.i .i64 x24, T.i .i64 x25]]).bind fun r27 =>
    bif nLe (x26.length + ([T.i .u8 (IntKind.wrap .u8 (asI (nth r27 0)))] : List T).length) LIM then
    L (IntKind.wrap .i64 (x23 + 1)) (asI (T.cell (nth r27 1) 1)) (asI (T.cell (nth r27 1) 2)) (x26 ++ ([T.i .u8 (IntKind.wrap .u8 (asI (nth r27 0)))] : List T))
    else none
  else
    some [T.i .i64 0, T.sl l0_0, T.i .i64 x24, T.i .i64 x25, T.sl x26]
def f143_0_c (l0_0 : List T) (n1 : Int) (x23 : Int) (x24 : Int) (x25 : Int) (x26 : List T) : CSt := ⟨[.bp 0 0, .i .i64 n1, .rf 5 [] 0 none, .i .i64 x23], [.box [.ro 1 false [.i .u8] l0_0, .i .i64 x24, .i .i64 x25], .dead, .dead, .dead, .dead, .row false [.i .u8] x26 0 false]⟩
theorem f143_0_round (c : Orc) (lf : Nat) (l0_0 : List T) (n1 : Int) (L : CSt → Option (List T)) (x23 : Int) (x24 : Int) (x25 : Int) (x26 : List T) :
    roundK c env lf 6 fi143 5 3 [] [0, 1, 5, 6] (x143_3_0) L (f143_0_c l0_0 n1 x23 x24 x25 x26) = f143_0_s c lf l0_0 n1 (fun x23 x24 x25 x26 => L (f143_0_c l0_0 n1 x23 x24 x25 x26)) x23 x24 x25 x26 := by kernel_rfl
def f143_0 (c : Orc) (lf : Nat) (l0_0 : List T) (n1 : Int) : Nat → Int → Int → Int → List T → Option (List T)
  | 0 => fun _ _ _ _ => none
  | n + 1 => fun x23 x24 x25 x26 => f143_0_s c lf l0_0 n1 (f143_0 c lf l0_0 n1 n) x23 x24 x25 x26
theorem f143_0_u (c : Orc) (lf : Nat) (l0_0 : List T) (n1 : Int) (n : Nat) (x23 : Int) (x24 : Int) (x25 : Int) (x26 : List T) : f143_0 c lf l0_0 n1 (n + 1) x23 x24 x25 x26 = f143_0_s c lf l0_0 n1 (f143_0 c lf l0_0 n1 n) x23 x24 x25 x26 := rfl
theorem f143_0_eq (c : Orc) (lf : Nat) (l0_0 : List T) (n1 : Int) (n : Nat) (x23 : Int) (x24 : Int) (x25 : Int) (x26 : List T) :
    lpK c env lf 6 fi143 5 3 [] [0, 1, 5, 6] (x143_3_0) n (f143_0_c l0_0 n1 x23 x24 x25 x26) = f143_0 c lf l0_0 n1 n x23 x24 x25 x26 := by
  induction n generalizing x23 x24 x25 x26 with
  | zero => rfl
  | succ n ih =>
    refine (f143_0_round c lf l0_0 n1 _ x23 x24 x25 x26).trans ?_
    have e : (fun x23 x24 x25 x26 => lpK c env lf 6 fi143 5 3 [] [0, 1, 5, 6] (x143_3_0) n (f143_0_c l0_0 n1 x23 x24 x25 x26)) = f143_0 c lf l0_0 n1 n := by funext x23 x24 x25 x26; exact ih x23 x24 x25 x26
    show f143_0_s c lf l0_0 n1 (fun x23 x24 x25 x26 => lpK c env lf 6 fi143 5 3 [] [0, 1, 5, 6] (x143_3_0) n (f143_0_c l0_0 n1 x23 x24 x25 x26)) x23 x24 x25 x26 = _
    rw [e]; rfl
/-- loop.example/g00285/spec.l1Bytes -/
def f143_t (c : Orc) (lf : Nat) (lp0 : List T → Int → Int → Int → Int → List T → Option (List T)) (l0_0 : List T) (n0_1 : Int) (n0_2 : Int) (n1 : Int) : Option (List T) :=
  (lp0 l0_0 n1 0 n0_1 n0_2 ([] : List T)).bind fun r28 =>
  some [T.sl (asL (nth r28 4)), T.st [T.sl (asL (nth r28 1)), T.i .i64 (asI (nth r28 2)), T.i .i64 (asI (nth r28 3))]]
def f143 (c : Orc) (lf : Nat) (l0_0 : List T) (n0_1 : Int) (n0_2 : Int) (n1 : Int) : Option (List T) := f143_t c lf (fun (l0_0 : List T) (n1 : Int) (x23 : Int) (x24 : Int) (x25 : Int) (x26 : List T) => f143_0 c lf l0_0 n1 lf x23 x24 x25 x26) l0_0 n0_1 n0_2 n1
theorem f143_raw (c : Orc) (lf : Nat) (l0_0 : List T) (n0_1 : Int) (n0_2 : Int) (n1 : Int) : funK c env lf 6 fi143 [.st [.sl l0_0, .i .i64 n0_1, .i .i64 n0_2], .i .i64 n1] = f143_t c lf (fun (l0_0 : List T) (n1 : Int) (x23 : Int) (x24 : Int) (x25 : Int) (x26 : List T) => lpK c env lf 6 fi143 5 3 [] [0, 1, 5, 6] (x143_3_0) lf (f143_0_c l0_0 n1 x23 x24 x25 x26)) l0_0 n0_1 n0_2 n1 := by kernel_rfl
theorem f143_eq (c : Orc) (lf : Nat) (l0_0 : List T) (n0_1 : Int) (n0_2 : Int) (n1 : Int) : funK c env lf 6 fi143 [.st [.sl l0_0, .i .i64 n0_1, .i .i64 n0_2], .i .i64 n1] = f143 c lf l0_0 n0_1 n0_2 n1 := by
  refine (f143_raw c lf l0_0 n0_1 n0_2 n1).trans ?_
  have e0 : (fun (l0_0 : List T) (n1 : Int) (x23 : Int) (x24 : Int) (x25 : Int) (x26 : List T) => lpK c env lf 6 fi143 5 3 [] [0, 1, 5, 6] (x143_3_0) lf (f143_0_c l0_0 n1 x23 x24 x25 x26)) = (fun (l0_0 : List T) (n1 : Int) (x23 : Int) (x24 : Int) (x25 : Int) (x26 : List T) => f143_0 c lf l0_0 n1 lf x23 x24 x25 x26) := by funext l0_0 n1 x23 x24 x25 x26; exact f143_0_eq c lf l0_0 n1 lf x23 x24 x25 x26
  rw [e0]; rfl
/-- loop.example/g00285/spec.l1Once -/
def f118_t (c : Orc) (lf : Nat) (l0_0 : List T) (n0_1 : Int) (n0_2 : Int) (n1 : Int) : Option (List T) :=
  (c 70 [T.st [T.sl l0_0, T.i .i64 n0_1, T.i .i64 n0_2], T.i .i64 n1]).bind fun r29 =>
  some [T.b ((asI (nth r29 0)) == 0), T.st [T.sl l0_0, T.i .i64 (asI (T.cell (nth r29 1) 1)), T.i .i64 (asI (T.cell (nth r29 1) 2))]]
def f118 (c : Orc) (lf : Nat) (l0_0 : List T) (n0_1 : Int) (n0_2 : Int) (n1 : Int) : Option (List T) := f118_t c lf l0_0 n0_1 n0_2 n1
theorem f118_raw (c : Orc) (lf : Nat) (l0_0 : List T) (n0_1 : Int) (n0_2 : Int) (n1 : Int) : funK c env lf 6 fi118 [.st [.sl l0_0, .i .i64 n0_1, .i .i64 n0_2], .i .i64 n1] = f118_t c lf l0_0 n0_1 n0_2 n1 := by kernel_rfl
theorem f118_eq (c : Orc) (lf : Nat) (l0_0 : List T) (n0_1 : Int) (n0_2 : Int) (n1 : Int) : funK c env lf 6 fi118 [.st [.sl l0_0, .i .i64 n0_1, .i .i64 n0_2], .i .i64 n1] = f118 c lf l0_0 n0_1 n0_2 n1 := by
  refine (f118_raw c lf l0_0 n0_1 n0_2 n1).trans ?_
  rfl
/-- loop.example/g00285/spec.l1Str -/
def f131_t (c : Orc) (lf : Nat) (l0_0 : List T) (n0_1 : Int) (n0_2 : Int) (l1 : List T) : Option (List T) :=
  (c 70 [T.st [T.sl l0_0, T.i .i64 n0_1, T.i .i64 n0_2], T.i .i64 (l1.length : Int)]).bind fun r30 =>
  bif inR (asI (nth r30 0)) l1.length then
  some [T.s (asS (l1.getD ((asI (nth r30 0)).toNat) T.u)), T.st [T.sl l0_0, T.i .i64 (asI (T.cell (nth r30 1) 1)), T.i .i64 (asI (T.cell (nth r30 1) 2))]]
  else none
def f131 (c : Orc) (lf : Nat) (l0_0 : List T) (n0_1 : Int) (n0_2 : Int) (l1 : List T) : Option (List T) := f131_t c lf l0_0 n0_1 n0_2 l1
theorem f131_raw (c : Orc) (lf : Nat) (l0_0 : List T) (n0_1 : Int) (n0_2 : Int) (l1 : List T) : funK c env lf 6 fi131 [.st [.sl l0_0, .i .i64 n0_1, .i .i64 n0_2], .sl l1] = f131_t c lf l0_0 n0_1 n0_2 l1 := by kernel_rfl
theorem f131_eq (c : Orc) (lf : Nat) (l0_0 : List T) (n0_1 : Int) (n0_2 : Int) (l1 : List T) : funK c env lf 6 fi131 [.st [.sl l0_0, .i .i64 n0_1, .i .i64 n0_2], .sl l1] = f131 c lf l0_0 n0_1 n0_2 l1 := by
  refine (f131_raw c lf l0_0 n0_1 n0_2 l1).trans ?_
  rfl
/-- loop.example/g00285/spec.l3Draw, the loop at region 12. -/
def f117_0_s (c : Orc) (lf : Nat) (l0_0 : List T) (r63 : List T) (r64 : List T) (r66 : List T) (r67 : List T) (L : Int → Int → Int → List T → Option (List T)) (x70 : Int) (x71 : Int) (x72 : Int) (x73 : List T) : Option (List T) :=
  bif iLt x70 2 then
    (c 118 [T.st [T.sl l0_0, T.i .i64 x71, T.i .i64 x72], T.i .i64 3]).bind fun r74 =>
    bif asB (nth r74 0) then
      bif inR x70 (([T.s (⟨#[97]⟩ : ByteArray), T.s (⟨#[98]⟩ : ByteArray), T.s (⟨#[99]⟩ : ByteArray), T.s (⟨#[100, 46, 116, 120, 116]⟩ : ByteArray)] : List T).length) then
      (c 131 [T.st [T.sl l0_0, T.i .i64 (asI (T.cell (nth r74 1) 1)), T.i .i64 (asI (T.cell (nth r74 1) 2))], T.sl ([T.s (⟨#[120]⟩ : ByteArray), T.s (⟨#[118, 97, 108, 117, 101]⟩ : ByteArray), T.s (⟨#[115, 105, 120, 116, 101, 101, 110, 98, 121, 116, 101, 115, 120, 120, 120, 120]⟩ : ByteArray)] : List T)]).bind fun r75 =>
      bif nLe (x73.length + ([T.st [T.s (asS (([T.s (⟨#[97]⟩ : ByteArray), T.s (⟨#[98]⟩ : ByteArray), T.s (⟨#[99]⟩ : ByteArray), T.s (⟨#[100, 46, 116, 120, 116]⟩ : ByteArray)] : List T).getD x70.toNat T.u)), T.s (asS (nth r75 0))]] : List T).length) LIM then
      L (IntKind.wrap .i64 (x70 + 1)) (asI (T.cell (nth r75 1) 1)) (asI (T.cell (nth r75 1) 2)) (x73 ++ ([T.st [T.s (asS (([T.s (⟨#[97]⟩ : ByteArray), T.s (⟨#[98]⟩ : ByteArray), T.s (⟨#[99]⟩ : ByteArray), T.s (⟨#[100, 46, 116, 120, 116]⟩ : ByteArray)] : List T).getD x70.toNat T.u)), T.s (asS (nth r75 0))]] : List T))
      else none
      else none
    else
      L (IntKind.wrap .i64 (x70 + 1)) (asI (T.cell (nth r74 1) 1)) (asI (T.cell (nth r74 1) 2)) x73
  else
    some [T.i .i64 0, T.sl l0_0, T.i .i64 x71, T.i .i64 x72, T.i .i64 0, T.i .i64 0, T.i .i64 0, T.sl ([] : List T), T.sl ([] : List T), T.sl ([] : List T), T.i .i64 (IntKind.wrap .i64 (2 + (asI (nth r63 0)))), T.i .i64 (IntKind.wrap .i64 (1 + (asI (nth r64 0)))), T.i .i64 (IntKind.wrap .i64 (1 + (asI (nth r67 0)))), T.sl (asL (nth r66 0)), T.sl ([] : List T), T.sl x73]
def f117_0_c (l0_0 : List T) (r63 : List T) (r64 : List T) (r66 : List T) (r67 : List T) (x70 : Int) (x71 : Int) (x72 : Int) (x73 : List T) : CSt := ⟨[.bp 0 0, .bp 4 0, .bp 8 0, .rf 12 [] 0 none, .i .i64 x70], [.box [.ro 1 false [.i .u8] l0_0, .i .i64 x71, .i .i64 x72], .dead, .dead, .dead, .box [.i .i64 0, .i .i64 0, .i .i64 0, .rf 5 [] 0 none, .rf 6 [] 0 none, .rf 7 [] 0 none], .row false [.i .u8] ([] : List T) 0 false, .row true [.s, .i .i64] ([] : List T) 0 false, .row true [.s, .s] ([] : List T) 0 false, .box [.i .i64 (IntKind.wrap .i64 (2 + (asI (nth r63 0)))), .i .i64 (IntKind.wrap .i64 (1 + (asI (nth r64 0)))), .i .i64 (IntKind.wrap .i64 (1 + (asI (nth r67 0)))), .rf 9 [] 0 none, .rf 10 [] 0 none, .rf 11 [] 0 none], .row false [.i .u8] (asL (nth r66 0)) 0 false, .row true [.s, .i .i64] ([] : List T) 0 false, .row true [.s, .s] x73 0 false, .row false [.s] ([T.s (⟨#[97]⟩ : ByteArray), T.s (⟨#[98]⟩ : ByteArray), T.s (⟨#[99]⟩ : ByteArray), T.s (⟨#[100, 46, 116, 120, 116]⟩ : ByteArray)] : List T) 0 false]⟩
theorem f117_0_round (c : Orc) (lf : Nat) (l0_0 : List T) (r63 : List T) (r64 : List T) (r66 : List T) (r67 : List T) (L : CSt → Option (List T)) (x70 : Int) (x71 : Int) (x72 : Int) (x73 : List T) :
    roundK c env lf 6 fi117 4 12 [] [0, 2, 3, 4, 6] (x117_12_0) L (f117_0_c l0_0 r63 r64 r66 r67 x70 x71 x72 x73) = f117_0_s c lf l0_0 r63 r64 r66 r67 (fun x70 x71 x72 x73 => L (f117_0_c l0_0 r63 r64 r66 r67 x70 x71 x72 x73)) x70 x71 x72 x73 := by kernel_rfl
def f117_0 (c : Orc) (lf : Nat) (l0_0 : List T) (r63 : List T) (r64 : List T) (r66 : List T) (r67 : List T) : Nat → Int → Int → Int → List T → Option (List T)
  | 0 => fun _ _ _ _ => none
  | n + 1 => fun x70 x71 x72 x73 => f117_0_s c lf l0_0 r63 r64 r66 r67 (f117_0 c lf l0_0 r63 r64 r66 r67 n) x70 x71 x72 x73
theorem f117_0_u (c : Orc) (lf : Nat) (l0_0 : List T) (r63 : List T) (r64 : List T) (r66 : List T) (r67 : List T) (n : Nat) (x70 : Int) (x71 : Int) (x72 : Int) (x73 : List T) : f117_0 c lf l0_0 r63 r64 r66 r67 (n + 1) x70 x71 x72 x73 = f117_0_s c lf l0_0 r63 r64 r66 r67 (f117_0 c lf l0_0 r63 r64 r66 r67 n) x70 x71 x72 x73 := rfl
theorem f117_0_eq (c : Orc) (lf : Nat) (l0_0 : List T) (r63 : List T) (r64 : List T) (r66 : List T) (r67 : List T) (n : Nat) (x70 : Int) (x71 : Int) (x72 : Int) (x73 : List T) :
    lpK c env lf 6 fi117 4 12 [] [0, 2, 3, 4, 6] (x117_12_0) n (f117_0_c l0_0 r63 r64 r66 r67 x70 x71 x72 x73) = f117_0 c lf l0_0 r63 r64 r66 r67 n x70 x71 x72 x73 := by
  induction n generalizing x70 x71 x72 x73 with
  | zero => rfl
  | succ n ih =>
    refine (f117_0_round c lf l0_0 r63 r64 r66 r67 _ x70 x71 x72 x73).trans ?_
    have e : (fun x70 x71 x72 x73 => lpK c env lf 6 fi117 4 12 [] [0, 2, 3, 4, 6] (x117_12_0) n (f117_0_c l0_0 r63 r64 r66 r67 x70 x71 x72 x73)) = f117_0 c lf l0_0 r63 r64 r66 r67 n := by funext x70 x71 x72 x73; exact ih x70 x71 x72 x73
    show f117_0_s c lf l0_0 r63 r64 r66 r67 (fun x70 x71 x72 x73 => lpK c env lf 6 fi117 4 12 [] [0, 2, 3, 4, 6] (x117_12_0) n (f117_0_c l0_0 r63 r64 r66 r67 x70 x71 x72 x73)) x70 x71 x72 x73 = _
    rw [e]; rfl
/-- loop.example/g00285/spec.l3Draw, the loop at region 7. -/
def f117_1_s (c : Orc) (lf : Nat) (l0_0 : List T) (r63 : List T) (r64 : List T) (L : Int → Int → Int → List T → Option (List T)) (x79 : Int) (x80 : Int) (x81 : Int) (x82 : List T) : Option (List T) :=
  bif iLt x79 4 then
    (c 118 [T.st [T.sl l0_0, T.i .i64 x80, T.i .i64 x81], T.i .i64 2]).bind fun r83 =>
    bif asB (nth r83 0) then
      bif inR x79 (([T.s (⟨#[97]⟩ : ByteArray), T.s (⟨#[98]⟩ : ByteArray), T.s (⟨#[99]⟩ : ByteArray), T.s (⟨#[100, 46, 116, 120, 116]⟩ : ByteArray)] : List T).length) then
      (c 70 [T.st [T.sl l0_0, T.i .i64 (asI (T.cell (nth r83 1) 1)), T.i .i64 (asI (T.cell (nth r83 1) 2))], T.i .i64 8]).bind fun r84 =>
      bif nLe (x82.length + ([T.st [T.s (asS (([T.s (⟨#[97]⟩ : ByteArray), T.s (⟨#[98]⟩ : ByteArray), T.s (⟨#[99]⟩ : ByteArray), T.s (⟨#[100, 46, 116, 120, 116]⟩ : ByteArray)] : List T).getD x79.toNat T.u)), T.i .i64 (IntKind.wrap .i64 (2 + (asI (nth r84 0))))]] : List T).length) LIM then
      L (IntKind.wrap .i64 (x79 + 1)) (asI (T.cell (nth r84 1) 1)) (asI (T.cell (nth r84 1) 2)) (x82 ++ ([T.st [T.s (asS (([T.s (⟨#[97]⟩ : ByteArray), T.s (⟨#[98]⟩ : ByteArray), T.s (⟨#[99]⟩ : ByteArray), T.s (⟨#[100, 46, 116, 120, 116]⟩ : ByteArray)] : List T).getD x79.toNat T.u)), T.i .i64 (IntKind.wrap .i64 (2 + (asI (nth r84 0))))]] : List T))
      else none
      else none
    else
      L (IntKind.wrap .i64 (x79 + 1)) (asI (T.cell (nth r83 1) 1)) (asI (T.cell (nth r83 1) 2)) x82
  else
    some [T.i .i64 0, T.sl l0_0, T.i .i64 x80, T.i .i64 x81, T.i .i64 0, T.i .i64 0, T.i .i64 0, T.sl ([] : List T), T.sl ([] : List T), T.sl ([] : List T), T.i .i64 (IntKind.wrap .i64 (2 + (asI (nth r63 0)))), T.i .i64 (IntKind.wrap .i64 (1 + (asI (nth r64 0)))), T.i .i64 1, T.sl ([] : List T), T.sl x82, T.sl ([] : List T), T.sl ([T.s (⟨#[97]⟩ : ByteArray), T.s (⟨#[98]⟩ : ByteArray), T.s (⟨#[99]⟩ : ByteArray), T.s (⟨#[100, 46, 116, 120, 116]⟩ : ByteArray)] : List T)]
def f117_1_c (l0_0 : List T) (r63 : List T) (r64 : List T) (x79 : Int) (x80 : Int) (x81 : Int) (x82 : List T) : CSt := ⟨[.bp 0 0, .bp 4 0, .bp 8 0, .rf 12 [] 0 none, .i .i64 x79], [.box [.ro 1 false [.i .u8] l0_0, .i .i64 x80, .i .i64 x81], .dead, .dead, .dead, .box [.i .i64 0, .i .i64 0, .i .i64 0, .rf 5 [] 0 none, .rf 6 [] 0 none, .rf 7 [] 0 none], .row false [.i .u8] ([] : List T) 0 false, .row true [.s, .i .i64] ([] : List T) 0 false, .row true [.s, .s] ([] : List T) 0 false, .box [.i .i64 (IntKind.wrap .i64 (2 + (asI (nth r63 0)))), .i .i64 (IntKind.wrap .i64 (1 + (asI (nth r64 0)))), .i .i64 1, .rf 9 [] 0 none, .rf 10 [] 0 none, .rf 11 [] 0 none], .row false [.i .u8] ([] : List T) 0 false, .row true [.s, .i .i64] x82 0 false, .row true [.s, .s] ([] : List T) 0 false, .row false [.s] ([T.s (⟨#[97]⟩ : ByteArray), T.s (⟨#[98]⟩ : ByteArray), T.s (⟨#[99]⟩ : ByteArray), T.s (⟨#[100, 46, 116, 120, 116]⟩ : ByteArray)] : List T) 0 false]⟩
theorem f117_1_round (c : Orc) (lf : Nat) (l0_0 : List T) (r63 : List T) (r64 : List T) (L : CSt → Option (List T)) (x79 : Int) (x80 : Int) (x81 : Int) (x82 : List T) :
    roundK c env lf 6 fi117 4 7 [] [0, 2, 3, 4, 5] (x117_7_0) L (f117_1_c l0_0 r63 r64 x79 x80 x81 x82) = f117_1_s c lf l0_0 r63 r64 (fun x79 x80 x81 x82 => L (f117_1_c l0_0 r63 r64 x79 x80 x81 x82)) x79 x80 x81 x82 := by kernel_rfl
def f117_1 (c : Orc) (lf : Nat) (l0_0 : List T) (r63 : List T) (r64 : List T) : Nat → Int → Int → Int → List T → Option (List T)
  | 0 => fun _ _ _ _ => none
  | n + 1 => fun x79 x80 x81 x82 => f117_1_s c lf l0_0 r63 r64 (f117_1 c lf l0_0 r63 r64 n) x79 x80 x81 x82
theorem f117_1_u (c : Orc) (lf : Nat) (l0_0 : List T) (r63 : List T) (r64 : List T) (n : Nat) (x79 : Int) (x80 : Int) (x81 : Int) (x82 : List T) : f117_1 c lf l0_0 r63 r64 (n + 1) x79 x80 x81 x82 = f117_1_s c lf l0_0 r63 r64 (f117_1 c lf l0_0 r63 r64 n) x79 x80 x81 x82 := rfl
theorem f117_1_eq (c : Orc) (lf : Nat) (l0_0 : List T) (r63 : List T) (r64 : List T) (n : Nat) (x79 : Int) (x80 : Int) (x81 : Int) (x82 : List T) :
    lpK c env lf 6 fi117 4 7 [] [0, 2, 3, 4, 5] (x117_7_0) n (f117_1_c l0_0 r63 r64 x79 x80 x81 x82) = f117_1 c lf l0_0 r63 r64 n x79 x80 x81 x82 := by
  induction n generalizing x79 x80 x81 x82 with
  | zero => rfl
  | succ n ih =>
    refine (f117_1_round c lf l0_0 r63 r64 _ x79 x80 x81 x82).trans ?_
    have e : (fun x79 x80 x81 x82 => lpK c env lf 6 fi117 4 7 [] [0, 2, 3, 4, 5] (x117_7_0) n (f117_1_c l0_0 r63 r64 x79 x80 x81 x82)) = f117_1 c lf l0_0 r63 r64 n := by funext x79 x80 x81 x82; exact ih x79 x80 x81 x82
    show f117_1_s c lf l0_0 r63 r64 (fun x79 x80 x81 x82 => lpK c env lf 6 fi117 4 7 [] [0, 2, 3, 4, 5] (x117_7_0) n (f117_1_c l0_0 r63 r64 x79 x80 x81 x82)) x79 x80 x81 x82 = _
    rw [e]; rfl
/-- loop.example/g00285/spec.l3Draw, the loop at region 12. -/
def f117_2_s (c : Orc) (lf : Nat) (r85 : List T) (L : Int → Int → Int → List T → Option (List T)) (x88 : Int) (x89 : Int) (x90 : Int) (x91 : List T) : Option (List T) :=
  bif iLt x88 2 then
    (c 118 [T.st [T.sl (asL (nth r85 1)), T.i .i64 x89, T.i .i64 x90], T.i .i64 3]).bind fun r92 =>
    bif asB (nth r92 0) then
      bif inR x88 ((asL (nth r85 16)).length) then
      (c 131 [T.st [T.sl (asL (nth r85 1)), T.i .i64 (asI (T.cell (nth r92 1) 1)), T.i .i64 (asI (T.cell (nth r92 1) 2))], T.sl ([T.s (⟨#[120]⟩ : ByteArray), T.s (⟨#[118, 97, 108, 117, 101]⟩ : ByteArray), T.s (⟨#[115, 105, 120, 116, 101, 101, 110, 98, 121, 116, 101, 115, 120, 120, 120, 120]⟩ : ByteArray)] : List T)]).bind fun r93 =>
      bif nLe (x91.length + ([T.st [T.s (asS ((asL (nth r85 16)).getD x88.toNat T.u)), T.s (asS (nth r93 0))]] : List T).length) LIM then
      L (IntKind.wrap .i64 (x88 + 1)) (asI (T.cell (nth r93 1) 1)) (asI (T.cell (nth r93 1) 2)) (x91 ++ ([T.st [T.s (asS ((asL (nth r85 16)).getD x88.toNat T.u)), T.s (asS (nth r93 0))]] : List T))
      else none
      else none
    else
      L (IntKind.wrap .i64 (x88 + 1)) (asI (T.cell (nth r92 1) 1)) (asI (T.cell (nth r92 1) 2)) x91
  else
    some [T.i .i64 0, T.sl (asL (nth r85 1)), T.i .i64 x89, T.i .i64 x90, T.i .i64 (asI (nth r85 4)), T.i .i64 (asI (nth r85 5)), T.i .i64 (asI (nth r85 6)), T.sl (asL (nth r85 7)), T.sl (asL (nth r85 8)), T.sl (asL (nth r85 9)), T.i .i64 (asI (nth r85 10)), T.i .i64 (asI (nth r85 11)), T.i .i64 (asI (nth r85 12)), T.sl (asL (nth r85 13)), T.sl (asL (nth r85 14)), T.sl x91]
def f117_2_c (r85 : List T) (x88 : Int) (x89 : Int) (x90 : Int) (x91 : List T) : CSt := ⟨[.bp 0 0, .bp 4 0, .bp 8 0, .rf 12 [] 0 none, .i .i64 x88], [.box [.ro 1 false [.i .u8] (asL (nth r85 1)), .i .i64 x89, .i .i64 x90], .dead, .dead, .dead, .box [.i .i64 (asI (nth r85 4)), .i .i64 (asI (nth r85 5)), .i .i64 (asI (nth r85 6)), .rf 5 [] 0 none, .rf 6 [] 0 none, .rf 7 [] 0 none], .row false [.i .u8] (asL (nth r85 7)) 0 false, .row true [.s, .i .i64] (asL (nth r85 8)) 0 false, .row true [.s, .s] (asL (nth r85 9)) 0 false, .box [.i .i64 (asI (nth r85 10)), .i .i64 (asI (nth r85 11)), .i .i64 (asI (nth r85 12)), .rf 9 [] 0 none, .rf 10 [] 0 none, .rf 11 [] 0 none], .row false [.i .u8] (asL (nth r85 13)) 0 false, .row true [.s, .i .i64] (asL (nth r85 14)) 0 false, .row true [.s, .s] x91 0 false, .row false [.s] (asL (nth r85 16)) 0 false]⟩
theorem f117_2_round (c : Orc) (lf : Nat) (r85 : List T) (L : CSt → Option (List T)) (x88 : Int) (x89 : Int) (x90 : Int) (x91 : List T) :
    roundK c env lf 6 fi117 4 12 [] [0, 2, 3, 4, 6] (x117_12_0) L (f117_2_c r85 x88 x89 x90 x91) = f117_2_s c lf r85 (fun x88 x89 x90 x91 => L (f117_2_c r85 x88 x89 x90 x91)) x88 x89 x90 x91 := by kernel_rfl
def f117_2 (c : Orc) (lf : Nat) (r85 : List T) : Nat → Int → Int → Int → List T → Option (List T)
  | 0 => fun _ _ _ _ => none
  | n + 1 => fun x88 x89 x90 x91 => f117_2_s c lf r85 (f117_2 c lf r85 n) x88 x89 x90 x91
theorem f117_2_u (c : Orc) (lf : Nat) (r85 : List T) (n : Nat) (x88 : Int) (x89 : Int) (x90 : Int) (x91 : List T) : f117_2 c lf r85 (n + 1) x88 x89 x90 x91 = f117_2_s c lf r85 (f117_2 c lf r85 n) x88 x89 x90 x91 := rfl
theorem f117_2_eq (c : Orc) (lf : Nat) (r85 : List T) (n : Nat) (x88 : Int) (x89 : Int) (x90 : Int) (x91 : List T) :
    lpK c env lf 6 fi117 4 12 [] [0, 2, 3, 4, 6] (x117_12_0) n (f117_2_c r85 x88 x89 x90 x91) = f117_2 c lf r85 n x88 x89 x90 x91 := by
  induction n generalizing x88 x89 x90 x91 with
  | zero => rfl
  | succ n ih =>
    refine (f117_2_round c lf r85 _ x88 x89 x90 x91).trans ?_
    have e : (fun x88 x89 x90 x91 => lpK c env lf 6 fi117 4 12 [] [0, 2, 3, 4, 6] (x117_12_0) n (f117_2_c r85 x88 x89 x90 x91)) = f117_2 c lf r85 n := by funext x88 x89 x90 x91; exact ih x88 x89 x90 x91
    show f117_2_s c lf r85 (fun x88 x89 x90 x91 => lpK c env lf 6 fi117 4 12 [] [0, 2, 3, 4, 6] (x117_12_0) n (f117_2_c r85 x88 x89 x90 x91)) x88 x89 x90 x91 = _
    rw [e]; rfl
/-- loop.example/g00285/spec.l3Draw -/
def f117_t (c : Orc) (lf : Nat) (lp0 : List T → List T → List T → List T → List T → Int → Int → Int → List T → Option (List T)) (lp1 : List T → List T → List T → Int → Int → Int → List T → Option (List T)) (lp2 : List T → Int → Int → Int → List T → Option (List T)) (l0_0 : List T) (n0_1 : Int) (n0_2 : Int) : Option (List T) :=
  (c 70 [T.st [T.sl l0_0, T.i .i64 n0_1, T.i .i64 n0_2], T.i .i64 6]).bind fun r63 =>
  (c 70 [T.st [T.sl l0_0, T.i .i64 (asI (T.cell (nth r63 1) 1)), T.i .i64 (asI (T.cell (nth r63 1) 2))], T.i .i64 2]).bind fun r64 =>
  bif (IntKind.wrap .i64 (1 + (asI (nth r64 0)))) == 1 then
    (c 71 [T.st [T.sl l0_0, T.i .i64 (asI (T.cell (nth r64 1) 1)), T.i .i64 (asI (T.cell (nth r64 1) 2))], T.sl ([T.i .i64 0, T.i .i64 1, T.i .i64 5, T.i .i64 20, T.i .i64 100] : List T)]).bind fun r65 =>
    (c 143 [T.st [T.sl l0_0, T.i .i64 (asI (T.cell (nth r65 1) 1)), T.i .i64 (asI (T.cell (nth r65 1) 2))], T.i .i64 (asI (nth r65 0))]).bind fun r66 =>
    (c 70 [T.st [T.sl l0_0, T.i .i64 (asI (T.cell (nth r66 1) 1)), T.i .i64 (asI (T.cell (nth r66 1) 2))], T.i .i64 2]).bind fun r67 =>
    (lp0 l0_0 r63 r64 r66 r67 0 (asI (T.cell (nth r67 1) 1)) (asI (T.cell (nth r67 1) 2)) ([] : List T)).bind fun r76 =>
    some [T.st [T.i .i64 (asI (nth r76 10)), T.i .i64 (asI (nth r76 11)), T.i .i64 (asI (nth r76 12)), T.sl (asL (nth r76 13)), T.sl (asL (nth r76 14)), T.sl (asL (nth r76 15))], T.st [T.sl (asL (nth r76 1)), T.i .i64 (asI (nth r76 2)), T.i .i64 (asI (nth r76 3))]]
  else
    (lp1 l0_0 r63 r64 0 (asI (T.cell (nth r64 1) 1)) (asI (T.cell (nth r64 1) 2)) ([] : List T)).bind fun r85 =>
    (lp2 r85 0 (asI (nth r85 2)) (asI (nth r85 3)) (asL (nth r85 15))).bind fun r94 =>
    some [T.st [T.i .i64 (asI (nth r94 10)), T.i .i64 (asI (nth r94 11)), T.i .i64 (asI (nth r94 12)), T.sl (asL (nth r94 13)), T.sl (asL (nth r94 14)), T.sl (asL (nth r94 15))], T.st [T.sl (asL (nth r94 1)), T.i .i64 (asI (nth r94 2)), T.i .i64 (asI (nth r94 3))]]
def f117 (c : Orc) (lf : Nat) (l0_0 : List T) (n0_1 : Int) (n0_2 : Int) : Option (List T) := f117_t c lf (fun (l0_0 : List T) (r63 : List T) (r64 : List T) (r66 : List T) (r67 : List T) (x70 : Int) (x71 : Int) (x72 : Int) (x73 : List T) => f117_0 c lf l0_0 r63 r64 r66 r67 lf x70 x71 x72 x73) (fun (l0_0 : List T) (r63 : List T) (r64 : List T) (x79 : Int) (x80 : Int) (x81 : Int) (x82 : List T) => f117_1 c lf l0_0 r63 r64 lf x79 x80 x81 x82) (fun (r85 : List T) (x88 : Int) (x89 : Int) (x90 : Int) (x91 : List T) => f117_2 c lf r85 lf x88 x89 x90 x91) l0_0 n0_1 n0_2
theorem f117_raw (c : Orc) (lf : Nat) (l0_0 : List T) (n0_1 : Int) (n0_2 : Int) : funK c env lf 6 fi117 [.st [.sl l0_0, .i .i64 n0_1, .i .i64 n0_2]] = f117_t c lf (fun (l0_0 : List T) (r63 : List T) (r64 : List T) (r66 : List T) (r67 : List T) (x70 : Int) (x71 : Int) (x72 : Int) (x73 : List T) => lpK c env lf 6 fi117 4 12 [] [0, 2, 3, 4, 6] (x117_12_0) lf (f117_0_c l0_0 r63 r64 r66 r67 x70 x71 x72 x73)) (fun (l0_0 : List T) (r63 : List T) (r64 : List T) (x79 : Int) (x80 : Int) (x81 : Int) (x82 : List T) => lpK c env lf 6 fi117 4 7 [] [0, 2, 3, 4, 5] (x117_7_0) lf (f117_1_c l0_0 r63 r64 x79 x80 x81 x82)) (fun (r85 : List T) (x88 : Int) (x89 : Int) (x90 : Int) (x91 : List T) => lpK c env lf 6 fi117 4 12 [] [0, 2, 3, 4, 6] (x117_12_0) lf (f117_2_c r85 x88 x89 x90 x91)) l0_0 n0_1 n0_2 := by kernel_rfl
theorem f117_eq (c : Orc) (lf : Nat) (l0_0 : List T) (n0_1 : Int) (n0_2 : Int) : funK c env lf 6 fi117 [.st [.sl l0_0, .i .i64 n0_1, .i .i64 n0_2]] = f117 c lf l0_0 n0_1 n0_2 := by
  refine (f117_raw c lf l0_0 n0_1 n0_2).trans ?_
  have e0 : (fun (l0_0 : List T) (r63 : List T) (r64 : List T) (r66 : List T) (r67 : List T) (x70 : Int) (x71 : Int) (x72 : Int) (x73 : List T) => lpK c env lf 6 fi117 4 12 [] [0, 2, 3, 4, 6] (x117_12_0) lf (f117_0_c l0_0 r63 r64 r66 r67 x70 x71 x72 x73)) = (fun (l0_0 : List T) (r63 : List T) (r64 : List T) (r66 : List T) (r67 : List T) (x70 : Int) (x71 : Int) (x72 : Int) (x73 : List T) => f117_0 c lf l0_0 r63 r64 r66 r67 lf x70 x71 x72 x73) := by funext l0_0 r63 r64 r66 r67 x70 x71 x72 x73; exact f117_0_eq c lf l0_0 r63 r64 r66 r67 lf x70 x71 x72 x73
  have e1 : (fun (l0_0 : List T) (r63 : List T) (r64 : List T) (x79 : Int) (x80 : Int) (x81 : Int) (x82 : List T) => lpK c env lf 6 fi117 4 7 [] [0, 2, 3, 4, 5] (x117_7_0) lf (f117_1_c l0_0 r63 r64 x79 x80 x81 x82)) = (fun (l0_0 : List T) (r63 : List T) (r64 : List T) (x79 : Int) (x80 : Int) (x81 : Int) (x82 : List T) => f117_1 c lf l0_0 r63 r64 lf x79 x80 x81 x82) := by funext l0_0 r63 r64 x79 x80 x81 x82; exact f117_1_eq c lf l0_0 r63 r64 lf x79 x80 x81 x82
  have e2 : (fun (r85 : List T) (x88 : Int) (x89 : Int) (x90 : Int) (x91 : List T) => lpK c env lf 6 fi117 4 12 [] [0, 2, 3, 4, 6] (x117_12_0) lf (f117_2_c r85 x88 x89 x90 x91)) = (fun (r85 : List T) (x88 : Int) (x89 : Int) (x90 : Int) (x91 : List T) => f117_2 c lf r85 lf x88 x89 x90 x91) := by funext r85 x88 x89 x90 x91; exact f117_2_eq c lf r85 lf x88 x89 x90 x91
  rw [e0, e1, e2]; rfl
/-- loop.example/g00285/spec.l1In -/
def f77_t (c : Orc) (lf : Nat) (n0 : Int) (n1 : Int) (n2 : Int) : Option (List T) :=
  bif iLe n1 n0 then
    some [T.b (iLe n0 n2)]
  else
    some [T.b false]
def f77 (c : Orc) (lf : Nat) (n0 : Int) (n1 : Int) (n2 : Int) : Option (List T) := f77_t c lf n0 n1 n2
theorem f77_raw (c : Orc) (lf : Nat) (n0 : Int) (n1 : Int) (n2 : Int) : funK c env lf 6 fi77 [.i .i64 n0, .i .i64 n1, .i .i64 n2] = f77_t c lf n0 n1 n2 := by kernel_rfl
theorem f77_eq (c : Orc) (lf : Nat) (n0 : Int) (n1 : Int) (n2 : Int) : funK c env lf 6 fi77 [.i .i64 n0, .i .i64 n1, .i .i64 n2] = f77 c lf n0 n1 n2 := by
  refine (f77_raw c lf n0 n1 n2).trans ?_
  rfl
/-- loop.example/g00285/spec.NameOk, the loop at region 2. -/
def f109_0_s (c : Orc) (lf : Nat) (s0 : ByteArray) (L : Int → Option (List T)) (x104 : Int) : Option (List T) :=
  bif iLt x104 (s0.size : Int) then
    bif inR x104 s0.size then
    (c 77 [T.i .i64 (IntKind.wrap .i64 (byteAt s0 x104)), T.i .i64 97, T.i .i64 122]).bind fun r105 =>
    bif !(asB (nth r105 0)) then
      (c 77 [T.i .i64 (IntKind.wrap .i64 (byteAt s0 x104)), T.i .i64 48, T.i .i64 57]).bind fun r106 =>
      bif !(asB (nth r106 0)) then
        bif (IntKind.wrap .i64 (byteAt s0 x104)) != 95 then
          bif (IntKind.wrap .i64 (byteAt s0 x104)) != 45 then
            bif (IntKind.wrap .i64 (byteAt s0 x104)) != 46 then
              some [T.i .i64 0, T.b false]
            else
              L (IntKind.wrap .i64 (x104 + 1))
          else
            L (IntKind.wrap .i64 (x104 + 1))
        else
          L (IntKind.wrap .i64 (x104 + 1))
      else
        L (IntKind.wrap .i64 (x104 + 1))
    else
      L (IntKind.wrap .i64 (x104 + 1))
    else none
  else
    some [T.i .i64 1, T.s s0]
def f109_0_c (s0 : ByteArray) (x104 : Int) : CSt := ⟨[.s s0, .i .i64 x104], [.dead]⟩
theorem f109_0_round (c : Orc) (lf : Nat) (s0 : ByteArray) (L : CSt → Option (List T)) (x104 : Int) :
    roundK c env lf 6 fi109 1 2 [] [0, 3] (x109_2_0) L (f109_0_c s0 x104) = f109_0_s c lf s0 (fun x104 => L (f109_0_c s0 x104)) x104 := by kernel_rfl
def f109_0 (c : Orc) (lf : Nat) (s0 : ByteArray) : Nat → Int → Option (List T)
  | 0 => fun _ => none
  | n + 1 => fun x104 => f109_0_s c lf s0 (f109_0 c lf s0 n) x104
theorem f109_0_u (c : Orc) (lf : Nat) (s0 : ByteArray) (n : Nat) (x104 : Int) : f109_0 c lf s0 (n + 1) x104 = f109_0_s c lf s0 (f109_0 c lf s0 n) x104 := rfl
theorem f109_0_eq (c : Orc) (lf : Nat) (s0 : ByteArray) (n : Nat) (x104 : Int) :
    lpK c env lf 6 fi109 1 2 [] [0, 3] (x109_2_0) n (f109_0_c s0 x104) = f109_0 c lf s0 n x104 := by
  induction n generalizing x104 with
  | zero => rfl
  | succ n ih =>
    refine (f109_0_round c lf s0 _ x104).trans ?_
    have e : (fun x104 => lpK c env lf 6 fi109 1 2 [] [0, 3] (x109_2_0) n (f109_0_c s0 x104)) = f109_0 c lf s0 n := by funext x104; exact ih x104
    show f109_0_s c lf s0 (fun x104 => lpK c env lf 6 fi109 1 2 [] [0, 3] (x109_2_0) n (f109_0_c s0 x104)) x104 = _
    rw [e]; rfl
/-- loop.example/g00285/spec.NameOk -/
def f109_t (c : Orc) (lf : Nat) (lp0 : ByteArray → Int → Option (List T)) (s0 : ByteArray) : Option (List T) :=
  (lp0 s0 0).bind fun r107 =>
  bif asI (nth r107 0) == 0 then
    some [T.b (asB (nth r107 1))]
  else
    (c 77 [T.i .i64 ((asS (nth r107 1)).size : Int), T.i .i64 1, T.i .i64 14]).bind fun r108 =>
    bif asB (nth r108 0) then
      bif !((asS (nth r107 1)).toList == (⟨#[46]⟩ : ByteArray).toList) then
        some [T.b (!((asS (nth r107 1)).toList == (⟨#[46, 46]⟩ : ByteArray).toList))]
      else
        some [T.b false]
    else
      some [T.b false]
def f109 (c : Orc) (lf : Nat) (s0 : ByteArray) : Option (List T) := f109_t c lf (fun (s0 : ByteArray) (x104 : Int) => f109_0 c lf s0 lf x104) s0
theorem f109_raw (c : Orc) (lf : Nat) (s0 : ByteArray) : funK c env lf 6 fi109 [.s s0] = f109_t c lf (fun (s0 : ByteArray) (x104 : Int) => lpK c env lf 6 fi109 1 2 [] [0, 3] (x109_2_0) lf (f109_0_c s0 x104)) s0 := by kernel_rfl
theorem f109_eq (c : Orc) (lf : Nat) (s0 : ByteArray) : funK c env lf 6 fi109 [.s s0] = f109 c lf s0 := by
  refine (f109_raw c lf s0).trans ?_
  have e0 : (fun (s0 : ByteArray) (x104 : Int) => lpK c env lf 6 fi109 1 2 [] [0, 3] (x109_2_0) lf (f109_0_c s0 x104)) = (fun (s0 : ByteArray) (x104 : Int) => f109_0 c lf s0 lf x104) := by funext s0 x104; exact f109_0_eq c lf s0 lf x104
  rw [e0]; rfl
/-- loop.example/g00285/spec.l3Ents, the loop at region 2. -/
def f87_0_s (c : Orc) (lf : Nat) (l0 : List T) (L : Int → Option (List T)) (x117 : Int) : Option (List T) :=
  bif iLt x117 (l0.length : Int) then
    bif inR x117 l0.length then
    (c 109 [T.s (asS (T.cell (l0.getD x117.toNat T.u) 0))]).bind fun r118 =>
    bif !(asB (nth r118 0)) then
      some [T.i .i64 0, T.b false]
    else
      bif inR x117 l0.length then
      (c 77 [T.i .i64 (asI (T.cell (l0.getD x117.toNat T.u) 1)), T.i .i64 2, T.i .i64 1000]).bind fun r119 =>
      bif !(asB (nth r119 0)) then
        some [T.i .i64 0, T.b false]
      else
        bif iLt 0 x117 then
          bif inR (IntKind.wrap .i64 (x117 - 1)) l0.length then
          bif inR x117 l0.length then
          bif !(Op.bytesLess (asS (T.cell (l0.getD ((IntKind.wrap .i64 (x117 - 1)).toNat) T.u) 0)).toList (asS (T.cell (l0.getD x117.toNat T.u) 0)).toList) then
            some [T.i .i64 0, T.b false]
          else
            L (IntKind.wrap .i64 (x117 + 1))
          else none
          else none
        else
          L (IntKind.wrap .i64 (x117 + 1))
      else none
    else none
  else
    some [T.i .i64 1, T.sl l0]
def f87_0_c (l0 : List T) (x117 : Int) : CSt := ⟨[.ro 0 true [.s, .i .i64] l0, .i .i64 x117], [.dead]⟩
theorem f87_0_round (c : Orc) (lf : Nat) (l0 : List T) (L : CSt → Option (List T)) (x117 : Int) :
    roundK c env lf 6 fi87 1 2 [] [0, 3] (x87_2_0) L (f87_0_c l0 x117) = f87_0_s c lf l0 (fun x117 => L (f87_0_c l0 x117)) x117 := by kernel_rfl
def f87_0 (c : Orc) (lf : Nat) (l0 : List T) : Nat → Int → Option (List T)
  | 0 => fun _ => none
  | n + 1 => fun x117 => f87_0_s c lf l0 (f87_0 c lf l0 n) x117
theorem f87_0_u (c : Orc) (lf : Nat) (l0 : List T) (n : Nat) (x117 : Int) : f87_0 c lf l0 (n + 1) x117 = f87_0_s c lf l0 (f87_0 c lf l0 n) x117 := rfl
theorem f87_0_eq (c : Orc) (lf : Nat) (l0 : List T) (n : Nat) (x117 : Int) :
    lpK c env lf 6 fi87 1 2 [] [0, 3] (x87_2_0) n (f87_0_c l0 x117) = f87_0 c lf l0 n x117 := by
  induction n generalizing x117 with
  | zero => rfl
  | succ n ih =>
    refine (f87_0_round c lf l0 _ x117).trans ?_
    have e : (fun x117 => lpK c env lf 6 fi87 1 2 [] [0, 3] (x87_2_0) n (f87_0_c l0 x117)) = f87_0 c lf l0 n := by funext x117; exact ih x117
    show f87_0_s c lf l0 (fun x117 => lpK c env lf 6 fi87 1 2 [] [0, 3] (x87_2_0) n (f87_0_c l0 x117)) x117 = _
    rw [e]; rfl
/-- loop.example/g00285/spec.l3Ents -/
def f87_t (c : Orc) (lf : Nat) (lp0 : List T → Int → Option (List T)) (l0 : List T) : Option (List T) :=
  (lp0 l0 0).bind fun r120 =>
  bif asI (nth r120 0) == 0 then
    some [T.b (asB (nth r120 1))]
  else
    some [T.b (iLe ((asL (nth r120 1)).length : Int) 10)]
def f87 (c : Orc) (lf : Nat) (l0 : List T) : Option (List T) := f87_t c lf (fun (l0 : List T) (x117 : Int) => f87_0 c lf l0 lf x117) l0
theorem f87_raw (c : Orc) (lf : Nat) (l0 : List T) : funK c env lf 6 fi87 [.sl l0] = f87_t c lf (fun (l0 : List T) (x117 : Int) => lpK c env lf 6 fi87 1 2 [] [0, 3] (x87_2_0) lf (f87_0_c l0 x117)) l0 := by kernel_rfl
theorem f87_eq (c : Orc) (lf : Nat) (l0 : List T) : funK c env lf 6 fi87 [.sl l0] = f87 c lf l0 := by
  refine (f87_raw c lf l0).trans ?_
  have e0 : (fun (l0 : List T) (x117 : Int) => lpK c env lf 6 fi87 1 2 [] [0, 3] (x87_2_0) lf (f87_0_c l0 x117)) = (fun (l0 : List T) (x117 : Int) => f87_0 c lf l0 lf x117) := by funext l0 x117; exact f87_0_eq c lf l0 lf x117
  rw [e0]; rfl
/-- loop.example/g00285/spec.l3Attrs, the loop at region 2. -/
def f88_0_s (c : Orc) (lf : Nat) (l0 : List T) (L : Int → Option (List T)) (x129 : Int) : Option (List T) :=
  bif iLt x129 (l0.length : Int) then
    bif inR x129 l0.length then
    (c 109 [T.s (asS (T.cell (l0.getD x129.toNat T.u) 0))]).bind fun r130 =>
    bif !(asB (nth r130 0)) then
      some [T.i .i64 0, T.b false]
    else
      bif inR x129 l0.length then
      (c 77 [T.i .i64 ((asS (T.cell (l0.getD x129.toNat T.u) 1)).size : Int), T.i .i64 1, T.i .i64 16]).bind fun r131 =>
      bif !(asB (nth r131 0)) then
        some [T.i .i64 0, T.b false]
      else
        bif iLt 0 x129 then
          bif inR (IntKind.wrap .i64 (x129 - 1)) l0.length then
          bif inR x129 l0.length then
          bif !(Op.bytesLess (asS (T.cell (l0.getD ((IntKind.wrap .i64 (x129 - 1)).toNat) T.u) 0)).toList (asS (T.cell (l0.getD x129.toNat T.u) 0)).toList) then
            some [T.i .i64 0, T.b false]
          else
            L (IntKind.wrap .i64 (x129 + 1))
          else none
          else none
        else
          L (IntKind.wrap .i64 (x129 + 1))
      else none
    else none
  else
    some [T.i .i64 1, T.sl l0]
def f88_0_c (l0 : List T) (x129 : Int) : CSt := ⟨[.ro 0 true [.s, .s] l0, .i .i64 x129], [.dead]⟩
theorem f88_0_round (c : Orc) (lf : Nat) (l0 : List T) (L : CSt → Option (List T)) (x129 : Int) :
    roundK c env lf 6 fi88 1 2 [] [0, 3] (x88_2_0) L (f88_0_c l0 x129) = f88_0_s c lf l0 (fun x129 => L (f88_0_c l0 x129)) x129 := by kernel_rfl
def f88_0 (c : Orc) (lf : Nat) (l0 : List T) : Nat → Int → Option (List T)
  | 0 => fun _ => none
  | n + 1 => fun x129 => f88_0_s c lf l0 (f88_0 c lf l0 n) x129
theorem f88_0_u (c : Orc) (lf : Nat) (l0 : List T) (n : Nat) (x129 : Int) : f88_0 c lf l0 (n + 1) x129 = f88_0_s c lf l0 (f88_0 c lf l0 n) x129 := rfl
theorem f88_0_eq (c : Orc) (lf : Nat) (l0 : List T) (n : Nat) (x129 : Int) :
    lpK c env lf 6 fi88 1 2 [] [0, 3] (x88_2_0) n (f88_0_c l0 x129) = f88_0 c lf l0 n x129 := by
  induction n generalizing x129 with
  | zero => rfl
  | succ n ih =>
    refine (f88_0_round c lf l0 _ x129).trans ?_
    have e : (fun x129 => lpK c env lf 6 fi88 1 2 [] [0, 3] (x88_2_0) n (f88_0_c l0 x129)) = f88_0 c lf l0 n := by funext x129; exact ih x129
    show f88_0_s c lf l0 (fun x129 => lpK c env lf 6 fi88 1 2 [] [0, 3] (x88_2_0) n (f88_0_c l0 x129)) x129 = _
    rw [e]; rfl
/-- loop.example/g00285/spec.l3Attrs -/
def f88_t (c : Orc) (lf : Nat) (lp0 : List T → Int → Option (List T)) (l0 : List T) : Option (List T) :=
  (lp0 l0 0).bind fun r132 =>
  bif asI (nth r132 0) == 0 then
    some [T.b (asB (nth r132 1))]
  else
    some [T.b (iLe ((asL (nth r132 1)).length : Int) 4)]
def f88 (c : Orc) (lf : Nat) (l0 : List T) : Option (List T) := f88_t c lf (fun (l0 : List T) (x129 : Int) => f88_0 c lf l0 lf x129) l0
theorem f88_raw (c : Orc) (lf : Nat) (l0 : List T) : funK c env lf 6 fi88 [.sl l0] = f88_t c lf (fun (l0 : List T) (x129 : Int) => lpK c env lf 6 fi88 1 2 [] [0, 3] (x88_2_0) lf (f88_0_c l0 x129)) l0 := by kernel_rfl
theorem f88_eq (c : Orc) (lf : Nat) (l0 : List T) : funK c env lf 6 fi88 [.sl l0] = f88 c lf l0 := by
  refine (f88_raw c lf l0).trans ?_
  have e0 : (fun (l0 : List T) (x129 : Int) => lpK c env lf 6 fi88 1 2 [] [0, 3] (x88_2_0) lf (f88_0_c l0 x129)) = (fun (l0 : List T) (x129 : Int) => f88_0 c lf l0 lf x129) := by funext l0 x129; exact f88_0_eq c lf l0 lf x129
  rw [e0]; rfl
/-- loop.example/g00285/spec.InodeOk -/
def f34_t (c : Orc) (lf : Nat) (n0_0 : Int) (n0_1 : Int) (n0_2 : Int) (l0_3 : List T) (l0_4 : List T) (l0_5 : List T) : Option (List T) :=
  (c 77 [T.i .i64 n0_0, T.i .i64 1, T.i .i64 1000]).bind fun r133 =>
  bif !(asB (nth r133 0)) then
    some [T.b false]
  else
    (c 77 [T.i .i64 n0_2, T.i .i64 0, T.i .i64 1000]).bind fun r134 =>
    bif !(asB (nth r134 0)) then
      some [T.b false]
    else
      bif !((n0_2 == 0) == (n0_0 == 1)) then
        some [T.b false]
      else
        bif iLt 100 (l0_3.length : Int) then
          some [T.b false]
        else
          (c 87 [T.sl l0_4]).bind fun r135 =>
          bif !(asB (nth r135 0)) then
            some [T.b false]
          else
            (c 88 [T.sl l0_5]).bind fun r136 =>
            bif !(asB (nth r136 0)) then
              some [T.b false]
            else
              bif n0_1 == 1 then
                some [T.b ((l0_4.length : Int) == 0)]
              else
                bif n0_1 == 2 then
                  bif (l0_3.length : Int) == 0 then
                    some [T.b (iLe n0_2 1)]
                  else
                    some [T.b false]
                else
                  some [T.b false]
def f34 (c : Orc) (lf : Nat) (n0_0 : Int) (n0_1 : Int) (n0_2 : Int) (l0_3 : List T) (l0_4 : List T) (l0_5 : List T) : Option (List T) := f34_t c lf n0_0 n0_1 n0_2 l0_3 l0_4 l0_5
theorem f34_raw (c : Orc) (lf : Nat) (n0_0 : Int) (n0_1 : Int) (n0_2 : Int) (l0_3 : List T) (l0_4 : List T) (l0_5 : List T) : funK c env lf 6 fi34 [.st [.i .i64 n0_0, .i .i64 n0_1, .i .i64 n0_2, .sl l0_3, .sl l0_4, .sl l0_5]] = f34_t c lf n0_0 n0_1 n0_2 l0_3 l0_4 l0_5 := by kernel_rfl
theorem f34_eq (c : Orc) (lf : Nat) (n0_0 : Int) (n0_1 : Int) (n0_2 : Int) (l0_3 : List T) (l0_4 : List T) (l0_5 : List T) : funK c env lf 6 fi34 [.st [.i .i64 n0_0, .i .i64 n0_1, .i .i64 n0_2, .sl l0_3, .sl l0_4, .sl l0_5]] = f34 c lf n0_0 n0_1 n0_2 l0_3 l0_4 l0_5 := by
  refine (f34_raw c lf n0_0 n0_1 n0_2 l0_3 l0_4 l0_5).trans ?_
  rfl
/-- loop.example/g00285/spec.PutNum, the loop at region 6. -/
def f79_0_s (c : Orc) (lf : Nat) (L : Int → List T → Option (List T)) (x144 : Int) (x145 : List T) : Option (List T) :=
  bif iLt 127 x144 then
    bif nLe (x145.length + ([T.i .u8 (IntKind.wrap .u8 (intBits .or .i64 (intBits .and .i64 x144 127) 128))] : List T).length) LIM then
    L (shiftI .shr .i64 x144 7) (x145 ++ ([T.i .u8 (IntKind.wrap .u8 (intBits .or .i64 (intBits .and .i64 x144 127) 128))] : List T))
    else none
  else
    some [T.i .i64 0, T.i .i64 x144, T.sl x145]
def f79_0_c (x144 : Int) (x145 : List T) : CSt := ⟨[.i .i64 x144, .rf 2 [] 0 none], [.dead, .dead, .row false [.i .u8] x145 0 false]⟩
theorem f79_0_round (c : Orc) (lf : Nat) (L : CSt → Option (List T)) (x144 : Int) (x145 : List T) :
    roundK c env lf 6 fi79 2 6 [] [1, 5] (x79_6_0) L (f79_0_c x144 x145) = f79_0_s c lf (fun x144 x145 => L (f79_0_c x144 x145)) x144 x145 := by kernel_rfl
def f79_0 (c : Orc) (lf : Nat) : Nat → Int → List T → Option (List T)
  | 0 => fun _ _ => none
  | n + 1 => fun x144 x145 => f79_0_s c lf (f79_0 c lf n) x144 x145
theorem f79_0_u (c : Orc) (lf : Nat) (n : Nat) (x144 : Int) (x145 : List T) : f79_0 c lf (n + 1) x144 x145 = f79_0_s c lf (f79_0 c lf n) x144 x145 := rfl
theorem f79_0_eq (c : Orc) (lf : Nat) (n : Nat) (x144 : Int) (x145 : List T) :
    lpK c env lf 6 fi79 2 6 [] [1, 5] (x79_6_0) n (f79_0_c x144 x145) = f79_0 c lf n x144 x145 := by
  induction n generalizing x144 x145 with
  | zero => rfl
  | succ n ih =>
    refine (f79_0_round c lf _ x144 x145).trans ?_
    have e : (fun x144 x145 => lpK c env lf 6 fi79 2 6 [] [1, 5] (x79_6_0) n (f79_0_c x144 x145)) = f79_0 c lf n := by funext x144 x145; exact ih x144 x145
    show f79_0_s c lf (fun x144 x145 => lpK c env lf 6 fi79 2 6 [] [1, 5] (x79_6_0) n (f79_0_c x144 x145)) x144 x145 = _
    rw [e]; rfl
/-- loop.example/g00285/spec.PutNum, the loop at region 6. -/
def f79_1_s (c : Orc) (lf : Nat) (l0 : List T) (L : Unit → Option (List T)) : Option (List T) :=
  some [T.i .i64 0, T.i .i64 0, T.sl (([] : List T) ++ l0)]
def f79_1_c (l0 : List T) : CSt := ⟨[.i .i64 0, .rf 2 [] 0 none], [.dead, .dead, .row false [.i .u8] (([] : List T) ++ l0) 0 false]⟩
theorem f79_1_round (c : Orc) (lf : Nat) (l0 : List T) (L : CSt → Option (List T)) :
    roundK c env lf 6 fi79 2 6 [] [1, 5] (x79_6_0) L (f79_1_c l0) = f79_1_s c lf l0 (fun _ => L (f79_1_c l0)) := by kernel_rfl
def f79_1 (c : Orc) (lf : Nat) (l0 : List T) : Nat → Unit → Option (List T)
  | 0 => fun _ => none
  | n + 1 => fun _ => f79_1_s c lf l0 (f79_1 c lf l0 n)
theorem f79_1_u (c : Orc) (lf : Nat) (l0 : List T) (n : Nat) : f79_1 c lf l0 (n + 1) () = f79_1_s c lf l0 (f79_1 c lf l0 n) := rfl
theorem f79_1_eq (c : Orc) (lf : Nat) (l0 : List T) (n : Nat) :
    lpK c env lf 6 fi79 2 6 [] [1, 5] (x79_6_0) n (f79_1_c l0) = f79_1 c lf l0 n () := by
  induction n with
  | zero => rfl
  | succ n ih =>
    refine (f79_1_round c lf l0 _).trans ?_
    have e : (fun (_ : Unit) => lpK c env lf 6 fi79 2 6 [] [1, 5] (x79_6_0) n (f79_1_c l0)) = f79_1 c lf l0 n := by funext _; exact ih
    show f79_1_s c lf l0 (fun _ => lpK c env lf 6 fi79 2 6 [] [1, 5] (x79_6_0) n (f79_1_c l0)) = _
    rw [e]; rfl
/-- loop.example/g00285/spec.PutNum, the loop at region 6. -/
def f79_2_s (c : Orc) (lf : Nat) (L : Int → List T → Option (List T)) (x148 : Int) (x149 : List T) : Option (List T) :=
  bif iLt 127 x148 then
    bif nLe (x149.length + ([T.i .u8 (IntKind.wrap .u8 (intBits .or .i64 (intBits .and .i64 x148 127) 128))] : List T).length) LIM then
    L (shiftI .shr .i64 x148 7) (x149 ++ ([T.i .u8 (IntKind.wrap .u8 (intBits .or .i64 (intBits .and .i64 x148 127) 128))] : List T))
    else none
  else
    some [T.i .i64 0, T.i .i64 x148, T.sl x149]
def f79_2_c (x148 : Int) (x149 : List T) : CSt := ⟨[.i .i64 x148, .rf 2 [] 0 none], [.dead, .dead, .row false [.i .u8] x149 0 false]⟩
theorem f79_2_round (c : Orc) (lf : Nat) (L : CSt → Option (List T)) (x148 : Int) (x149 : List T) :
    roundK c env lf 6 fi79 2 6 [] [1, 5] (x79_6_0) L (f79_2_c x148 x149) = f79_2_s c lf (fun x148 x149 => L (f79_2_c x148 x149)) x148 x149 := by kernel_rfl
def f79_2 (c : Orc) (lf : Nat) : Nat → Int → List T → Option (List T)
  | 0 => fun _ _ => none
  | n + 1 => fun x148 x149 => f79_2_s c lf (f79_2 c lf n) x148 x149
theorem f79_2_u (c : Orc) (lf : Nat) (n : Nat) (x148 : Int) (x149 : List T) : f79_2 c lf (n + 1) x148 x149 = f79_2_s c lf (f79_2 c lf n) x148 x149 := rfl
theorem f79_2_eq (c : Orc) (lf : Nat) (n : Nat) (x148 : Int) (x149 : List T) :
    lpK c env lf 6 fi79 2 6 [] [1, 5] (x79_6_0) n (f79_2_c x148 x149) = f79_2 c lf n x148 x149 := by
  induction n generalizing x148 x149 with
  | zero => rfl
  | succ n ih =>
    refine (f79_2_round c lf _ x148 x149).trans ?_
    have e : (fun x148 x149 => lpK c env lf 6 fi79 2 6 [] [1, 5] (x79_6_0) n (f79_2_c x148 x149)) = f79_2 c lf n := by funext x148 x149; exact ih x148 x149
    show f79_2_s c lf (fun x148 x149 => lpK c env lf 6 fi79 2 6 [] [1, 5] (x79_6_0) n (f79_2_c x148 x149)) x148 x149 = _
    rw [e]; rfl
/-- loop.example/g00285/spec.PutNum -/
def f79_t (c : Orc) (lf : Nat) (lp0 : Int → List T → Option (List T)) (lp1 : List T → Option (List T)) (lp2 : Int → List T → Option (List T)) (l0 : List T) (n1 : Int) : Option (List T) :=
  bif nLe (([] : List T).length + l0.length) LIM then
  bif iLt 1000000 n1 then
    (lp0 1000000 (([] : List T) ++ l0)).bind fun r146 =>
    bif nLe ((asL (nth r146 2)).length + ([T.i .u8 (IntKind.wrap .u8 (asI (nth r146 1)))] : List T).length) LIM then
    some [T.sl ((asL (nth r146 2)) ++ ([T.i .u8 (IntKind.wrap .u8 (asI (nth r146 1)))] : List T))]
    else none
  else
    bif iLt n1 0 then
      (lp1 l0).bind fun r147 =>
      bif nLe ((asL (nth r147 2)).length + ([T.i .u8 (IntKind.wrap .u8 (asI (nth r147 1)))] : List T).length) LIM then
      some [T.sl ((asL (nth r147 2)) ++ ([T.i .u8 (IntKind.wrap .u8 (asI (nth r147 1)))] : List T))]
      else none
    else
      (lp2 n1 (([] : List T) ++ l0)).bind fun r150 =>
      bif nLe ((asL (nth r150 2)).length + ([T.i .u8 (IntKind.wrap .u8 (asI (nth r150 1)))] : List T).length) LIM then
      some [T.sl ((asL (nth r150 2)) ++ ([T.i .u8 (IntKind.wrap .u8 (asI (nth r150 1)))] : List T))]
      else none
  else none
def f79 (c : Orc) (lf : Nat) (l0 : List T) (n1 : Int) : Option (List T) := f79_t c lf (fun (x144 : Int) (x145 : List T) => f79_0 c lf lf x144 x145) (fun (l0 : List T) => f79_1 c lf l0 lf ()) (fun (x148 : Int) (x149 : List T) => f79_2 c lf lf x148 x149) l0 n1
theorem f79_raw (c : Orc) (lf : Nat) (l0 : List T) (n1 : Int) : funK c env lf 6 fi79 [.sl l0, .i .i64 n1] = f79_t c lf (fun (x144 : Int) (x145 : List T) => lpK c env lf 6 fi79 2 6 [] [1, 5] (x79_6_0) lf (f79_0_c x144 x145)) (fun (l0 : List T) => lpK c env lf 6 fi79 2 6 [] [1, 5] (x79_6_0) lf (f79_1_c l0)) (fun (x148 : Int) (x149 : List T) => lpK c env lf 6 fi79 2 6 [] [1, 5] (x79_6_0) lf (f79_2_c x148 x149)) l0 n1 := by kernel_rfl
theorem f79_eq (c : Orc) (lf : Nat) (l0 : List T) (n1 : Int) : funK c env lf 6 fi79 [.sl l0, .i .i64 n1] = f79 c lf l0 n1 := by
  refine (f79_raw c lf l0 n1).trans ?_
  have e0 : (fun (x144 : Int) (x145 : List T) => lpK c env lf 6 fi79 2 6 [] [1, 5] (x79_6_0) lf (f79_0_c x144 x145)) = (fun (x144 : Int) (x145 : List T) => f79_0 c lf lf x144 x145) := by funext x144 x145; exact f79_0_eq c lf lf x144 x145
  have e1 : (fun (l0 : List T) => lpK c env lf 6 fi79 2 6 [] [1, 5] (x79_6_0) lf (f79_1_c l0)) = (fun (l0 : List T) => f79_1 c lf l0 lf ()) := by funext l0; exact f79_1_eq c lf l0 lf
  have e2 : (fun (x148 : Int) (x149 : List T) => lpK c env lf 6 fi79 2 6 [] [1, 5] (x79_6_0) lf (f79_2_c x148 x149)) = (fun (x148 : Int) (x149 : List T) => f79_2 c lf lf x148 x149) := by funext x148 x149; exact f79_2_eq c lf lf x148 x149
  rw [e0, e1, e2]; rfl
/-- loop.example/g00285/spec.PutText -/
def f80_t (c : Orc) (lf : Nat) (l0 : List T) (s1 : ByteArray) : Option (List T) :=
  (c 79 [T.sl l0, T.i .i64 (s1.size : Int)]).bind fun r151 =>
  bif nLe ((asL (nth r151 0)).length + (listOf s1).length) LIM then
  some [T.sl ((asL (nth r151 0)) ++ (listOf s1))]
  else none
def f80 (c : Orc) (lf : Nat) (l0 : List T) (s1 : ByteArray) : Option (List T) := f80_t c lf l0 s1
theorem f80_raw (c : Orc) (lf : Nat) (l0 : List T) (s1 : ByteArray) : funK c env lf 6 fi80 [.sl l0, .s s1] = f80_t c lf l0 s1 := by kernel_rfl
theorem f80_eq (c : Orc) (lf : Nat) (l0 : List T) (s1 : ByteArray) : funK c env lf 6 fi80 [.sl l0, .s s1] = f80 c lf l0 s1 := by
  refine (f80_raw c lf l0 s1).trans ?_
  rfl
/-- loop.example/g00285/spec.PutInode, the loop at region 6. -/
def f116_0_s (c : Orc) (lf : Nat) (l0_3 : List T) (l0_4 : List T) (l0_5 : List T) (n0_0 : Int) (n0_1 : Int) (n0_2 : Int) (L : Int → List T → Option (List T)) (x181 : Int) (x182 : List T) : Option (List T) :=
  bif iLt x181 (l0_4.length : Int) then
    bif inR x181 l0_4.length then
    (c 80 [T.sl x182, T.s (asS (T.cell (l0_4.getD x181.toNat T.u) 0))]).bind fun r183 =>
    bif inR x181 l0_4.length then
    (c 79 [T.sl (asL (nth r183 0)), T.i .i64 (asI (T.cell (l0_4.getD x181.toNat T.u) 1))]).bind fun r184 =>
    L (IntKind.wrap .i64 (x181 + 1)) (asL (nth r184 0))
    else none
    else none
  else
    some [T.i .i64 0, T.i .i64 n0_0, T.i .i64 n0_1, T.i .i64 n0_2, T.sl l0_3, T.sl l0_4, T.sl l0_5, T.sl x182]
def f116_0_c (l0_3 : List T) (l0_4 : List T) (l0_5 : List T) (n0_0 : Int) (n0_1 : Int) (n0_2 : Int) (x181 : Int) (x182 : List T) : CSt := ⟨[.bp 6 0, .rf 7 [] 0 none, .i .i64 x181], [.dead, .dead, .dead, .dead, .dead, .dead, .box [.i .i64 n0_0, .i .i64 n0_1, .i .i64 n0_2, .ro 0 false [.i .u8] l0_3, .ro 0 true [.s, .i .i64] l0_4, .ro 0 true [.s, .s] l0_5], .row false [.i .u8] x182 0 false]⟩
theorem f116_0_round (c : Orc) (lf : Nat) (l0_3 : List T) (l0_4 : List T) (l0_5 : List T) (n0_0 : Int) (n0_1 : Int) (n0_2 : Int) (L : CSt → Option (List T)) (x181 : Int) (x182 : List T) :
    roundK c env lf 6 fi116 6 6 [] [1, 3, 4] (x116_6_0) L (f116_0_c l0_3 l0_4 l0_5 n0_0 n0_1 n0_2 x181 x182) = f116_0_s c lf l0_3 l0_4 l0_5 n0_0 n0_1 n0_2 (fun x181 x182 => L (f116_0_c l0_3 l0_4 l0_5 n0_0 n0_1 n0_2 x181 x182)) x181 x182 := by kernel_rfl
def f116_0 (c : Orc) (lf : Nat) (l0_3 : List T) (l0_4 : List T) (l0_5 : List T) (n0_0 : Int) (n0_1 : Int) (n0_2 : Int) : Nat → Int → List T → Option (List T)
  | 0 => fun _ _ => none
  | n + 1 => fun x181 x182 => f116_0_s c lf l0_3 l0_4 l0_5 n0_0 n0_1 n0_2 (f116_0 c lf l0_3 l0_4 l0_5 n0_0 n0_1 n0_2 n) x181 x182
theorem f116_0_u (c : Orc) (lf : Nat) (l0_3 : List T) (l0_4 : List T) (l0_5 : List T) (n0_0 : Int) (n0_1 : Int) (n0_2 : Int) (n : Nat) (x181 : Int) (x182 : List T) : f116_0 c lf l0_3 l0_4 l0_5 n0_0 n0_1 n0_2 (n + 1) x181 x182 = f116_0_s c lf l0_3 l0_4 l0_5 n0_0 n0_1 n0_2 (f116_0 c lf l0_3 l0_4 l0_5 n0_0 n0_1 n0_2 n) x181 x182 := rfl
theorem f116_0_eq (c : Orc) (lf : Nat) (l0_3 : List T) (l0_4 : List T) (l0_5 : List T) (n0_0 : Int) (n0_1 : Int) (n0_2 : Int) (n : Nat) (x181 : Int) (x182 : List T) :
    lpK c env lf 6 fi116 6 6 [] [1, 3, 4] (x116_6_0) n (f116_0_c l0_3 l0_4 l0_5 n0_0 n0_1 n0_2 x181 x182) = f116_0 c lf l0_3 l0_4 l0_5 n0_0 n0_1 n0_2 n x181 x182 := by
  induction n generalizing x181 x182 with
  | zero => rfl
  | succ n ih =>
    refine (f116_0_round c lf l0_3 l0_4 l0_5 n0_0 n0_1 n0_2 _ x181 x182).trans ?_
    have e : (fun x181 x182 => lpK c env lf 6 fi116 6 6 [] [1, 3, 4] (x116_6_0) n (f116_0_c l0_3 l0_4 l0_5 n0_0 n0_1 n0_2 x181 x182)) = f116_0 c lf l0_3 l0_4 l0_5 n0_0 n0_1 n0_2 n := by funext x181 x182; exact ih x181 x182
    show f116_0_s c lf l0_3 l0_4 l0_5 n0_0 n0_1 n0_2 (fun x181 x182 => lpK c env lf 6 fi116 6 6 [] [1, 3, 4] (x116_6_0) n (f116_0_c l0_3 l0_4 l0_5 n0_0 n0_1 n0_2 x181 x182)) x181 x182 = _
    rw [e]; rfl
/-- loop.example/g00285/spec.PutInode, the loop at region 11. -/
def f116_1_s (c : Orc) (lf : Nat) (r185 : List T) (L : Int → List T → Option (List T)) (x189 : Int) (x190 : List T) : Option (List T) :=
  bif iLt x189 ((asL (nth r185 6)).length : Int) then
    bif inR x189 ((asL (nth r185 6)).length) then
    (c 80 [T.sl x190, T.s (asS (T.cell ((asL (nth r185 6)).getD x189.toNat T.u) 0))]).bind fun r191 =>
    bif inR x189 ((asL (nth r185 6)).length) then
    (c 80 [T.sl (asL (nth r191 0)), T.s (asS (T.cell ((asL (nth r185 6)).getD x189.toNat T.u) 1))]).bind fun r192 =>
    L (IntKind.wrap .i64 (x189 + 1)) (asL (nth r192 0))
    else none
    else none
  else
    some [T.i .i64 0, T.sl x190]
def f116_1_c (r185 : List T) (x189 : Int) (x190 : List T) : CSt := ⟨[.bp 6 0, .rf 7 [] 0 none, .i .i64 x189], [.dead, .dead, .dead, .dead, .dead, .dead, .box [.i .i64 (asI (nth r185 1)), .i .i64 (asI (nth r185 2)), .i .i64 (asI (nth r185 3)), .ro 0 false [.i .u8] (asL (nth r185 4)), .ro 0 true [.s, .i .i64] (asL (nth r185 5)), .ro 0 true [.s, .s] (asL (nth r185 6))], .row false [.i .u8] x190 0 false]⟩
theorem f116_1_round (c : Orc) (lf : Nat) (r185 : List T) (L : CSt → Option (List T)) (x189 : Int) (x190 : List T) :
    roundK c env lf 6 fi116 6 11 [] [1, 3, 5] (x116_11_0) L (f116_1_c r185 x189 x190) = f116_1_s c lf r185 (fun x189 x190 => L (f116_1_c r185 x189 x190)) x189 x190 := by kernel_rfl
def f116_1 (c : Orc) (lf : Nat) (r185 : List T) : Nat → Int → List T → Option (List T)
  | 0 => fun _ _ => none
  | n + 1 => fun x189 x190 => f116_1_s c lf r185 (f116_1 c lf r185 n) x189 x190
theorem f116_1_u (c : Orc) (lf : Nat) (r185 : List T) (n : Nat) (x189 : Int) (x190 : List T) : f116_1 c lf r185 (n + 1) x189 x190 = f116_1_s c lf r185 (f116_1 c lf r185 n) x189 x190 := rfl
theorem f116_1_eq (c : Orc) (lf : Nat) (r185 : List T) (n : Nat) (x189 : Int) (x190 : List T) :
    lpK c env lf 6 fi116 6 11 [] [1, 3, 5] (x116_11_0) n (f116_1_c r185 x189 x190) = f116_1 c lf r185 n x189 x190 := by
  induction n generalizing x189 x190 with
  | zero => rfl
  | succ n ih =>
    refine (f116_1_round c lf r185 _ x189 x190).trans ?_
    have e : (fun x189 x190 => lpK c env lf 6 fi116 6 11 [] [1, 3, 5] (x116_11_0) n (f116_1_c r185 x189 x190)) = f116_1 c lf r185 n := by funext x189 x190; exact ih x189 x190
    show f116_1_s c lf r185 (fun x189 x190 => lpK c env lf 6 fi116 6 11 [] [1, 3, 5] (x116_11_0) n (f116_1_c r185 x189 x190)) x189 x190 = _
    rw [e]; rfl
/-- loop.example/g00285/spec.PutInode -/
def f116_t (c : Orc) (lf : Nat) (lp0 : List T → List T → List T → Int → Int → Int → Int → List T → Option (List T)) (lp1 : List T → Int → List T → Option (List T)) (n0_0 : Int) (n0_1 : Int) (n0_2 : Int) (l0_3 : List T) (l0_4 : List T) (l0_5 : List T) : Option (List T) :=
  (c 34 [T.st [T.i .i64 n0_0, T.i .i64 n0_1, T.i .i64 n0_2, T.sl l0_3, T.sl l0_4, T.sl l0_5]]).bind fun r173 =>
  bif !(asB (nth r173 0)) then
    some [T.sl ([] : List T)]
  else
    (c 79 [T.sl ([] : List T), T.i .i64 n0_0]).bind fun r174 =>
    (c 79 [T.sl (asL (nth r174 0)), T.i .i64 n0_1]).bind fun r175 =>
    (c 79 [T.sl (asL (nth r175 0)), T.i .i64 n0_2]).bind fun r176 =>
    (c 80 [T.sl (asL (nth r176 0)), T.s (bytesOf l0_3)]).bind fun r177 =>
    (c 79 [T.sl (asL (nth r177 0)), T.i .i64 (l0_4.length : Int)]).bind fun r178 =>
    (lp0 l0_3 l0_4 l0_5 n0_0 n0_1 n0_2 0 (asL (nth r178 0))).bind fun r185 =>
    (c 79 [T.sl (asL (nth r185 7)), T.i .i64 ((asL (nth r185 6)).length : Int)]).bind fun r186 =>
    (lp1 r185 0 (asL (nth r186 0))).bind fun r193 =>
    some [T.sl (asL (nth r193 1))]
def f116 (c : Orc) (lf : Nat) (n0_0 : Int) (n0_1 : Int) (n0_2 : Int) (l0_3 : List T) (l0_4 : List T) (l0_5 : List T) : Option (List T) := f116_t c lf (fun (l0_3 : List T) (l0_4 : List T) (l0_5 : List T) (n0_0 : Int) (n0_1 : Int) (n0_2 : Int) (x181 : Int) (x182 : List T) => f116_0 c lf l0_3 l0_4 l0_5 n0_0 n0_1 n0_2 lf x181 x182) (fun (r185 : List T) (x189 : Int) (x190 : List T) => f116_1 c lf r185 lf x189 x190) n0_0 n0_1 n0_2 l0_3 l0_4 l0_5
theorem f116_raw (c : Orc) (lf : Nat) (n0_0 : Int) (n0_1 : Int) (n0_2 : Int) (l0_3 : List T) (l0_4 : List T) (l0_5 : List T) : funK c env lf 6 fi116 [.st [.i .i64 n0_0, .i .i64 n0_1, .i .i64 n0_2, .sl l0_3, .sl l0_4, .sl l0_5]] = f116_t c lf (fun (l0_3 : List T) (l0_4 : List T) (l0_5 : List T) (n0_0 : Int) (n0_1 : Int) (n0_2 : Int) (x181 : Int) (x182 : List T) => lpK c env lf 6 fi116 6 6 [] [1, 3, 4] (x116_6_0) lf (f116_0_c l0_3 l0_4 l0_5 n0_0 n0_1 n0_2 x181 x182)) (fun (r185 : List T) (x189 : Int) (x190 : List T) => lpK c env lf 6 fi116 6 11 [] [1, 3, 5] (x116_11_0) lf (f116_1_c r185 x189 x190)) n0_0 n0_1 n0_2 l0_3 l0_4 l0_5 := by kernel_rfl
theorem f116_eq (c : Orc) (lf : Nat) (n0_0 : Int) (n0_1 : Int) (n0_2 : Int) (l0_3 : List T) (l0_4 : List T) (l0_5 : List T) : funK c env lf 6 fi116 [.st [.i .i64 n0_0, .i .i64 n0_1, .i .i64 n0_2, .sl l0_3, .sl l0_4, .sl l0_5]] = f116 c lf n0_0 n0_1 n0_2 l0_3 l0_4 l0_5 := by
  refine (f116_raw c lf n0_0 n0_1 n0_2 l0_3 l0_4 l0_5).trans ?_
  have e0 : (fun (l0_3 : List T) (l0_4 : List T) (l0_5 : List T) (n0_0 : Int) (n0_1 : Int) (n0_2 : Int) (x181 : Int) (x182 : List T) => lpK c env lf 6 fi116 6 6 [] [1, 3, 4] (x116_6_0) lf (f116_0_c l0_3 l0_4 l0_5 n0_0 n0_1 n0_2 x181 x182)) = (fun (l0_3 : List T) (l0_4 : List T) (l0_5 : List T) (n0_0 : Int) (n0_1 : Int) (n0_2 : Int) (x181 : Int) (x182 : List T) => f116_0 c lf l0_3 l0_4 l0_5 n0_0 n0_1 n0_2 lf x181 x182) := by funext l0_3 l0_4 l0_5 n0_0 n0_1 n0_2 x181 x182; exact f116_0_eq c lf l0_3 l0_4 l0_5 n0_0 n0_1 n0_2 lf x181 x182
  have e1 : (fun (r185 : List T) (x189 : Int) (x190 : List T) => lpK c env lf 6 fi116 6 11 [] [1, 3, 5] (x116_11_0) lf (f116_1_c r185 x189 x190)) = (fun (r185 : List T) (x189 : Int) (x190 : List T) => f116_1 c lf r185 lf x189 x190) := by funext r185 x189 x190; exact f116_1_eq c lf r185 lf x189 x190
  rw [e0, e1]; rfl
/-- loop.example/g00285/spec.DrawGetInode -/
def f58_t (c : Orc) (lf : Nat) (l0 : List T) : Option (List T) :=
  (c 65 [T.sl l0]).bind fun r194 =>
  (c 117 [T.st [T.sl (asL (T.cell (nth r194 0) 0)), T.i .i64 (asI (T.cell (nth r194 0) 1)), T.i .i64 (asI (T.cell (nth r194 0) 2))]]).bind fun r195 =>
  (c 116 [T.st [T.i .i64 (asI (T.cell (nth r195 0) 0)), T.i .i64 (asI (T.cell (nth r195 0) 1)), T.i .i64 (asI (T.cell (nth r195 0) 2)), T.sl (asL (T.cell (nth r195 0) 3)), T.sl (asL (T.cell (nth r195 0) 4)), T.sl (asL (T.cell (nth r195 0) 5))]]).bind fun r196 =>
  (c 70 [T.st [T.sl (asL (T.cell (nth r194 0) 0)), T.i .i64 (asI (T.cell (nth r195 1) 1)), T.i .i64 (asI (T.cell (nth r195 1) 2))], T.i .i64 5]).bind fun r197 =>
  bif (asI (nth r197 0)) == 0 then
    (c 70 [T.st [T.sl (asL (T.cell (nth r194 0) 0)), T.i .i64 (asI (T.cell (nth r197 1) 1)), T.i .i64 (asI (T.cell (nth r197 1) 2))], T.i .i64 ((asL (nth r196 0)).length : Int)]).bind fun r198 =>
    (c 71 [T.st [T.sl (asL (T.cell (nth r194 0) 0)), T.i .i64 (asI (T.cell (nth r198 1) 1)), T.i .i64 (asI (T.cell (nth r198 1) 2))], T.sl ([T.i .i64 0, T.i .i64 1, T.i .i64 2, T.i .i64 97, T.i .i64 128] : List T)]).bind fun r199 =>
    bif inR (asI (nth r198 0)) ((asL (nth r196 0)).length) then
    some [T.sl ((asL (nth r196 0)).set ((asI (nth r198 0)).toNat) (T.i .u8 (IntKind.wrap .u8 (asI (nth r199 0)))))]
    else none
  else
    bif (asI (nth r197 0)) == 1 then
      (c 70 [T.st [T.sl (asL (T.cell (nth r194 0) 0)), T.i .i64 (asI (T.cell (nth r197 1) 1)), T.i .i64 (asI (T.cell (nth r197 1) 2))], T.i .i64 ((asL (nth r196 0)).length : Int)]).bind fun r200 =>
      bif iLe 0 0 && iLe 0 (asI (nth r200 0)) && iLe (asI (nth r200 0)) ((asL (nth r196 0)).length : Int) then
      some [T.sl (((asL (nth r196 0)).drop 0).take (((asI (nth r200 0)).toNat) - 0))]
      else none
    else
      bif (asI (nth r197 0)) == 2 then
        bif nLe ((asL (nth r196 0)).length + ([T.i .u8 0] : List T).length) LIM then
        some [T.sl ((asL (nth r196 0)) ++ ([T.i .u8 0] : List T))]
        else none
      else
        some [T.sl (asL (nth r196 0))]
def f58 (c : Orc) (lf : Nat) (l0 : List T) : Option (List T) := f58_t c lf l0
theorem f58_raw (c : Orc) (lf : Nat) (l0 : List T) : funK c env lf 6 fi58 [.sl l0] = f58_t c lf l0 := by kernel_rfl
theorem f58_eq (c : Orc) (lf : Nat) (l0 : List T) : funK c env lf 6 fi58 [.sl l0] = f58 c lf l0 := by
  refine (f58_raw c lf l0).trans ?_
  rfl
/-- loop.example/g00285/impl.GetNum, the loop at region 6. -/
def f125_0_s (c : Orc) (lf : Nat) (l0 : List T) (n1 : Int) (L : Int → Int → Int → Option (List T)) (x205 : Int) (x206 : Int) (x207 : Int) : Option (List T) :=
  bif iLt x207 3 then
    bif iLt n1 (IntKind.wrap .i64 ((l0.length : Int) - x207)) then
      bif inR (IntKind.wrap .i64 (n1 + x207)) l0.length then
      bif iLe 128 (IntKind.wrap .i64 (asI (l0.getD ((IntKind.wrap .i64 (n1 + x207)).toNat) T.u))) then
        L (IntKind.wrap .i64 (x205 + (IntKind.wrap .i64 (((IntKind.wrap .i64 (asI (l0.getD ((IntKind.wrap .i64 (n1 + x207)).toNat) T.u))).tmod 128) * x206)))) (IntKind.wrap .i64 (x206 * 128)) (IntKind.wrap .i64 (x207 + 1))
      else
        bif iLt 1000000 (IntKind.wrap .i64 (x205 + (IntKind.wrap .i64 (((IntKind.wrap .i64 (asI (l0.getD ((IntKind.wrap .i64 (n1 + x207)).toNat) T.u))).tmod 128) * x206)))) then
          some [T.i .i64 0]
        else
          bif (IntKind.wrap .i64 (asI (l0.getD ((IntKind.wrap .i64 (n1 + x207)).toNat) T.u))) == 0 then
            bif iLt 0 x207 then
              some [T.i .i64 0]
            else
              some [T.i .i64 1, T.i .i64 (IntKind.wrap .i64 (x205 + (IntKind.wrap .i64 (((IntKind.wrap .i64 (asI (l0.getD ((IntKind.wrap .i64 (n1 + x207)).toNat) T.u))).tmod 128) * x206)))), T.i .i64 (IntKind.wrap .i64 ((IntKind.wrap .i64 (n1 + x207)) + 1)), T.b true]
          else
            some [T.i .i64 1, T.i .i64 (IntKind.wrap .i64 (x205 + (IntKind.wrap .i64 (((IntKind.wrap .i64 (asI (l0.getD ((IntKind.wrap .i64 (n1 + x207)).toNat) T.u))).tmod 128) * x206)))), T.i .i64 (IntKind.wrap .i64 ((IntKind.wrap .i64 (n1 + x207)) + 1)), T.b true]
      else none
    else
      some [T.i .i64 0]
  else
    some [T.i .i64 0]
def f125_0_c (l0 : List T) (n1 : Int) (x205 : Int) (x206 : Int) (x207 : Int) : CSt := ⟨[.ro 0 false [.i .u8] l0, .i .i64 n1, .i .i64 x205, .i .i64 x206, .i .i64 x207], [.dead, .dead]⟩
theorem f125_0_round (c : Orc) (lf : Nat) (l0 : List T) (n1 : Int) (L : CSt → Option (List T)) (x205 : Int) (x206 : Int) (x207 : Int) :
    roundK c env lf 6 fi125 2 6 [] [0, 1, 7, 8, 9] (x125_6_0) L (f125_0_c l0 n1 x205 x206 x207) = f125_0_s c lf l0 n1 (fun x205 x206 x207 => L (f125_0_c l0 n1 x205 x206 x207)) x205 x206 x207 := by kernel_rfl
def f125_0 (c : Orc) (lf : Nat) (l0 : List T) (n1 : Int) : Nat → Int → Int → Int → Option (List T)
  | 0 => fun _ _ _ => none
  | n + 1 => fun x205 x206 x207 => f125_0_s c lf l0 n1 (f125_0 c lf l0 n1 n) x205 x206 x207
theorem f125_0_u (c : Orc) (lf : Nat) (l0 : List T) (n1 : Int) (n : Nat) (x205 : Int) (x206 : Int) (x207 : Int) : f125_0 c lf l0 n1 (n + 1) x205 x206 x207 = f125_0_s c lf l0 n1 (f125_0 c lf l0 n1 n) x205 x206 x207 := rfl
theorem f125_0_eq (c : Orc) (lf : Nat) (l0 : List T) (n1 : Int) (n : Nat) (x205 : Int) (x206 : Int) (x207 : Int) :
    lpK c env lf 6 fi125 2 6 [] [0, 1, 7, 8, 9] (x125_6_0) n (f125_0_c l0 n1 x205 x206 x207) = f125_0 c lf l0 n1 n x205 x206 x207 := by
  induction n generalizing x205 x206 x207 with
  | zero => rfl
  | succ n ih =>
    refine (f125_0_round c lf l0 n1 _ x205 x206 x207).trans ?_
    have e : (fun x205 x206 x207 => lpK c env lf 6 fi125 2 6 [] [0, 1, 7, 8, 9] (x125_6_0) n (f125_0_c l0 n1 x205 x206 x207)) = f125_0 c lf l0 n1 n := by funext x205 x206 x207; exact ih x205 x206 x207
    show f125_0_s c lf l0 n1 (fun x205 x206 x207 => lpK c env lf 6 fi125 2 6 [] [0, 1, 7, 8, 9] (x125_6_0) n (f125_0_c l0 n1 x205 x206 x207)) x205 x206 x207 = _
    rw [e]; rfl
/-- loop.example/g00285/impl.GetNum -/
def f125_t (c : Orc) (lf : Nat) (lp0 : List T → Int → Int → Int → Int → Option (List T)) (l0 : List T) (n1 : Int) : Option (List T) :=
  bif iLt n1 0 then
    some [T.i .i64 0, T.i .i64 0, T.b false]
  else
    (lp0 l0 n1 0 1 0).bind fun r208 =>
    bif asI (nth r208 0) == 0 then
      some [T.i .i64 0, T.i .i64 0, T.b false]
    else
      some [T.i .i64 (asI (nth r208 1)), T.i .i64 (asI (nth r208 2)), T.b (asB (nth r208 3))]
def f125 (c : Orc) (lf : Nat) (l0 : List T) (n1 : Int) : Option (List T) := f125_t c lf (fun (l0 : List T) (n1 : Int) (x205 : Int) (x206 : Int) (x207 : Int) => f125_0 c lf l0 n1 lf x205 x206 x207) l0 n1
theorem f125_raw (c : Orc) (lf : Nat) (l0 : List T) (n1 : Int) : funK c env lf 6 fi125 [.sl l0, .i .i64 n1] = f125_t c lf (fun (l0 : List T) (n1 : Int) (x205 : Int) (x206 : Int) (x207 : Int) => lpK c env lf 6 fi125 2 6 [] [0, 1, 7, 8, 9] (x125_6_0) lf (f125_0_c l0 n1 x205 x206 x207)) l0 n1 := by kernel_rfl
theorem f125_eq (c : Orc) (lf : Nat) (l0 : List T) (n1 : Int) : funK c env lf 6 fi125 [.sl l0, .i .i64 n1] = f125 c lf l0 n1 := by
  refine (f125_raw c lf l0 n1).trans ?_
  have e0 : (fun (l0 : List T) (n1 : Int) (x205 : Int) (x206 : Int) (x207 : Int) => lpK c env lf 6 fi125 2 6 [] [0, 1, 7, 8, 9] (x125_6_0) lf (f125_0_c l0 n1 x205 x206 x207)) = (fun (l0 : List T) (n1 : Int) (x205 : Int) (x206 : Int) (x207 : Int) => f125_0 c lf l0 n1 lf x205 x206 x207) := by funext l0 n1 x205 x206 x207; exact f125_0_eq c lf l0 n1 lf x205 x206 x207
  rw [e0]; rfl
/-- (*loop.example/g00285/impl.reader).num -/
def f72_t (c : Orc) (lf : Nat) (l0_0 : List T) (n0_1 : Int) (b0_2 : Bool) : Option (List T) :=
  bif !b0_2 then
    some [T.i .i64 0, T.st [T.sl l0_0, T.i .i64 n0_1, T.b b0_2]]
  else
    (c 125 [T.sl l0_0, T.i .i64 n0_1]).bind fun r209 =>
    some [T.i .i64 (asI (nth r209 0)), T.st [T.sl l0_0, T.i .i64 (asI (nth r209 1)), T.b (asB (nth r209 2))]]
def f72 (c : Orc) (lf : Nat) (l0_0 : List T) (n0_1 : Int) (b0_2 : Bool) : Option (List T) := f72_t c lf l0_0 n0_1 b0_2
theorem f72_raw (c : Orc) (lf : Nat) (l0_0 : List T) (n0_1 : Int) (b0_2 : Bool) : funK c env lf 6 fi72 [.st [.sl l0_0, .i .i64 n0_1, .b b0_2]] = f72_t c lf l0_0 n0_1 b0_2 := by kernel_rfl
theorem f72_eq (c : Orc) (lf : Nat) (l0_0 : List T) (n0_1 : Int) (b0_2 : Bool) : funK c env lf 6 fi72 [.st [.sl l0_0, .i .i64 n0_1, .b b0_2]] = f72 c lf l0_0 n0_1 b0_2 := by
  refine (f72_raw c lf l0_0 n0_1 b0_2).trans ?_
  rfl
/-- loop.example/g00285/impl.GetText -/
def f132_t (c : Orc) (lf : Nat) (l0 : List T) (n1 : Int) : Option (List T) :=
  (c 125 [T.sl l0, T.i .i64 n1]).bind fun r210 =>
  bif !(asB (nth r210 2)) then
    some [T.s (⟨#[]⟩ : ByteArray), T.i .i64 0, T.b false]
  else
    bif iLt (IntKind.wrap .i64 ((l0.length : Int) - (asI (nth r210 1)))) (asI (nth r210 0)) then
      some [T.s (⟨#[]⟩ : ByteArray), T.i .i64 0, T.b false]
    else
      bif iLe 0 (asI (nth r210 1)) && iLe (asI (nth r210 1)) (IntKind.wrap .i64 ((asI (nth r210 1)) + (asI (nth r210 0)))) && iLe (IntKind.wrap .i64 ((asI (nth r210 1)) + (asI (nth r210 0)))) (l0.length : Int) then
      some [T.s (bytesOf ((l0.drop ((asI (nth r210 1)).toNat)).take (((IntKind.wrap .i64 ((asI (nth r210 1)) + (asI (nth r210 0)))).toNat) - ((asI (nth r210 1)).toNat)))), T.i .i64 (IntKind.wrap .i64 ((asI (nth r210 1)) + (asI (nth r210 0)))), T.b true]
      else none
def f132 (c : Orc) (lf : Nat) (l0 : List T) (n1 : Int) : Option (List T) := f132_t c lf l0 n1
theorem f132_raw (c : Orc) (lf : Nat) (l0 : List T) (n1 : Int) : funK c env lf 6 fi132 [.sl l0, .i .i64 n1] = f132_t c lf l0 n1 := by kernel_rfl
theorem f132_eq (c : Orc) (lf : Nat) (l0 : List T) (n1 : Int) : funK c env lf 6 fi132 [.sl l0, .i .i64 n1] = f132 c lf l0 n1 := by
  refine (f132_raw c lf l0 n1).trans ?_
  rfl
/-- (*loop.example/g00285/impl.reader).text -/
def f91_t (c : Orc) (lf : Nat) (l0_0 : List T) (n0_1 : Int) (b0_2 : Bool) : Option (List T) :=
  bif !b0_2 then
    some [T.s (⟨#[]⟩ : ByteArray), T.st [T.sl l0_0, T.i .i64 n0_1, T.b b0_2]]
  else
    (c 132 [T.sl l0_0, T.i .i64 n0_1]).bind fun r211 =>
    some [T.s (asS (nth r211 0)), T.st [T.sl l0_0, T.i .i64 (asI (nth r211 1)), T.b (asB (nth r211 2))]]
def f91 (c : Orc) (lf : Nat) (l0_0 : List T) (n0_1 : Int) (b0_2 : Bool) : Option (List T) := f91_t c lf l0_0 n0_1 b0_2
theorem f91_raw (c : Orc) (lf : Nat) (l0_0 : List T) (n0_1 : Int) (b0_2 : Bool) : funK c env lf 6 fi91 [.st [.sl l0_0, .i .i64 n0_1, .b b0_2]] = f91_t c lf l0_0 n0_1 b0_2 := by kernel_rfl
theorem f91_eq (c : Orc) (lf : Nat) (l0_0 : List T) (n0_1 : Int) (b0_2 : Bool) : funK c env lf 6 fi91 [.st [.sl l0_0, .i .i64 n0_1, .b b0_2]] = f91 c lf l0_0 n0_1 b0_2 := by
  refine (f91_raw c lf l0_0 n0_1 b0_2).trans ?_
  rfl
/-- (*loop.example/g00285/impl.reader).count -/
def f73_t (c : Orc) (lf : Nat) (l0_0 : List T) (n0_1 : Int) (b0_2 : Bool) : Option (List T) :=
  (c 72 [T.st [T.sl l0_0, T.i .i64 n0_1, T.b b0_2]]).bind fun r212 =>
  bif iLt (IntKind.wrap .i64 ((l0_0.length : Int) - (asI (T.cell (nth r212 1) 1)))) (asI (nth r212 0)) then
    some [T.i .i64 0, T.st [T.sl l0_0, T.i .i64 (asI (T.cell (nth r212 1) 1)), T.b false]]
  else
    some [T.i .i64 (asI (nth r212 0)), T.st [T.sl l0_0, T.i .i64 (asI (T.cell (nth r212 1) 1)), T.b (asB (T.cell (nth r212 1) 2))]]
def f73 (c : Orc) (lf : Nat) (l0_0 : List T) (n0_1 : Int) (b0_2 : Bool) : Option (List T) := f73_t c lf l0_0 n0_1 b0_2
theorem f73_raw (c : Orc) (lf : Nat) (l0_0 : List T) (n0_1 : Int) (b0_2 : Bool) : funK c env lf 6 fi73 [.st [.sl l0_0, .i .i64 n0_1, .b b0_2]] = f73_t c lf l0_0 n0_1 b0_2 := by kernel_rfl
theorem f73_eq (c : Orc) (lf : Nat) (l0_0 : List T) (n0_1 : Int) (b0_2 : Bool) : funK c env lf 6 fi73 [.st [.sl l0_0, .i .i64 n0_1, .b b0_2]] = f73 c lf l0_0 n0_1 b0_2 := by
  refine (f73_raw c lf l0_0 n0_1 b0_2).trans ?_
  rfl
/-- (*loop.example/g00285/impl.reader).attrs, the loop at region 3. -/
def f92_0_s (c : Orc) (lf : Nat) (l0_0 : List T) (r223 : List T) (L : Int → Int → Bool → List T → Option (List T)) (x226 : Int) (x227 : Int) (x228 : Bool) (x229 : List T) : Option (List T) :=
  bif iLt x226 (asI (nth r223 0)) then
    (c 91 [T.st [T.sl l0_0, T.i .i64 x227, T.b x228]]).bind fun r230 =>
    (c 91 [T.st [T.sl l0_0, T.i .i64 (asI (T.cell (nth r230 1) 1)), T.b (asB (T.cell (nth r230 1) 2))]]).bind fun r231 =>
    bif nLe (x229.length + ([T.st [T.s (asS (nth r230 0)), T.s (asS (nth r231 0))]] : List T).length) LIM then
    L (IntKind.wrap .i64 (x226 + 1)) (asI (T.cell (nth r231 1) 1)) (asB (T.cell (nth r231 1) 2)) (x229 ++ ([T.st [T.s (asS (nth r230 0)), T.s (asS (nth r231 0))]] : List T))
    else none
  else
    some [T.i .i64 0, T.sl l0_0, T.i .i64 x227, T.b x228, T.sl x229]
def f92_0_c (l0_0 : List T) (r223 : List T) (x226 : Int) (x227 : Int) (x228 : Bool) (x229 : List T) : CSt := ⟨[.bp 0 0, .rf 4 [] 0 none, .i .i64 (asI (nth r223 0)), .i .i64 x226], [.box [.ro 1 false [.i .u8] l0_0, .i .i64 x227, .b x228], .dead, .dead, .dead, .row true [.s, .s] x229 0 false]⟩
theorem f92_0_round (c : Orc) (lf : Nat) (l0_0 : List T) (r223 : List T) (L : CSt → Option (List T)) (x226 : Int) (x227 : Int) (x228 : Bool) (x229 : List T) :
    roundK c env lf 6 fi92 4 3 [] [0, 3, 8, 9] (x92_3_0) L (f92_0_c l0_0 r223 x226 x227 x228 x229) = f92_0_s c lf l0_0 r223 (fun x226 x227 x228 x229 => L (f92_0_c l0_0 r223 x226 x227 x228 x229)) x226 x227 x228 x229 := by kernel_rfl
def f92_0 (c : Orc) (lf : Nat) (l0_0 : List T) (r223 : List T) : Nat → Int → Int → Bool → List T → Option (List T)
  | 0 => fun _ _ _ _ => none
  | n + 1 => fun x226 x227 x228 x229 => f92_0_s c lf l0_0 r223 (f92_0 c lf l0_0 r223 n) x226 x227 x228 x229
theorem f92_0_u (c : Orc) (lf : Nat) (l0_0 : List T) (r223 : List T) (n : Nat) (x226 : Int) (x227 : Int) (x228 : Bool) (x229 : List T) : f92_0 c lf l0_0 r223 (n + 1) x226 x227 x228 x229 = f92_0_s c lf l0_0 r223 (f92_0 c lf l0_0 r223 n) x226 x227 x228 x229 := rfl
theorem f92_0_eq (c : Orc) (lf : Nat) (l0_0 : List T) (r223 : List T) (n : Nat) (x226 : Int) (x227 : Int) (x228 : Bool) (x229 : List T) :
    lpK c env lf 6 fi92 4 3 [] [0, 3, 8, 9] (x92_3_0) n (f92_0_c l0_0 r223 x226 x227 x228 x229) = f92_0 c lf l0_0 r223 n x226 x227 x228 x229 := by
  induction n generalizing x226 x227 x228 x229 with
  | zero => rfl
  | succ n ih =>
    refine (f92_0_round c lf l0_0 r223 _ x226 x227 x228 x229).trans ?_
    have e : (fun x226 x227 x228 x229 => lpK c env lf 6 fi92 4 3 [] [0, 3, 8, 9] (x92_3_0) n (f92_0_c l0_0 r223 x226 x227 x228 x229)) = f92_0 c lf l0_0 r223 n := by funext x226 x227 x228 x229; exact ih x226 x227 x228 x229
    show f92_0_s c lf l0_0 r223 (fun x226 x227 x228 x229 => lpK c env lf 6 fi92 4 3 [] [0, 3, 8, 9] (x92_3_0) n (f92_0_c l0_0 r223 x226 x227 x228 x229)) x226 x227 x228 x229 = _
    rw [e]; rfl
/-- (*loop.example/g00285/impl.reader).attrs -/
def f92_t (c : Orc) (lf : Nat) (lp0 : List T → List T → Int → Int → Bool → List T → Option (List T)) (l0_0 : List T) (n0_1 : Int) (b0_2 : Bool) : Option (List T) :=
  (c 73 [T.st [T.sl l0_0, T.i .i64 n0_1, T.b b0_2]]).bind fun r223 =>
  (lp0 l0_0 r223 0 (asI (T.cell (nth r223 1) 1)) (asB (T.cell (nth r223 1) 2)) ([] : List T)).bind fun r232 =>
  some [T.sl (asL (nth r232 4)), T.st [T.sl (asL (nth r232 1)), T.i .i64 (asI (nth r232 2)), T.b (asB (nth r232 3))]]
def f92 (c : Orc) (lf : Nat) (l0_0 : List T) (n0_1 : Int) (b0_2 : Bool) : Option (List T) := f92_t c lf (fun (l0_0 : List T) (r223 : List T) (x226 : Int) (x227 : Int) (x228 : Bool) (x229 : List T) => f92_0 c lf l0_0 r223 lf x226 x227 x228 x229) l0_0 n0_1 b0_2
theorem f92_raw (c : Orc) (lf : Nat) (l0_0 : List T) (n0_1 : Int) (b0_2 : Bool) : funK c env lf 6 fi92 [.st [.sl l0_0, .i .i64 n0_1, .b b0_2]] = f92_t c lf (fun (l0_0 : List T) (r223 : List T) (x226 : Int) (x227 : Int) (x228 : Bool) (x229 : List T) => lpK c env lf 6 fi92 4 3 [] [0, 3, 8, 9] (x92_3_0) lf (f92_0_c l0_0 r223 x226 x227 x228 x229)) l0_0 n0_1 b0_2 := by kernel_rfl
theorem f92_eq (c : Orc) (lf : Nat) (l0_0 : List T) (n0_1 : Int) (b0_2 : Bool) : funK c env lf 6 fi92 [.st [.sl l0_0, .i .i64 n0_1, .b b0_2]] = f92 c lf l0_0 n0_1 b0_2 := by
  refine (f92_raw c lf l0_0 n0_1 b0_2).trans ?_
  have e0 : (fun (l0_0 : List T) (r223 : List T) (x226 : Int) (x227 : Int) (x228 : Bool) (x229 : List T) => lpK c env lf 6 fi92 4 3 [] [0, 3, 8, 9] (x92_3_0) lf (f92_0_c l0_0 r223 x226 x227 x228 x229)) = (fun (l0_0 : List T) (r223 : List T) (x226 : Int) (x227 : Int) (x228 : Bool) (x229 : List T) => f92_0 c lf l0_0 r223 lf x226 x227 x228 x229) := by funext l0_0 r223 x226 x227 x228 x229; exact f92_0_eq c lf l0_0 r223 lf x226 x227 x228 x229
  rw [e0]; rfl
/-- (*loop.example/g00285/impl.reader).done -/
def f74_t (c : Orc) (lf : Nat) (l0_0 : List T) (n0_1 : Int) (b0_2 : Bool) : Option (List T) :=
  bif b0_2 then
    some [T.b (n0_1 == (l0_0.length : Int)), T.st [T.sl l0_0, T.i .i64 n0_1, T.b b0_2]]
  else
    some [T.b false, T.st [T.sl l0_0, T.i .i64 n0_1, T.b b0_2]]
def f74 (c : Orc) (lf : Nat) (l0_0 : List T) (n0_1 : Int) (b0_2 : Bool) : Option (List T) := f74_t c lf l0_0 n0_1 b0_2
theorem f74_raw (c : Orc) (lf : Nat) (l0_0 : List T) (n0_1 : Int) (b0_2 : Bool) : funK c env lf 6 fi74 [.st [.sl l0_0, .i .i64 n0_1, .b b0_2]] = f74_t c lf l0_0 n0_1 b0_2 := by kernel_rfl
theorem f74_eq (c : Orc) (lf : Nat) (l0_0 : List T) (n0_1 : Int) (b0_2 : Bool) : funK c env lf 6 fi74 [.st [.sl l0_0, .i .i64 n0_1, .b b0_2]] = f74 c lf l0_0 n0_1 b0_2 := by
  refine (f74_raw c lf l0_0 n0_1 b0_2).trans ?_
  rfl
/-- loop.example/g00285/impl.from -/
def f76_t (c : Orc) (lf : Nat) (n0 : Int) (n1 : Int) (n2 : Int) : Option (List T) :=
  bif iLe n1 n0 then
    some [T.b (iLe n0 n2)]
  else
    some [T.b false]
def f76 (c : Orc) (lf : Nat) (n0 : Int) (n1 : Int) (n2 : Int) : Option (List T) := f76_t c lf n0 n1 n2
theorem f76_raw (c : Orc) (lf : Nat) (n0 : Int) (n1 : Int) (n2 : Int) : funK c env lf 6 fi76 [.i .i64 n0, .i .i64 n1, .i .i64 n2] = f76_t c lf n0 n1 n2 := by kernel_rfl
theorem f76_eq (c : Orc) (lf : Nat) (n0 : Int) (n1 : Int) (n2 : Int) : funK c env lf 6 fi76 [.i .i64 n0, .i .i64 n1, .i .i64 n2] = f76 c lf n0 n1 n2 := by
  refine (f76_raw c lf n0 n1 n2).trans ?_
  rfl
/-- loop.example/g00285/impl.NameOk, the loop at region 2. -/
def f90_0_s (c : Orc) (lf : Nat) (s0 : ByteArray) (L : Int → Option (List T)) (x235 : Int) : Option (List T) :=
  bif iLt x235 (s0.size : Int) then
    bif inR x235 s0.size then
    bif iLt (byteAt s0 x235) 97 then
      bif iLt (byteAt s0 x235) 48 then
        bif (byteAt s0 x235) != 95 then
          bif (byteAt s0 x235) != 45 then
            bif (byteAt s0 x235) != 46 then
              some [T.i .i64 0, T.b false]
            else
              L (IntKind.wrap .i64 (x235 + 1))
          else
            L (IntKind.wrap .i64 (x235 + 1))
        else
          L (IntKind.wrap .i64 (x235 + 1))
      else
        bif iLt 57 (byteAt s0 x235) then
          bif (byteAt s0 x235) != 95 then
            bif (byteAt s0 x235) != 45 then
              bif (byteAt s0 x235) != 46 then
                some [T.i .i64 0, T.b false]
              else
                L (IntKind.wrap .i64 (x235 + 1))
            else
              L (IntKind.wrap .i64 (x235 + 1))
          else
            L (IntKind.wrap .i64 (x235 + 1))
        else
          L (IntKind.wrap .i64 (x235 + 1))
    else
      bif iLt 122 (byteAt s0 x235) then
        bif iLt (byteAt s0 x235) 48 then
          bif (byteAt s0 x235) != 95 then
            bif (byteAt s0 x235) != 45 then
              bif (byteAt s0 x235) != 46 then
                some [T.i .i64 0, T.b false]
              else
                L (IntKind.wrap .i64 (x235 + 1))
            else
              L (IntKind.wrap .i64 (x235 + 1))
          else
            L (IntKind.wrap .i64 (x235 + 1))
        else
          bif iLt 57 (byteAt s0 x235) then
            bif (byteAt s0 x235) != 95 then
              bif (byteAt s0 x235) != 45 then
                bif (byteAt s0 x235) != 46 then
                  some [T.i .i64 0, T.b false]
                else
                  L (IntKind.wrap .i64 (x235 + 1))
              else
                L (IntKind.wrap .i64 (x235 + 1))
            else
              L (IntKind.wrap .i64 (x235 + 1))
          else
            L (IntKind.wrap .i64 (x235 + 1))
      else
        L (IntKind.wrap .i64 (x235 + 1))
    else none
  else
    some [T.i .i64 1, T.s s0]
def f90_0_c (s0 : ByteArray) (x235 : Int) : CSt := ⟨[.s s0, .i .i64 (s0.size : Int), .i .i64 x235], [.dead]⟩
theorem f90_0_round (c : Orc) (lf : Nat) (s0 : ByteArray) (L : CSt → Option (List T)) (x235 : Int) :
    roundK c env lf 6 fi90 1 2 [] [0, 6, 7] (x90_2_0) L (f90_0_c s0 x235) = f90_0_s c lf s0 (fun x235 => L (f90_0_c s0 x235)) x235 := by kernel_rfl
def f90_0 (c : Orc) (lf : Nat) (s0 : ByteArray) : Nat → Int → Option (List T)
  | 0 => fun _ => none
  | n + 1 => fun x235 => f90_0_s c lf s0 (f90_0 c lf s0 n) x235
theorem f90_0_u (c : Orc) (lf : Nat) (s0 : ByteArray) (n : Nat) (x235 : Int) : f90_0 c lf s0 (n + 1) x235 = f90_0_s c lf s0 (f90_0 c lf s0 n) x235 := rfl
theorem f90_0_eq (c : Orc) (lf : Nat) (s0 : ByteArray) (n : Nat) (x235 : Int) :
    lpK c env lf 6 fi90 1 2 [] [0, 6, 7] (x90_2_0) n (f90_0_c s0 x235) = f90_0 c lf s0 n x235 := by
  induction n generalizing x235 with
  | zero => rfl
  | succ n ih =>
    refine (f90_0_round c lf s0 _ x235).trans ?_
    have e : (fun x235 => lpK c env lf 6 fi90 1 2 [] [0, 6, 7] (x90_2_0) n (f90_0_c s0 x235)) = f90_0 c lf s0 n := by funext x235; exact ih x235
    show f90_0_s c lf s0 (fun x235 => lpK c env lf 6 fi90 1 2 [] [0, 6, 7] (x90_2_0) n (f90_0_c s0 x235)) x235 = _
    rw [e]; rfl
/-- loop.example/g00285/impl.NameOk -/
def f90_t (c : Orc) (lf : Nat) (lp0 : ByteArray → Int → Option (List T)) (s0 : ByteArray) : Option (List T) :=
  (lp0 s0 0).bind fun r236 =>
  bif asI (nth r236 0) == 0 then
    some [T.b (asB (nth r236 1))]
  else
    bif iLe 1 ((asS (nth r236 1)).size : Int) then
      bif iLe ((asS (nth r236 1)).size : Int) 14 then
        bif !((asS (nth r236 1)).toList == (⟨#[46]⟩ : ByteArray).toList) then
          some [T.b (!((asS (nth r236 1)).toList == (⟨#[46, 46]⟩ : ByteArray).toList))]
        else
          some [T.b false]
      else
        some [T.b false]
    else
      some [T.b false]
def f90 (c : Orc) (lf : Nat) (s0 : ByteArray) : Option (List T) := f90_t c lf (fun (s0 : ByteArray) (x235 : Int) => f90_0 c lf s0 lf x235) s0
theorem f90_raw (c : Orc) (lf : Nat) (s0 : ByteArray) : funK c env lf 6 fi90 [.s s0] = f90_t c lf (fun (s0 : ByteArray) (x235 : Int) => lpK c env lf 6 fi90 1 2 [] [0, 6, 7] (x90_2_0) lf (f90_0_c s0 x235)) s0 := by kernel_rfl
theorem f90_eq (c : Orc) (lf : Nat) (s0 : ByteArray) : funK c env lf 6 fi90 [.s s0] = f90 c lf s0 := by
  refine (f90_raw c lf s0).trans ?_
  have e0 : (fun (s0 : ByteArray) (x235 : Int) => lpK c env lf 6 fi90 1 2 [] [0, 6, 7] (x90_2_0) lf (f90_0_c s0 x235)) = (fun (s0 : ByteArray) (x235 : Int) => f90_0 c lf s0 lf x235) := by funext s0 x235; exact f90_0_eq c lf s0 lf x235
  rw [e0]; rfl
/-- loop.example/g00285/impl.attrsOk, the loop at region 2. -/
def f89_0_s (c : Orc) (lf : Nat) (l0 : List T) (L : Int → Option (List T)) (x245 : Int) : Option (List T) :=
  bif iLt x245 (l0.length : Int) then
    bif inR x245 l0.length then
    (c 90 [T.s (asS (T.cell (l0.getD x245.toNat T.u) 0))]).bind fun r246 =>
    bif !(asB (nth r246 0)) then
      some [T.i .i64 0, T.b false]
    else
      (c 76 [T.i .i64 ((asS (T.cell (l0.getD x245.toNat T.u) 1)).size : Int), T.i .i64 1, T.i .i64 16]).bind fun r247 =>
      bif !(asB (nth r247 0)) then
        some [T.i .i64 0, T.b false]
      else
        bif iLt 0 x245 then
          bif inR (IntKind.wrap .i64 (x245 - 1)) l0.length then
          bif !(Op.bytesLess (asS (T.cell (l0.getD ((IntKind.wrap .i64 (x245 - 1)).toNat) T.u) 0)).toList (asS (T.cell (l0.getD x245.toNat T.u) 0)).toList) then
            some [T.i .i64 0, T.b false]
          else
            L (IntKind.wrap .i64 (x245 + 1))
          else none
        else
          L (IntKind.wrap .i64 (x245 + 1))
    else none
  else
    some [T.i .i64 1, T.sl l0]
def f89_0_c (l0 : List T) (x245 : Int) : CSt := ⟨[.ro 0 true [.s, .s] l0, .ro 0 true [.s, .s] l0, .i .i64 (l0.length : Int), .i .i64 x245], [.dead]⟩
theorem f89_0_round (c : Orc) (lf : Nat) (l0 : List T) (L : CSt → Option (List T)) (x245 : Int) :
    roundK c env lf 6 fi89 1 2 [] [0, 5, 6, 7] (x89_2_0) L (f89_0_c l0 x245) = f89_0_s c lf l0 (fun x245 => L (f89_0_c l0 x245)) x245 := by kernel_rfl
def f89_0 (c : Orc) (lf : Nat) (l0 : List T) : Nat → Int → Option (List T)
  | 0 => fun _ => none
  | n + 1 => fun x245 => f89_0_s c lf l0 (f89_0 c lf l0 n) x245
theorem f89_0_u (c : Orc) (lf : Nat) (l0 : List T) (n : Nat) (x245 : Int) : f89_0 c lf l0 (n + 1) x245 = f89_0_s c lf l0 (f89_0 c lf l0 n) x245 := rfl
theorem f89_0_eq (c : Orc) (lf : Nat) (l0 : List T) (n : Nat) (x245 : Int) :
    lpK c env lf 6 fi89 1 2 [] [0, 5, 6, 7] (x89_2_0) n (f89_0_c l0 x245) = f89_0 c lf l0 n x245 := by
  induction n generalizing x245 with
  | zero => rfl
  | succ n ih =>
    refine (f89_0_round c lf l0 _ x245).trans ?_
    have e : (fun x245 => lpK c env lf 6 fi89 1 2 [] [0, 5, 6, 7] (x89_2_0) n (f89_0_c l0 x245)) = f89_0 c lf l0 n := by funext x245; exact ih x245
    show f89_0_s c lf l0 (fun x245 => lpK c env lf 6 fi89 1 2 [] [0, 5, 6, 7] (x89_2_0) n (f89_0_c l0 x245)) x245 = _
    rw [e]; rfl
/-- loop.example/g00285/impl.attrsOk -/
def f89_t (c : Orc) (lf : Nat) (lp0 : List T → Int → Option (List T)) (l0 : List T) : Option (List T) :=
  (lp0 l0 0).bind fun r248 =>
  bif asI (nth r248 0) == 0 then
    some [T.b (asB (nth r248 1))]
  else
    some [T.b (iLe ((asL (nth r248 1)).length : Int) 4)]
def f89 (c : Orc) (lf : Nat) (l0 : List T) : Option (List T) := f89_t c lf (fun (l0 : List T) (x245 : Int) => f89_0 c lf l0 lf x245) l0
theorem f89_raw (c : Orc) (lf : Nat) (l0 : List T) : funK c env lf 6 fi89 [.sl l0] = f89_t c lf (fun (l0 : List T) (x245 : Int) => lpK c env lf 6 fi89 1 2 [] [0, 5, 6, 7] (x89_2_0) lf (f89_0_c l0 x245)) l0 := by kernel_rfl
theorem f89_eq (c : Orc) (lf : Nat) (l0 : List T) : funK c env lf 6 fi89 [.sl l0] = f89 c lf l0 := by
  refine (f89_raw c lf l0).trans ?_
  have e0 : (fun (l0 : List T) (x245 : Int) => lpK c env lf 6 fi89 1 2 [] [0, 5, 6, 7] (x89_2_0) lf (f89_0_c l0 x245)) = (fun (l0 : List T) (x245 : Int) => f89_0 c lf l0 lf x245) := by funext l0 x245; exact f89_0_eq c lf l0 lf x245
  rw [e0]; rfl
/-- loop.example/g00285/impl.InodeOk, the loop at region 4. -/
def f35_0_s (c : Orc) (lf : Nat) (l0_3 : List T) (l0_4 : List T) (l0_5 : List T) (n0_0 : Int) (n0_1 : Int) (n0_2 : Int) (L : Int → Option (List T)) (x262 : Int) : Option (List T) :=
  bif iLt x262 (l0_4.length : Int) then
    bif inR x262 l0_4.length then
    (c 90 [T.s (asS (T.cell (l0_4.getD x262.toNat T.u) 0))]).bind fun r263 =>
    bif !(asB (nth r263 0)) then
      some [T.i .i64 0, T.b false]
    else
      (c 76 [T.i .i64 (asI (T.cell (l0_4.getD x262.toNat T.u) 1)), T.i .i64 2, T.i .i64 1000]).bind fun r264 =>
      bif !(asB (nth r264 0)) then
        some [T.i .i64 0, T.b false]
      else
        bif iLt 0 x262 then
          bif inR (IntKind.wrap .i64 (x262 - 1)) l0_4.length then
          bif !(Op.bytesLess (asS (T.cell (l0_4.getD ((IntKind.wrap .i64 (x262 - 1)).toNat) T.u) 0)).toList (asS (T.cell (l0_4.getD x262.toNat T.u) 0)).toList) then
            some [T.i .i64 0, T.b false]
          else
            L (IntKind.wrap .i64 (x262 + 1))
          else none
        else
          L (IntKind.wrap .i64 (x262 + 1))
    else none
  else
    some [T.i .i64 1, T.i .i64 n0_0, T.i .i64 n0_1, T.i .i64 n0_2, T.sl l0_3, T.sl l0_4, T.sl l0_5]
def f35_0_c (l0_3 : List T) (l0_4 : List T) (l0_5 : List T) (n0_0 : Int) (n0_1 : Int) (n0_2 : Int) (x262 : Int) : CSt := ⟨[.bp 6 0, .ro 0 true [.s, .i .i64] l0_4, .i .i64 (l0_4.length : Int), .i .i64 x262], [.dead, .dead, .dead, .dead, .dead, .dead, .box [.i .i64 n0_0, .i .i64 n0_1, .i .i64 n0_2, .ro 0 false [.i .u8] l0_3, .ro 0 true [.s, .i .i64] l0_4, .ro 0 true [.s, .s] l0_5]]⟩
theorem f35_0_round (c : Orc) (lf : Nat) (l0_3 : List T) (l0_4 : List T) (l0_5 : List T) (n0_0 : Int) (n0_1 : Int) (n0_2 : Int) (L : CSt → Option (List T)) (x262 : Int) :
    roundK c env lf 6 fi35 6 4 [] [1, 28, 29, 30] (x35_4_0) L (f35_0_c l0_3 l0_4 l0_5 n0_0 n0_1 n0_2 x262) = f35_0_s c lf l0_3 l0_4 l0_5 n0_0 n0_1 n0_2 (fun x262 => L (f35_0_c l0_3 l0_4 l0_5 n0_0 n0_1 n0_2 x262)) x262 := by kernel_rfl
def f35_0 (c : Orc) (lf : Nat) (l0_3 : List T) (l0_4 : List T) (l0_5 : List T) (n0_0 : Int) (n0_1 : Int) (n0_2 : Int) : Nat → Int → Option (List T)
  | 0 => fun _ => none
  | n + 1 => fun x262 => f35_0_s c lf l0_3 l0_4 l0_5 n0_0 n0_1 n0_2 (f35_0 c lf l0_3 l0_4 l0_5 n0_0 n0_1 n0_2 n) x262
theorem f35_0_u (c : Orc) (lf : Nat) (l0_3 : List T) (l0_4 : List T) (l0_5 : List T) (n0_0 : Int) (n0_1 : Int) (n0_2 : Int) (n : Nat) (x262 : Int) : f35_0 c lf l0_3 l0_4 l0_5 n0_0 n0_1 n0_2 (n + 1) x262 = f35_0_s c lf l0_3 l0_4 l0_5 n0_0 n0_1 n0_2 (f35_0 c lf l0_3 l0_4 l0_5 n0_0 n0_1 n0_2 n) x262 := rfl
theorem f35_0_eq (c : Orc) (lf : Nat) (l0_3 : List T) (l0_4 : List T) (l0_5 : List T) (n0_0 : Int) (n0_1 : Int) (n0_2 : Int) (n : Nat) (x262 : Int) :
    lpK c env lf 6 fi35 6 4 [] [1, 28, 29, 30] (x35_4_0) n (f35_0_c l0_3 l0_4 l0_5 n0_0 n0_1 n0_2 x262) = f35_0 c lf l0_3 l0_4 l0_5 n0_0 n0_1 n0_2 n x262 := by
  induction n generalizing x262 with
  | zero => rfl
  | succ n ih =>
    refine (f35_0_round c lf l0_3 l0_4 l0_5 n0_0 n0_1 n0_2 _ x262).trans ?_
    have e : (fun x262 => lpK c env lf 6 fi35 6 4 [] [1, 28, 29, 30] (x35_4_0) n (f35_0_c l0_3 l0_4 l0_5 n0_0 n0_1 n0_2 x262)) = f35_0 c lf l0_3 l0_4 l0_5 n0_0 n0_1 n0_2 n := by funext x262; exact ih x262
    show f35_0_s c lf l0_3 l0_4 l0_5 n0_0 n0_1 n0_2 (fun x262 => lpK c env lf 6 fi35 6 4 [] [1, 28, 29, 30] (x35_4_0) n (f35_0_c l0_3 l0_4 l0_5 n0_0 n0_1 n0_2 x262)) x262 = _
    rw [e]; rfl
/-- loop.example/g00285/impl.InodeOk -/
def f35_t (c : Orc) (lf : Nat) (lp0 : List T → List T → List T → Int → Int → Int → Int → Option (List T)) (n0_0 : Int) (n0_1 : Int) (n0_2 : Int) (l0_3 : List T) (l0_4 : List T) (l0_5 : List T) : Option (List T) :=
  (c 76 [T.i .i64 n0_0, T.i .i64 1, T.i .i64 1000]).bind fun r258 =>
  bif !(asB (nth r258 0)) then
    some [T.b false]
  else
    bif iLt 100 (l0_3.length : Int) then
      some [T.b false]
    else
      bif iLt 10 (l0_4.length : Int) then
        some [T.b false]
      else
        (c 89 [T.sl l0_5]).bind fun r259 =>
        bif !(asB (nth r259 0)) then
          some [T.b false]
        else
          (lp0 l0_3 l0_4 l0_5 n0_0 n0_1 n0_2 0).bind fun r265 =>
          bif asI (nth r265 0) == 0 then
            some [T.b (asB (nth r265 1))]
          else
            (c 76 [T.i .i64 (asI (nth r265 3)), T.i .i64 0, T.i .i64 1000]).bind fun r266 =>
            bif !(asB (nth r266 0)) then
              some [T.b false]
            else
              bif !(((asI (nth r265 3)) == 0) == ((asI (nth r265 1)) == 1)) then
                some [T.b false]
              else
                bif (asI (nth r265 2)) == 1 then
                  some [T.b (((asL (nth r265 5)).length : Int) == 0)]
                else
                  bif (asI (nth r265 2)) == 2 then
                    bif ((asL (nth r265 4)).length : Int) == 0 then
                      some [T.b (iLe (asI (nth r265 3)) 1)]
                    else
                      some [T.b false]
                  else
                    some [T.b false]
def f35 (c : Orc) (lf : Nat) (n0_0 : Int) (n0_1 : Int) (n0_2 : Int) (l0_3 : List T) (l0_4 : List T) (l0_5 : List T) : Option (List T) := f35_t c lf (fun (l0_3 : List T) (l0_4 : List T) (l0_5 : List T) (n0_0 : Int) (n0_1 : Int) (n0_2 : Int) (x262 : Int) => f35_0 c lf l0_3 l0_4 l0_5 n0_0 n0_1 n0_2 lf x262) n0_0 n0_1 n0_2 l0_3 l0_4 l0_5
theorem f35_raw (c : Orc) (lf : Nat) (n0_0 : Int) (n0_1 : Int) (n0_2 : Int) (l0_3 : List T) (l0_4 : List T) (l0_5 : List T) : funK c env lf 6 fi35 [.st [.i .i64 n0_0, .i .i64 n0_1, .i .i64 n0_2, .sl l0_3, .sl l0_4, .sl l0_5]] = f35_t c lf (fun (l0_3 : List T) (l0_4 : List T) (l0_5 : List T) (n0_0 : Int) (n0_1 : Int) (n0_2 : Int) (x262 : Int) => lpK c env lf 6 fi35 6 4 [] [1, 28, 29, 30] (x35_4_0) lf (f35_0_c l0_3 l0_4 l0_5 n0_0 n0_1 n0_2 x262)) n0_0 n0_1 n0_2 l0_3 l0_4 l0_5 := by kernel_rfl
theorem f35_eq (c : Orc) (lf : Nat) (n0_0 : Int) (n0_1 : Int) (n0_2 : Int) (l0_3 : List T) (l0_4 : List T) (l0_5 : List T) : funK c env lf 6 fi35 [.st [.i .i64 n0_0, .i .i64 n0_1, .i .i64 n0_2, .sl l0_3, .sl l0_4, .sl l0_5]] = f35 c lf n0_0 n0_1 n0_2 l0_3 l0_4 l0_5 := by
  refine (f35_raw c lf n0_0 n0_1 n0_2 l0_3 l0_4 l0_5).trans ?_
  have e0 : (fun (l0_3 : List T) (l0_4 : List T) (l0_5 : List T) (n0_0 : Int) (n0_1 : Int) (n0_2 : Int) (x262 : Int) => lpK c env lf 6 fi35 6 4 [] [1, 28, 29, 30] (x35_4_0) lf (f35_0_c l0_3 l0_4 l0_5 n0_0 n0_1 n0_2 x262)) = (fun (l0_3 : List T) (l0_4 : List T) (l0_5 : List T) (n0_0 : Int) (n0_1 : Int) (n0_2 : Int) (x262 : Int) => f35_0 c lf l0_3 l0_4 l0_5 n0_0 n0_1 n0_2 lf x262) := by funext l0_3 l0_4 l0_5 n0_0 n0_1 n0_2 x262; exact f35_0_eq c lf l0_3 l0_4 l0_5 n0_0 n0_1 n0_2 lf x262
  rw [e0]; rfl
/-- loop.example/g00285/impl.GetInode, the loop at region 8. -/
def f36_0_s (c : Orc) (lf : Nat) (l0 : List T) (r284 : List T) (r285 : List T) (r286 : List T) (r287 : List T) (r288 : List T) (L : Int → Int → Bool → List T → Option (List T)) (x291 : Int) (x292 : Int) (x293 : Bool) (x294 : List T) : Option (List T) :=
  bif iLt x291 (asI (nth r288 0)) then
    (c 91 [T.st [T.sl l0, T.i .i64 x292, T.b x293]]).bind fun r295 =>
    (c 72 [T.st [T.sl l0, T.i .i64 (asI (T.cell (nth r295 1) 1)), T.b (asB (T.cell (nth r295 1) 2))]]).bind fun r296 =>
    bif nLe (x294.length + ([T.st [T.s (asS (nth r295 0)), T.i .i64 (asI (nth r296 0))]] : List T).length) LIM then
    L (IntKind.wrap .i64 (x291 + 1)) (asI (T.cell (nth r296 1) 1)) (asB (T.cell (nth r296 1) 2)) (x294 ++ ([T.st [T.s (asS (nth r295 0)), T.i .i64 (asI (nth r296 0))]] : List T))
    else none
  else
    some [T.i .i64 0, T.i .i64 0, T.i .i64 0, T.i .i64 0, T.sl ([] : List T), T.sl ([] : List T), T.sl ([] : List T), T.sl l0, T.i .i64 x292, T.b x293, T.i .i64 (asI (nth r284 0)), T.i .i64 (asI (nth r285 0)), T.i .i64 (asI (nth r286 0)), T.sl (listOf (asS (nth r287 0))), T.sl x294, T.sl ([] : List T)]
def f36_0_c (l0 : List T) (r284 : List T) (r285 : List T) (r286 : List T) (r287 : List T) (r288 : List T) (x291 : Int) (x292 : Int) (x293 : Bool) (x294 : List T) : CSt := ⟨[.bp 1 0, .bp 5 0, .bp 6 0, .i .i64 (asI (nth r288 0)), .i .i64 x291], [.dead, .box [.i .i64 0, .i .i64 0, .i .i64 0, .rf 2 [] 0 none, .rf 3 [] 0 none, .rf 4 [] 0 none], .row false [.i .u8] ([] : List T) 0 false, .row true [.s, .i .i64] ([] : List T) 0 false, .row true [.s, .s] ([] : List T) 0 false, .box [.ro 0 false [.i .u8] l0, .i .i64 x292, .b x293], .box [.i .i64 (asI (nth r284 0)), .i .i64 (asI (nth r285 0)), .i .i64 (asI (nth r286 0)), .rf 7 [] 0 none, .rf 8 [] 0 none, .rf 9 [] 0 none], .row false [.i .u8] (listOf (asS (nth r287 0))) 0 false, .row true [.s, .i .i64] x294 0 false, .row true [.s, .s] ([] : List T) 0 false]⟩
theorem f36_0_round (c : Orc) (lf : Nat) (l0 : List T) (r284 : List T) (r285 : List T) (r286 : List T) (r287 : List T) (r288 : List T) (L : CSt → Option (List T)) (x291 : Int) (x292 : Int) (x293 : Bool) (x294 : List T) :
    roundK c env lf 6 fi36 1 8 [] [2, 4, 5, 26, 27] (x36_8_0) L (f36_0_c l0 r284 r285 r286 r287 r288 x291 x292 x293 x294) = f36_0_s c lf l0 r284 r285 r286 r287 r288 (fun x291 x292 x293 x294 => L (f36_0_c l0 r284 r285 r286 r287 r288 x291 x292 x293 x294)) x291 x292 x293 x294 := by kernel_rfl
def f36_0 (c : Orc) (lf : Nat) (l0 : List T) (r284 : List T) (r285 : List T) (r286 : List T) (r287 : List T) (r288 : List T) : Nat → Int → Int → Bool → List T → Option (List T)
  | 0 => fun _ _ _ _ => none
  | n + 1 => fun x291 x292 x293 x294 => f36_0_s c lf l0 r284 r285 r286 r287 r288 (f36_0 c lf l0 r284 r285 r286 r287 r288 n) x291 x292 x293 x294
theorem f36_0_u (c : Orc) (lf : Nat) (l0 : List T) (r284 : List T) (r285 : List T) (r286 : List T) (r287 : List T) (r288 : List T) (n : Nat) (x291 : Int) (x292 : Int) (x293 : Bool) (x294 : List T) : f36_0 c lf l0 r284 r285 r286 r287 r288 (n + 1) x291 x292 x293 x294 = f36_0_s c lf l0 r284 r285 r286 r287 r288 (f36_0 c lf l0 r284 r285 r286 r287 r288 n) x291 x292 x293 x294 := rfl
theorem f36_0_eq (c : Orc) (lf : Nat) (l0 : List T) (r284 : List T) (r285 : List T) (r286 : List T) (r287 : List T) (r288 : List T) (n : Nat) (x291 : Int) (x292 : Int) (x293 : Bool) (x294 : List T) :
    lpK c env lf 6 fi36 1 8 [] [2, 4, 5, 26, 27] (x36_8_0) n (f36_0_c l0 r284 r285 r286 r287 r288 x291 x292 x293 x294) = f36_0 c lf l0 r284 r285 r286 r287 r288 n x291 x292 x293 x294 := by
  induction n generalizing x291 x292 x293 x294 with
  | zero => rfl
  | succ n ih =>
    refine (f36_0_round c lf l0 r284 r285 r286 r287 r288 _ x291 x292 x293 x294).trans ?_
    have e : (fun x291 x292 x293 x294 => lpK c env lf 6 fi36 1 8 [] [2, 4, 5, 26, 27] (x36_8_0) n (f36_0_c l0 r284 r285 r286 r287 r288 x291 x292 x293 x294)) = f36_0 c lf l0 r284 r285 r286 r287 r288 n := by funext x291 x292 x293 x294; exact ih x291 x292 x293 x294
    show f36_0_s c lf l0 r284 r285 r286 r287 r288 (fun x291 x292 x293 x294 => lpK c env lf 6 fi36 1 8 [] [2, 4, 5, 26, 27] (x36_8_0) n (f36_0_c l0 r284 r285 r286 r287 r288 x291 x292 x293 x294)) x291 x292 x293 x294 = _
    rw [e]; rfl
/-- loop.example/g00285/impl.GetInode -/
def f36_t (c : Orc) (lf : Nat) (lp0 : List T → List T → List T → List T → List T → List T → Int → Int → Bool → List T → Option (List T)) (l0 : List T) : Option (List T) :=
  (c 72 [T.st [T.sl l0, T.i .i64 0, T.b true]]).bind fun r284 =>
  (c 72 [T.st [T.sl l0, T.i .i64 (asI (T.cell (nth r284 1) 1)), T.b (asB (T.cell (nth r284 1) 2))]]).bind fun r285 =>
  (c 72 [T.st [T.sl l0, T.i .i64 (asI (T.cell (nth r285 1) 1)), T.b (asB (T.cell (nth r285 1) 2))]]).bind fun r286 =>
  (c 91 [T.st [T.sl l0, T.i .i64 (asI (T.cell (nth r286 1) 1)), T.b (asB (T.cell (nth r286 1) 2))]]).bind fun r287 =>
  bif nLe (asS (nth r287 0)).size LIM then
  (c 73 [T.st [T.sl l0, T.i .i64 (asI (T.cell (nth r287 1) 1)), T.b (asB (T.cell (nth r287 1) 2))]]).bind fun r288 =>
  (lp0 l0 r284 r285 r286 r287 r288 0 (asI (T.cell (nth r288 1) 1)) (asB (T.cell (nth r288 1) 2)) ([] : List T)).bind fun r297 =>
  (c 92 [T.st [T.sl (asL (nth r297 7)), T.i .i64 (asI (nth r297 8)), T.b (asB (nth r297 9))]]).bind fun r298 =>
  (c 74 [T.st [T.sl (asL (nth r297 7)), T.i .i64 (asI (T.cell (nth r298 1) 1)), T.b (asB (T.cell (nth r298 1) 2))]]).bind fun r299 =>
  bif !(asB (nth r299 0)) then
    some [T.st [T.i .i64 0, T.i .i64 0, T.i .i64 0, T.sl [], T.sl [], T.sl []], T.b false]
  else
    (c 35 [T.st [T.i .i64 (asI (nth r297 10)), T.i .i64 (asI (nth r297 11)), T.i .i64 (asI (nth r297 12)), T.sl (asL (nth r297 13)), T.sl (asL (nth r297 14)), T.sl (asL (nth r298 0))]]).bind fun r300 =>
    bif !(asB (nth r300 0)) then
      some [T.st [T.i .i64 0, T.i .i64 0, T.i .i64 0, T.sl [], T.sl [], T.sl []], T.b false]
    else
      some [T.st [T.i .i64 (asI (nth r297 10)), T.i .i64 (asI (nth r297 11)), T.i .i64 (asI (nth r297 12)), T.sl (asL (nth r297 13)), T.sl (asL (nth r297 14)), T.sl (asL (nth r298 0))], T.b true]
  else none
def f36 (c : Orc) (lf : Nat) (l0 : List T) : Option (List T) := f36_t c lf (fun (l0 : List T) (r284 : List T) (r285 : List T) (r286 : List T) (r287 : List T) (r288 : List T) (x291 : Int) (x292 : Int) (x293 : Bool) (x294 : List T) => f36_0 c lf l0 r284 r285 r286 r287 r288 lf x291 x292 x293 x294) l0
theorem f36_raw (c : Orc) (lf : Nat) (l0 : List T) : funK c env lf 6 fi36 [.sl l0] = f36_t c lf (fun (l0 : List T) (r284 : List T) (r285 : List T) (r286 : List T) (r287 : List T) (r288 : List T) (x291 : Int) (x292 : Int) (x293 : Bool) (x294 : List T) => lpK c env lf 6 fi36 1 8 [] [2, 4, 5, 26, 27] (x36_8_0) lf (f36_0_c l0 r284 r285 r286 r287 r288 x291 x292 x293 x294)) l0 := by kernel_rfl
theorem f36_eq (c : Orc) (lf : Nat) (l0 : List T) : funK c env lf 6 fi36 [.sl l0] = f36 c lf l0 := by
  refine (f36_raw c lf l0).trans ?_
  have e0 : (fun (l0 : List T) (r284 : List T) (r285 : List T) (r286 : List T) (r287 : List T) (r288 : List T) (x291 : Int) (x292 : Int) (x293 : Bool) (x294 : List T) => lpK c env lf 6 fi36 1 8 [] [2, 4, 5, 26, 27] (x36_8_0) lf (f36_0_c l0 r284 r285 r286 r287 r288 x291 x292 x293 x294)) = (fun (l0 : List T) (r284 : List T) (r285 : List T) (r286 : List T) (r287 : List T) (r288 : List T) (x291 : Int) (x292 : Int) (x293 : Bool) (x294 : List T) => f36_0 c lf l0 r284 r285 r286 r287 r288 lf x291 x292 x293 x294) := by funext l0 r284 r285 r286 r287 r288 x291 x292 x293 x294; exact f36_0_eq c lf l0 r284 r285 r286 r287 r288 lf x291 x292 x293 x294
  rw [e0]; rfl
/-- loop.example/g00285/spec.GetNum, the loop at region 3. -/
def f126_0_s (c : Orc) (lf : Nat) (l0 : List T) (n1 : Int) (L : Int → Int → Option (List T)) (x304 : Int) (x305 : Int) : Option (List T) :=
  bif iLt x305 3 then
    bif iLe 0 n1 then
      bif iLt n1 (l0.length : Int) then
        bif iLt (IntKind.wrap .i64 (n1 + x305)) (l0.length : Int) then
          bif inR (IntKind.wrap .i64 (n1 + x305)) l0.length then
          bif iLe 0 (IntKind.wrap .u64 (IntKind.wrap .i64 (7 * x305))) then
          bif iLt 127 (IntKind.wrap .i64 (asI (l0.getD ((IntKind.wrap .i64 (n1 + x305)).toNat) T.u))) then
            L (intBits .or .i64 x304 (shiftI .shl .i64 (intBits .and .i64 (IntKind.wrap .i64 (asI (l0.getD ((IntKind.wrap .i64 (n1 + x305)).toNat) T.u))) 127) (IntKind.wrap .u64 (IntKind.wrap .i64 (7 * x305))))) (IntKind.wrap .i64 (x305 + 1))
          else
            bif iLt 0 x305 then
              bif (IntKind.wrap .i64 (asI (l0.getD ((IntKind.wrap .i64 (n1 + x305)).toNat) T.u))) == 0 then
                some [T.i .i64 0, T.i .i64 0, T.i .i64 0, T.b false]
              else
                bif iLt 1000000 (intBits .or .i64 x304 (shiftI .shl .i64 (intBits .and .i64 (IntKind.wrap .i64 (asI (l0.getD ((IntKind.wrap .i64 (n1 + x305)).toNat) T.u))) 127) (IntKind.wrap .u64 (IntKind.wrap .i64 (7 * x305))))) then
                  some [T.i .i64 0, T.i .i64 0, T.i .i64 0, T.b false]
                else
                  some [T.i .i64 0, T.i .i64 (intBits .or .i64 x304 (shiftI .shl .i64 (intBits .and .i64 (IntKind.wrap .i64 (asI (l0.getD ((IntKind.wrap .i64 (n1 + x305)).toNat) T.u))) 127) (IntKind.wrap .u64 (IntKind.wrap .i64 (7 * x305))))), T.i .i64 (IntKind.wrap .i64 ((IntKind.wrap .i64 (n1 + x305)) + 1)), T.b true]
            else
              bif iLt 1000000 (intBits .or .i64 x304 (shiftI .shl .i64 (intBits .and .i64 (IntKind.wrap .i64 (asI (l0.getD ((IntKind.wrap .i64 (n1 + x305)).toNat) T.u))) 127) (IntKind.wrap .u64 (IntKind.wrap .i64 (7 * x305))))) then
                some [T.i .i64 0, T.i .i64 0, T.i .i64 0, T.b false]
              else
                some [T.i .i64 0, T.i .i64 (intBits .or .i64 x304 (shiftI .shl .i64 (intBits .and .i64 (IntKind.wrap .i64 (asI (l0.getD ((IntKind.wrap .i64 (n1 + x305)).toNat) T.u))) 127) (IntKind.wrap .u64 (IntKind.wrap .i64 (7 * x305))))), T.i .i64 (IntKind.wrap .i64 ((IntKind.wrap .i64 (n1 + x305)) + 1)), T.b true]
          else none
          else none
        else
          some [T.i .i64 1]
      else
        some [T.i .i64 1]
    else
      some [T.i .i64 1]
  else
    some [T.i .i64 1]
def f126_0_c (l0 : List T) (n1 : Int) (x304 : Int) (x305 : Int) : CSt := ⟨[.ro 0 false [.i .u8] l0, .i .i64 n1, .i .i64 x304, .i .i64 x305], [.dead, .dead]⟩
theorem f126_0_round (c : Orc) (lf : Nat) (l0 : List T) (n1 : Int) (L : CSt → Option (List T)) (x304 : Int) (x305 : Int) :
    roundK c env lf 6 fi126 2 3 [] [0, 1, 7, 8] (x126_3_0) L (f126_0_c l0 n1 x304 x305) = f126_0_s c lf l0 n1 (fun x304 x305 => L (f126_0_c l0 n1 x304 x305)) x304 x305 := by kernel_rfl
def f126_0 (c : Orc) (lf : Nat) (l0 : List T) (n1 : Int) : Nat → Int → Int → Option (List T)
  | 0 => fun _ _ => none
  | n + 1 => fun x304 x305 => f126_0_s c lf l0 n1 (f126_0 c lf l0 n1 n) x304 x305
theorem f126_0_u (c : Orc) (lf : Nat) (l0 : List T) (n1 : Int) (n : Nat) (x304 : Int) (x305 : Int) : f126_0 c lf l0 n1 (n + 1) x304 x305 = f126_0_s c lf l0 n1 (f126_0 c lf l0 n1 n) x304 x305 := rfl
theorem f126_0_eq (c : Orc) (lf : Nat) (l0 : List T) (n1 : Int) (n : Nat) (x304 : Int) (x305 : Int) :
    lpK c env lf 6 fi126 2 3 [] [0, 1, 7, 8] (x126_3_0) n (f126_0_c l0 n1 x304 x305) = f126_0 c lf l0 n1 n x304 x305 := by
  induction n generalizing x304 x305 with
  | zero => rfl
  | succ n ih =>
    refine (f126_0_round c lf l0 n1 _ x304 x305).trans ?_
    have e : (fun x304 x305 => lpK c env lf 6 fi126 2 3 [] [0, 1, 7, 8] (x126_3_0) n (f126_0_c l0 n1 x304 x305)) = f126_0 c lf l0 n1 n := by funext x304 x305; exact ih x304 x305
    show f126_0_s c lf l0 n1 (fun x304 x305 => lpK c env lf 6 fi126 2 3 [] [0, 1, 7, 8] (x126_3_0) n (f126_0_c l0 n1 x304 x305)) x304 x305 = _
    rw [e]; rfl
/-- loop.example/g00285/spec.GetNum -/
def f126_t (c : Orc) (lf : Nat) (lp0 : List T → Int → Int → Int → Option (List T)) (l0 : List T) (n1 : Int) : Option (List T) :=
  (lp0 l0 n1 0 0).bind fun r306 =>
  bif asI (nth r306 0) == 0 then
    some [T.i .i64 (asI (nth r306 1)), T.i .i64 (asI (nth r306 2)), T.b (asB (nth r306 3))]
  else
    some [T.i .i64 0, T.i .i64 0, T.b false]
def f126 (c : Orc) (lf : Nat) (l0 : List T) (n1 : Int) : Option (List T) := f126_t c lf (fun (l0 : List T) (n1 : Int) (x304 : Int) (x305 : Int) => f126_0 c lf l0 n1 lf x304 x305) l0 n1
theorem f126_raw (c : Orc) (lf : Nat) (l0 : List T) (n1 : Int) : funK c env lf 6 fi126 [.sl l0, .i .i64 n1] = f126_t c lf (fun (l0 : List T) (n1 : Int) (x304 : Int) (x305 : Int) => lpK c env lf 6 fi126 2 3 [] [0, 1, 7, 8] (x126_3_0) lf (f126_0_c l0 n1 x304 x305)) l0 n1 := by kernel_rfl
theorem f126_eq (c : Orc) (lf : Nat) (l0 : List T) (n1 : Int) : funK c env lf 6 fi126 [.sl l0, .i .i64 n1] = f126 c lf l0 n1 := by
  refine (f126_raw c lf l0 n1).trans ?_
  have e0 : (fun (l0 : List T) (n1 : Int) (x304 : Int) (x305 : Int) => lpK c env lf 6 fi126 2 3 [] [0, 1, 7, 8] (x126_3_0) lf (f126_0_c l0 n1 x304 x305)) = (fun (l0 : List T) (n1 : Int) (x304 : Int) (x305 : Int) => f126_0 c lf l0 n1 lf x304 x305) := by funext l0 n1 x304 x305; exact f126_0_eq c lf l0 n1 lf x304 x305
  rw [e0]; rfl
/-- loop.example/g00285/spec.l3Num -/
def f75_t (c : Orc) (lf : Nat) (l0_0 : List T) (n0_1 : Int) (b0_2 : Bool) : Option (List T) :=
  (c 126 [T.sl l0_0, T.i .i64 n0_1]).bind fun r307 =>
  bif b0_2 then
    some [T.i .i64 0, T.st [T.sl l0_0, T.i .i64 n0_1, T.b true]]
  else
    bif !(asB (nth r307 2)) then
      some [T.i .i64 0, T.st [T.sl l0_0, T.i .i64 n0_1, T.b true]]
    else
      some [T.i .i64 (asI (nth r307 0)), T.st [T.sl l0_0, T.i .i64 (asI (nth r307 1)), T.b b0_2]]
def f75 (c : Orc) (lf : Nat) (l0_0 : List T) (n0_1 : Int) (b0_2 : Bool) : Option (List T) := f75_t c lf l0_0 n0_1 b0_2
theorem f75_raw (c : Orc) (lf : Nat) (l0_0 : List T) (n0_1 : Int) (b0_2 : Bool) : funK c env lf 6 fi75 [.st [.sl l0_0, .i .i64 n0_1, .b b0_2]] = f75_t c lf l0_0 n0_1 b0_2 := by kernel_rfl
theorem f75_eq (c : Orc) (lf : Nat) (l0_0 : List T) (n0_1 : Int) (b0_2 : Bool) : funK c env lf 6 fi75 [.st [.sl l0_0, .i .i64 n0_1, .b b0_2]] = f75 c lf l0_0 n0_1 b0_2 := by
  refine (f75_raw c lf l0_0 n0_1 b0_2).trans ?_
  rfl
/-- loop.example/g00285/spec.GetText -/
def f139_t (c : Orc) (lf : Nat) (l0 : List T) (n1 : Int) : Option (List T) :=
  (c 126 [T.sl l0, T.i .i64 n1]).bind fun r308 =>
  bif !(asB (nth r308 2)) then
    some [T.s (⟨#[]⟩ : ByteArray), T.i .i64 0, T.b false]
  else
    bif iLt (IntKind.wrap .i64 ((l0.length : Int) - (asI (nth r308 1)))) (asI (nth r308 0)) then
      some [T.s (⟨#[]⟩ : ByteArray), T.i .i64 0, T.b false]
    else
      bif iLe 0 (asI (nth r308 1)) && iLe (asI (nth r308 1)) (IntKind.wrap .i64 ((asI (nth r308 1)) + (asI (nth r308 0)))) && iLe (IntKind.wrap .i64 ((asI (nth r308 1)) + (asI (nth r308 0)))) (l0.length : Int) then
      some [T.s (bytesOf ((l0.drop ((asI (nth r308 1)).toNat)).take (((IntKind.wrap .i64 ((asI (nth r308 1)) + (asI (nth r308 0)))).toNat) - ((asI (nth r308 1)).toNat)))), T.i .i64 (IntKind.wrap .i64 ((asI (nth r308 1)) + (asI (nth r308 0)))), T.b true]
      else none
def f139 (c : Orc) (lf : Nat) (l0 : List T) (n1 : Int) : Option (List T) := f139_t c lf l0 n1
theorem f139_raw (c : Orc) (lf : Nat) (l0 : List T) (n1 : Int) : funK c env lf 6 fi139 [.sl l0, .i .i64 n1] = f139_t c lf l0 n1 := by kernel_rfl
theorem f139_eq (c : Orc) (lf : Nat) (l0 : List T) (n1 : Int) : funK c env lf 6 fi139 [.sl l0, .i .i64 n1] = f139 c lf l0 n1 := by
  refine (f139_raw c lf l0 n1).trans ?_
  rfl
/-- loop.example/g00285/spec.l3Text -/
def f101_t (c : Orc) (lf : Nat) (l0_0 : List T) (n0_1 : Int) (b0_2 : Bool) : Option (List T) :=
  (c 139 [T.sl l0_0, T.i .i64 n0_1]).bind fun r309 =>
  bif b0_2 then
    some [T.s (⟨#[]⟩ : ByteArray), T.st [T.sl l0_0, T.i .i64 n0_1, T.b true]]
  else
    bif !(asB (nth r309 2)) then
      some [T.s (⟨#[]⟩ : ByteArray), T.st [T.sl l0_0, T.i .i64 n0_1, T.b true]]
    else
      some [T.s (asS (nth r309 0)), T.st [T.sl l0_0, T.i .i64 (asI (nth r309 1)), T.b b0_2]]
def f101 (c : Orc) (lf : Nat) (l0_0 : List T) (n0_1 : Int) (b0_2 : Bool) : Option (List T) := f101_t c lf l0_0 n0_1 b0_2
theorem f101_raw (c : Orc) (lf : Nat) (l0_0 : List T) (n0_1 : Int) (b0_2 : Bool) : funK c env lf 6 fi101 [.st [.sl l0_0, .i .i64 n0_1, .b b0_2]] = f101_t c lf l0_0 n0_1 b0_2 := by kernel_rfl
theorem f101_eq (c : Orc) (lf : Nat) (l0_0 : List T) (n0_1 : Int) (b0_2 : Bool) : funK c env lf 6 fi101 [.st [.sl l0_0, .i .i64 n0_1, .b b0_2]] = f101 c lf l0_0 n0_1 b0_2 := by
  refine (f101_raw c lf l0_0 n0_1 b0_2).trans ?_
  rfl
/-- loop.example/g00285/spec.GetInode, the loop at region 8. -/
def f54_0_s (c : Orc) (lf : Nat) (l0 : List T) (r335 : List T) (r336 : List T) (r337 : List T) (r338 : List T) (r339 : List T) (L : Int → Int → Bool → List T → Option (List T)) (x342 : Int) (x343 : Int) (x344 : Bool) (x345 : List T) : Option (List T) :=
  bif iLt x342 (asI (nth r339 0)) then
    bif iLe x342 10 then
      bif !x344 then
        (c 101 [T.st [T.sl l0, T.i .i64 x343, T.b x344]]).bind fun r346 =>
        (c 75 [T.st [T.sl l0, T.i .i64 (asI (T.cell (nth r346 1) 1)), T.b (asB (T.cell (nth r346 1) 2))]]).bind fun r347 =>
        bif nLe (x345.length + ([T.st [T.s (asS (nth r346 0)), T.i .i64 (asI (nth r347 0))]] : List T).length) LIM then
        L (IntKind.wrap .i64 (x342 + 1)) (asI (T.cell (nth r347 1) 1)) (asB (T.cell (nth r347 1) 2)) (x345 ++ ([T.st [T.s (asS (nth r346 0)), T.i .i64 (asI (nth r347 0))]] : List T))
        else none
      else
        some [T.i .i64 0, T.sl l0, T.i .i64 (asI (nth r339 0)), T.i .i64 0, T.i .i64 0, T.i .i64 0, T.sl ([] : List T), T.sl ([] : List T), T.sl ([] : List T), T.sl l0, T.i .i64 x343, T.b x344, T.i .i64 (asI (nth r335 0)), T.i .i64 (asI (nth r336 0)), T.i .i64 (asI (nth r337 0)), T.sl (listOf (asS (nth r338 0))), T.sl x345, T.sl ([] : List T)]
    else
      some [T.i .i64 0, T.sl l0, T.i .i64 (asI (nth r339 0)), T.i .i64 0, T.i .i64 0, T.i .i64 0, T.sl ([] : List T), T.sl ([] : List T), T.sl ([] : List T), T.sl l0, T.i .i64 x343, T.b x344, T.i .i64 (asI (nth r335 0)), T.i .i64 (asI (nth r336 0)), T.i .i64 (asI (nth r337 0)), T.sl (listOf (asS (nth r338 0))), T.sl x345, T.sl ([] : List T)]
  else
    some [T.i .i64 0, T.sl l0, T.i .i64 (asI (nth r339 0)), T.i .i64 0, T.i .i64 0, T.i .i64 0, T.sl ([] : List T), T.sl ([] : List T), T.sl ([] : List T), T.sl l0, T.i .i64 x343, T.b x344, T.i .i64 (asI (nth r335 0)), T.i .i64 (asI (nth r336 0)), T.i .i64 (asI (nth r337 0)), T.sl (listOf (asS (nth r338 0))), T.sl x345, T.sl ([] : List T)]
def f54_0_c (l0 : List T) (r335 : List T) (r336 : List T) (r337 : List T) (r338 : List T) (r339 : List T) (x342 : Int) (x343 : Int) (x344 : Bool) (x345 : List T) : CSt := ⟨[.ro 0 false [.i .u8] l0, .bp 1 0, .bp 5 0, .bp 6 0, .i .i64 (asI (nth r339 0)), .i .i64 x342], [.dead, .box [.i .i64 0, .i .i64 0, .i .i64 0, .rf 2 [] 0 none, .rf 3 [] 0 none, .rf 4 [] 0 none], .row false [.i .u8] ([] : List T) 0 false, .row true [.s, .i .i64] ([] : List T) 0 false, .row true [.s, .s] ([] : List T) 0 false, .box [.ro 0 false [.i .u8] l0, .i .i64 x343, .b x344], .box [.i .i64 (asI (nth r335 0)), .i .i64 (asI (nth r336 0)), .i .i64 (asI (nth r337 0)), .rf 7 [] 0 none, .rf 8 [] 0 none, .rf 9 [] 0 none], .row false [.i .u8] (listOf (asS (nth r338 0))) 0 false, .row true [.s, .i .i64] x345 0 false, .row true [.s, .s] ([] : List T) 0 false]⟩
theorem f54_0_round (c : Orc) (lf : Nat) (l0 : List T) (r335 : List T) (r336 : List T) (r337 : List T) (r338 : List T) (r339 : List T) (L : CSt → Option (List T)) (x342 : Int) (x343 : Int) (x344 : Bool) (x345 : List T) :
    roundK c env lf 6 fi54 1 8 [] [0, 2, 4, 5, 6, 7] (x54_8_0) L (f54_0_c l0 r335 r336 r337 r338 r339 x342 x343 x344 x345) = f54_0_s c lf l0 r335 r336 r337 r338 r339 (fun x342 x343 x344 x345 => L (f54_0_c l0 r335 r336 r337 r338 r339 x342 x343 x344 x345)) x342 x343 x344 x345 := by kernel_rfl
def f54_0 (c : Orc) (lf : Nat) (l0 : List T) (r335 : List T) (r336 : List T) (r337 : List T) (r338 : List T) (r339 : List T) : Nat → Int → Int → Bool → List T → Option (List T)
  | 0 => fun _ _ _ _ => none
  | n + 1 => fun x342 x343 x344 x345 => f54_0_s c lf l0 r335 r336 r337 r338 r339 (f54_0 c lf l0 r335 r336 r337 r338 r339 n) x342 x343 x344 x345
theorem f54_0_u (c : Orc) (lf : Nat) (l0 : List T) (r335 : List T) (r336 : List T) (r337 : List T) (r338 : List T) (r339 : List T) (n : Nat) (x342 : Int) (x343 : Int) (x344 : Bool) (x345 : List T) : f54_0 c lf l0 r335 r336 r337 r338 r339 (n + 1) x342 x343 x344 x345 = f54_0_s c lf l0 r335 r336 r337 r338 r339 (f54_0 c lf l0 r335 r336 r337 r338 r339 n) x342 x343 x344 x345 := rfl
theorem f54_0_eq (c : Orc) (lf : Nat) (l0 : List T) (r335 : List T) (r336 : List T) (r337 : List T) (r338 : List T) (r339 : List T) (n : Nat) (x342 : Int) (x343 : Int) (x344 : Bool) (x345 : List T) :
    lpK c env lf 6 fi54 1 8 [] [0, 2, 4, 5, 6, 7] (x54_8_0) n (f54_0_c l0 r335 r336 r337 r338 r339 x342 x343 x344 x345) = f54_0 c lf l0 r335 r336 r337 r338 r339 n x342 x343 x344 x345 := by
  induction n generalizing x342 x343 x344 x345 with
  | zero => rfl
  | succ n ih =>
    refine (f54_0_round c lf l0 r335 r336 r337 r338 r339 _ x342 x343 x344 x345).trans ?_
    have e : (fun x342 x343 x344 x345 => lpK c env lf 6 fi54 1 8 [] [0, 2, 4, 5, 6, 7] (x54_8_0) n (f54_0_c l0 r335 r336 r337 r338 r339 x342 x343 x344 x345)) = f54_0 c lf l0 r335 r336 r337 r338 r339 n := by funext x342 x343 x344 x345; exact ih x342 x343 x344 x345
    show f54_0_s c lf l0 r335 r336 r337 r338 r339 (fun x342 x343 x344 x345 => lpK c env lf 6 fi54 1 8 [] [0, 2, 4, 5, 6, 7] (x54_8_0) n (f54_0_c l0 r335 r336 r337 r338 r339 x342 x343 x344 x345)) x342 x343 x344 x345 = _
    rw [e]; rfl
/-- loop.example/g00285/spec.GetInode, the loop at region 15. -/
def f54_1_s (c : Orc) (lf : Nat) (r348 : List T) (r349 : List T) (L : Int → Int → Bool → List T → Option (List T)) (x352 : Int) (x353 : Int) (x354 : Bool) (x355 : List T) : Option (List T) :=
  bif iLt x352 (asI (nth r349 0)) then
    bif iLe x352 4 then
      bif !x354 then
        (c 101 [T.st [T.sl (asL (nth r348 9)), T.i .i64 x353, T.b x354]]).bind fun r356 =>
        (c 101 [T.st [T.sl (asL (nth r348 9)), T.i .i64 (asI (T.cell (nth r356 1) 1)), T.b (asB (T.cell (nth r356 1) 2))]]).bind fun r357 =>
        bif nLe (x355.length + ([T.st [T.s (asS (nth r356 0)), T.s (asS (nth r357 0))]] : List T).length) LIM then
        L (IntKind.wrap .i64 (x352 + 1)) (asI (T.cell (nth r357 1) 1)) (asB (T.cell (nth r357 1) 2)) (x355 ++ ([T.st [T.s (asS (nth r356 0)), T.s (asS (nth r357 0))]] : List T))
        else none
      else
        some [T.i .i64 0, T.sl (asL (nth r348 1)), T.i .i64 (asI (nth r348 2)), T.i .i64 (asI (nth r349 0)), T.i .i64 (asI (nth r348 3)), T.i .i64 (asI (nth r348 4)), T.i .i64 (asI (nth r348 5)), T.sl (asL (nth r348 6)), T.sl (asL (nth r348 7)), T.sl (asL (nth r348 8)), T.sl (asL (nth r348 9)), T.i .i64 x353, T.b x354, T.i .i64 (asI (nth r348 12)), T.i .i64 (asI (nth r348 13)), T.i .i64 (asI (nth r348 14)), T.sl (asL (nth r348 15)), T.sl (asL (nth r348 16)), T.sl x355]
    else
      some [T.i .i64 0, T.sl (asL (nth r348 1)), T.i .i64 (asI (nth r348 2)), T.i .i64 (asI (nth r349 0)), T.i .i64 (asI (nth r348 3)), T.i .i64 (asI (nth r348 4)), T.i .i64 (asI (nth r348 5)), T.sl (asL (nth r348 6)), T.sl (asL (nth r348 7)), T.sl (asL (nth r348 8)), T.sl (asL (nth r348 9)), T.i .i64 x353, T.b x354, T.i .i64 (asI (nth r348 12)), T.i .i64 (asI (nth r348 13)), T.i .i64 (asI (nth r348 14)), T.sl (asL (nth r348 15)), T.sl (asL (nth r348 16)), T.sl x355]
  else
    some [T.i .i64 0, T.sl (asL (nth r348 1)), T.i .i64 (asI (nth r348 2)), T.i .i64 (asI (nth r349 0)), T.i .i64 (asI (nth r348 3)), T.i .i64 (asI (nth r348 4)), T.i .i64 (asI (nth r348 5)), T.sl (asL (nth r348 6)), T.sl (asL (nth r348 7)), T.sl (asL (nth r348 8)), T.sl (asL (nth r348 9)), T.i .i64 x353, T.b x354, T.i .i64 (asI (nth r348 12)), T.i .i64 (asI (nth r348 13)), T.i .i64 (asI (nth r348 14)), T.sl (asL (nth r348 15)), T.sl (asL (nth r348 16)), T.sl x355]
def f54_1_c (r348 : List T) (r349 : List T) (x352 : Int) (x353 : Int) (x354 : Bool) (x355 : List T) : CSt := ⟨[.ro 0 false [.i .u8] (asL (nth r348 1)), .bp 1 0, .bp 5 0, .bp 6 0, .i .i64 (asI (nth r348 2)), .i .i64 (asI (nth r349 0)), .i .i64 x352], [.dead, .box [.i .i64 (asI (nth r348 3)), .i .i64 (asI (nth r348 4)), .i .i64 (asI (nth r348 5)), .rf 2 [] 0 none, .rf 3 [] 0 none, .rf 4 [] 0 none], .row false [.i .u8] (asL (nth r348 6)) 0 false, .row true [.s, .i .i64] (asL (nth r348 7)) 0 false, .row true [.s, .s] (asL (nth r348 8)) 0 false, .box [.ro 0 false [.i .u8] (asL (nth r348 9)), .i .i64 x353, .b x354], .box [.i .i64 (asI (nth r348 12)), .i .i64 (asI (nth r348 13)), .i .i64 (asI (nth r348 14)), .rf 7 [] 0 none, .rf 8 [] 0 none, .rf 9 [] 0 none], .row false [.i .u8] (asL (nth r348 15)) 0 false, .row true [.s, .i .i64] (asL (nth r348 16)) 0 false, .row true [.s, .s] x355 0 false]⟩
theorem f54_1_round (c : Orc) (lf : Nat) (r348 : List T) (r349 : List T) (L : CSt → Option (List T)) (x352 : Int) (x353 : Int) (x354 : Bool) (x355 : List T) :
    roundK c env lf 6 fi54 1 15 [] [0, 2, 4, 5, 6, 9, 10] (x54_15_0) L (f54_1_c r348 r349 x352 x353 x354 x355) = f54_1_s c lf r348 r349 (fun x352 x353 x354 x355 => L (f54_1_c r348 r349 x352 x353 x354 x355)) x352 x353 x354 x355 := by kernel_rfl
def f54_1 (c : Orc) (lf : Nat) (r348 : List T) (r349 : List T) : Nat → Int → Int → Bool → List T → Option (List T)
  | 0 => fun _ _ _ _ => none
  | n + 1 => fun x352 x353 x354 x355 => f54_1_s c lf r348 r349 (f54_1 c lf r348 r349 n) x352 x353 x354 x355
theorem f54_1_u (c : Orc) (lf : Nat) (r348 : List T) (r349 : List T) (n : Nat) (x352 : Int) (x353 : Int) (x354 : Bool) (x355 : List T) : f54_1 c lf r348 r349 (n + 1) x352 x353 x354 x355 = f54_1_s c lf r348 r349 (f54_1 c lf r348 r349 n) x352 x353 x354 x355 := rfl
theorem f54_1_eq (c : Orc) (lf : Nat) (r348 : List T) (r349 : List T) (n : Nat) (x352 : Int) (x353 : Int) (x354 : Bool) (x355 : List T) :
    lpK c env lf 6 fi54 1 15 [] [0, 2, 4, 5, 6, 9, 10] (x54_15_0) n (f54_1_c r348 r349 x352 x353 x354 x355) = f54_1 c lf r348 r349 n x352 x353 x354 x355 := by
  induction n generalizing x352 x353 x354 x355 with
  | zero => rfl
  | succ n ih =>
    refine (f54_1_round c lf r348 r349 _ x352 x353 x354 x355).trans ?_
    have e : (fun x352 x353 x354 x355 => lpK c env lf 6 fi54 1 15 [] [0, 2, 4, 5, 6, 9, 10] (x54_15_0) n (f54_1_c r348 r349 x352 x353 x354 x355)) = f54_1 c lf r348 r349 n := by funext x352 x353 x354 x355; exact ih x352 x353 x354 x355
    show f54_1_s c lf r348 r349 (fun x352 x353 x354 x355 => lpK c env lf 6 fi54 1 15 [] [0, 2, 4, 5, 6, 9, 10] (x54_15_0) n (f54_1_c r348 r349 x352 x353 x354 x355)) x352 x353 x354 x355 = _
    rw [e]; rfl
/-- loop.example/g00285/spec.GetInode -/
def f54_t (c : Orc) (lf : Nat) (lp0 : List T → List T → List T → List T → List T → List T → Int → Int → Bool → List T → Option (List T)) (lp1 : List T → List T → Int → Int → Bool → List T → Option (List T)) (l0 : List T) : Option (List T) :=
  (c 75 [T.st [T.sl l0, T.i .i64 0, T.b false]]).bind fun r335 =>
  (c 75 [T.st [T.sl l0, T.i .i64 (asI (T.cell (nth r335 1) 1)), T.b (asB (T.cell (nth r335 1) 2))]]).bind fun r336 =>
  (c 75 [T.st [T.sl l0, T.i .i64 (asI (T.cell (nth r336 1) 1)), T.b (asB (T.cell (nth r336 1) 2))]]).bind fun r337 =>
  (c 101 [T.st [T.sl l0, T.i .i64 (asI (T.cell (nth r337 1) 1)), T.b (asB (T.cell (nth r337 1) 2))]]).bind fun r338 =>
  bif nLe (asS (nth r338 0)).size LIM then
  (c 75 [T.st [T.sl l0, T.i .i64 (asI (T.cell (nth r338 1) 1)), T.b (asB (T.cell (nth r338 1) 2))]]).bind fun r339 =>
  (lp0 l0 r335 r336 r337 r338 r339 0 (asI (T.cell (nth r339 1) 1)) (asB (T.cell (nth r339 1) 2)) ([] : List T)).bind fun r348 =>
  (c 75 [T.st [T.sl (asL (nth r348 9)), T.i .i64 (asI (nth r348 10)), T.b (asB (nth r348 11))]]).bind fun r349 =>
  (lp1 r348 r349 0 (asI (T.cell (nth r349 1) 1)) (asB (T.cell (nth r349 1) 2)) (asL (nth r348 17))).bind fun r358 =>
  bif asB (nth r358 12) then
    some [T.st [T.i .i64 0, T.i .i64 0, T.i .i64 0, T.sl [], T.sl [], T.sl []], T.b false]
  else
    bif (asI (nth r358 11)) != ((asL (nth r358 1)).length : Int) then
      some [T.st [T.i .i64 0, T.i .i64 0, T.i .i64 0, T.sl [], T.sl [], T.sl []], T.b false]
    else
      bif (asI (nth r358 2)) != ((asL (nth r358 17)).length : Int) then
        some [T.st [T.i .i64 0, T.i .i64 0, T.i .i64 0, T.sl [], T.sl [], T.sl []], T.b false]
      else
        bif (asI (nth r358 3)) != ((asL (nth r358 18)).length : Int) then
          some [T.st [T.i .i64 0, T.i .i64 0, T.i .i64 0, T.sl [], T.sl [], T.sl []], T.b false]
        else
          (c 34 [T.st [T.i .i64 (asI (nth r358 13)), T.i .i64 (asI (nth r358 14)), T.i .i64 (asI (nth r358 15)), T.sl (asL (nth r358 16)), T.sl (asL (nth r358 17)), T.sl (asL (nth r358 18))]]).bind fun r359 =>
          bif !(asB (nth r359 0)) then
            some [T.st [T.i .i64 0, T.i .i64 0, T.i .i64 0, T.sl [], T.sl [], T.sl []], T.b false]
          else
            some [T.st [T.i .i64 (asI (nth r358 13)), T.i .i64 (asI (nth r358 14)), T.i .i64 (asI (nth r358 15)), T.sl (asL (nth r358 16)), T.sl (asL (nth r358 17)), T.sl (asL (nth r358 18))], T.b true]
  else none
def f54 (c : Orc) (lf : Nat) (l0 : List T) : Option (List T) := f54_t c lf (fun (l0 : List T) (r335 : List T) (r336 : List T) (r337 : List T) (r338 : List T) (r339 : List T) (x342 : Int) (x343 : Int) (x344 : Bool) (x345 : List T) => f54_0 c lf l0 r335 r336 r337 r338 r339 lf x342 x343 x344 x345) (fun (r348 : List T) (r349 : List T) (x352 : Int) (x353 : Int) (x354 : Bool) (x355 : List T) => f54_1 c lf r348 r349 lf x352 x353 x354 x355) l0
theorem f54_raw (c : Orc) (lf : Nat) (l0 : List T) : funK c env lf 6 fi54 [.sl l0] = f54_t c lf (fun (l0 : List T) (r335 : List T) (r336 : List T) (r337 : List T) (r338 : List T) (r339 : List T) (x342 : Int) (x343 : Int) (x344 : Bool) (x345 : List T) => lpK c env lf 6 fi54 1 8 [] [0, 2, 4, 5, 6, 7] (x54_8_0) lf (f54_0_c l0 r335 r336 r337 r338 r339 x342 x343 x344 x345)) (fun (r348 : List T) (r349 : List T) (x352 : Int) (x353 : Int) (x354 : Bool) (x355 : List T) => lpK c env lf 6 fi54 1 15 [] [0, 2, 4, 5, 6, 9, 10] (x54_15_0) lf (f54_1_c r348 r349 x352 x353 x354 x355)) l0 := by kernel_rfl
theorem f54_eq (c : Orc) (lf : Nat) (l0 : List T) : funK c env lf 6 fi54 [.sl l0] = f54 c lf l0 := by
  refine (f54_raw c lf l0).trans ?_
  have e0 : (fun (l0 : List T) (r335 : List T) (r336 : List T) (r337 : List T) (r338 : List T) (r339 : List T) (x342 : Int) (x343 : Int) (x344 : Bool) (x345 : List T) => lpK c env lf 6 fi54 1 8 [] [0, 2, 4, 5, 6, 7] (x54_8_0) lf (f54_0_c l0 r335 r336 r337 r338 r339 x342 x343 x344 x345)) = (fun (l0 : List T) (r335 : List T) (r336 : List T) (r337 : List T) (r338 : List T) (r339 : List T) (x342 : Int) (x343 : Int) (x344 : Bool) (x345 : List T) => f54_0 c lf l0 r335 r336 r337 r338 r339 lf x342 x343 x344 x345) := by funext l0 r335 r336 r337 r338 r339 x342 x343 x344 x345; exact f54_0_eq c lf l0 r335 r336 r337 r338 r339 lf x342 x343 x344 x345
  have e1 : (fun (r348 : List T) (r349 : List T) (x352 : Int) (x353 : Int) (x354 : Bool) (x355 : List T) => lpK c env lf 6 fi54 1 15 [] [0, 2, 4, 5, 6, 9, 10] (x54_15_0) lf (f54_1_c r348 r349 x352 x353 x354 x355)) = (fun (r348 : List T) (r349 : List T) (x352 : Int) (x353 : Int) (x354 : Bool) (x355 : List T) => f54_1 c lf r348 r349 lf x352 x353 x354 x355) := by funext r348 r349 x352 x353 x354 x355; exact f54_1_eq c lf r348 r349 lf x352 x353 x354 x355
  rw [e0, e1]; rfl
/-- loop.example/g00285/spec.l3Any -/
def f85_t (c : Orc) (lf : Nat) (l0_0 : List T) (n0_1 : Int) (n0_2 : Int) : Option (List T) :=
  (c 117 [T.st [T.sl l0_0, T.i .i64 n0_1, T.i .i64 n0_2]]).bind fun r360 =>
  (c 70 [T.st [T.sl l0_0, T.i .i64 (asI (T.cell (nth r360 1) 1)), T.i .i64 (asI (T.cell (nth r360 1) 2))], T.i .i64 14]).bind fun r361 =>
  bif (asI (nth r361 0)) == 0 then
    (c 71 [T.st [T.sl l0_0, T.i .i64 (asI (T.cell (nth r361 1) 1)), T.i .i64 (asI (T.cell (nth r361 1) 2))], T.sl ([T.i .i64 0, T.i .i64 1, T.i .i64 1000, T.i .i64 1001] : List T)]).bind fun r362 =>
    some [T.st [T.i .i64 (asI (nth r362 0)), T.i .i64 (asI (T.cell (nth r360 0) 1)), T.i .i64 (asI (T.cell (nth r360 0) 2)), T.sl (asL (T.cell (nth r360 0) 3)), T.sl (asL (T.cell (nth r360 0) 4)), T.sl (asL (T.cell (nth r360 0) 5))], T.st [T.sl l0_0, T.i .i64 (asI (T.cell (nth r362 1) 1)), T.i .i64 (asI (T.cell (nth r362 1) 2))]]
  else
    bif (asI (nth r361 0)) == 1 then
      (c 70 [T.st [T.sl l0_0, T.i .i64 (asI (T.cell (nth r361 1) 1)), T.i .i64 (asI (T.cell (nth r361 1) 2))], T.i .i64 4]).bind fun r363 =>
      some [T.st [T.i .i64 (asI (T.cell (nth r360 0) 0)), T.i .i64 (asI (nth r363 0)), T.i .i64 (asI (T.cell (nth r360 0) 2)), T.sl (asL (T.cell (nth r360 0) 3)), T.sl (asL (T.cell (nth r360 0) 4)), T.sl (asL (T.cell (nth r360 0) 5))], T.st [T.sl l0_0, T.i .i64 (asI (T.cell (nth r363 1) 1)), T.i .i64 (asI (T.cell (nth r363 1) 2))]]
    else
      bif (asI (nth r361 0)) == 2 then
        (c 71 [T.st [T.sl l0_0, T.i .i64 (asI (T.cell (nth r361 1) 1)), T.i .i64 (asI (T.cell (nth r361 1) 2))], T.sl ([T.i .i64 (-1), T.i .i64 0, T.i .i64 2, T.i .i64 1001] : List T)]).bind fun r364 =>
        some [T.st [T.i .i64 (asI (T.cell (nth r360 0) 0)), T.i .i64 (asI (T.cell (nth r360 0) 1)), T.i .i64 (asI (nth r364 0)), T.sl (asL (T.cell (nth r360 0) 3)), T.sl (asL (T.cell (nth r360 0) 4)), T.sl (asL (T.cell (nth r360 0) 5))], T.st [T.sl l0_0, T.i .i64 (asI (T.cell (nth r364 1) 1)), T.i .i64 (asI (T.cell (nth r364 1) 2))]]
      else
        bif (asI (nth r361 0)) == 3 then
          bif nLe ((asL (T.cell (nth r360 0) 3)).length + ([T.i .u8 1] : List T).length) LIM then
          some [T.st [T.i .i64 (asI (T.cell (nth r360 0) 0)), T.i .i64 (asI (T.cell (nth r360 0) 1)), T.i .i64 (asI (T.cell (nth r360 0) 2)), T.sl ((asL (T.cell (nth r360 0) 3)) ++ ([T.i .u8 1] : List T)), T.sl (asL (T.cell (nth r360 0) 4)), T.sl (asL (T.cell (nth r360 0) 5))], T.st [T.sl l0_0, T.i .i64 (asI (T.cell (nth r361 1) 1)), T.i .i64 (asI (T.cell (nth r361 1) 2))]]
          else none
        else
          bif (asI (nth r361 0)) == 4 then
            (c 131 [T.st [T.sl l0_0, T.i .i64 (asI (T.cell (nth r361 1) 1)), T.i .i64 (asI (T.cell (nth r361 1) 2))], T.sl ([T.s (⟨#[97]⟩ : ByteArray), T.s (⟨#[122]⟩ : ByteArray), T.s (⟨#[]⟩ : ByteArray), T.s (⟨#[90]⟩ : ByteArray)] : List T)]).bind fun r365 =>
            (c 71 [T.st [T.sl l0_0, T.i .i64 (asI (T.cell (nth r365 1) 1)), T.i .i64 (asI (T.cell (nth r365 1) 2))], T.sl ([T.i .i64 1, T.i .i64 2, T.i .i64 1000, T.i .i64 1001] : List T)]).bind fun r366 =>
            bif nLe ((asL (T.cell (nth r360 0) 4)).length + ([T.st [T.s (asS (nth r365 0)), T.i .i64 (asI (nth r366 0))]] : List T).length) LIM then
            some [T.st [T.i .i64 (asI (T.cell (nth r360 0) 0)), T.i .i64 (asI (T.cell (nth r360 0) 1)), T.i .i64 (asI (T.cell (nth r360 0) 2)), T.sl (asL (T.cell (nth r360 0) 3)), T.sl ((asL (T.cell (nth r360 0) 4)) ++ ([T.st [T.s (asS (nth r365 0)), T.i .i64 (asI (nth r366 0))]] : List T)), T.sl (asL (T.cell (nth r360 0) 5))], T.st [T.sl l0_0, T.i .i64 (asI (T.cell (nth r366 1) 1)), T.i .i64 (asI (T.cell (nth r366 1) 2))]]
            else none
          else
            bif (asI (nth r361 0)) == 5 then
              (c 131 [T.st [T.sl l0_0, T.i .i64 (asI (T.cell (nth r361 1) 1)), T.i .i64 (asI (T.cell (nth r361 1) 2))], T.sl ([T.s (⟨#[97]⟩ : ByteArray), T.s (⟨#[122]⟩ : ByteArray), T.s (⟨#[]⟩ : ByteArray)] : List T)]).bind fun r367 =>
              (c 70 [T.st [T.sl l0_0, T.i .i64 (asI (T.cell (nth r367 1) 1)), T.i .i64 (asI (T.cell (nth r367 1) 2))], T.i .i64 3]).bind fun r368 =>
              bif iLe 0 (IntKind.wrap .i64 (15 + (asI (nth r368 0)))) && iLe (IntKind.wrap .i64 (15 + (asI (nth r368 0)))) (LIM : Int) && ((IntKind.wrap .i64 (15 + (asI (nth r368 0)))) == (IntKind.wrap .i64 (15 + (asI (nth r368 0))))) then
              bif nLe ((asL (T.cell (nth r360 0) 5)).length + ([T.st [T.s (asS (nth r367 0)), T.s (bytesOf (List.replicate (IntKind.wrap .i64 (15 + (asI (nth r368 0)))).toNat (T.i .u8 0)))]] : List T).length) LIM then
              some [T.st [T.i .i64 (asI (T.cell (nth r360 0) 0)), T.i .i64 (asI (T.cell (nth r360 0) 1)), T.i .i64 (asI (T.cell (nth r360 0) 2)), T.sl (asL (T.cell (nth r360 0) 3)), T.sl (asL (T.cell (nth r360 0) 4)), T.sl ((asL (T.cell (nth r360 0) 5)) ++ ([T.st [T.s (asS (nth r367 0)), T.s (bytesOf (List.replicate (IntKind.wrap .i64 (15 + (asI (nth r368 0)))).toNat (T.i .u8 0)))]] : List T))], T.st [T.sl l0_0, T.i .i64 (asI (T.cell (nth r368 1) 1)), T.i .i64 (asI (T.cell (nth r368 1) 2))]]
              else none
              else none
            else
              some [T.st [T.i .i64 (asI (T.cell (nth r360 0) 0)), T.i .i64 (asI (T.cell (nth r360 0) 1)), T.i .i64 (asI (T.cell (nth r360 0) 2)), T.sl (asL (T.cell (nth r360 0) 3)), T.sl (asL (T.cell (nth r360 0) 4)), T.sl (asL (T.cell (nth r360 0) 5))], T.st [T.sl l0_0, T.i .i64 (asI (T.cell (nth r361 1) 1)), T.i .i64 (asI (T.cell (nth r361 1) 2))]]
def f85 (c : Orc) (lf : Nat) (l0_0 : List T) (n0_1 : Int) (n0_2 : Int) : Option (List T) := f85_t c lf l0_0 n0_1 n0_2
theorem f85_raw (c : Orc) (lf : Nat) (l0_0 : List T) (n0_1 : Int) (n0_2 : Int) : funK c env lf 6 fi85 [.st [.sl l0_0, .i .i64 n0_1, .i .i64 n0_2]] = f85_t c lf l0_0 n0_1 n0_2 := by kernel_rfl
theorem f85_eq (c : Orc) (lf : Nat) (l0_0 : List T) (n0_1 : Int) (n0_2 : Int) : funK c env lf 6 fi85 [.st [.sl l0_0, .i .i64 n0_1, .i .i64 n0_2]] = f85 c lf l0_0 n0_1 n0_2 := by
  refine (f85_raw c lf l0_0 n0_1 n0_2).trans ?_
  rfl
/-- loop.example/g00285/spec.l3Copy -/
def f119_t (c : Orc) (lf : Nat) (n0_0 : Int) (n0_1 : Int) (n0_2 : Int) (l0_3 : List T) (l0_4 : List T) (l0_5 : List T) : Option (List T) :=
  bif nLe (([] : List T).length + l0_3.length) LIM then
  bif nLe (([] : List T).length + l0_4.length) LIM then
  bif nLe (([] : List T).length + l0_5.length) LIM then
  some [T.st [T.i .i64 n0_0, T.i .i64 n0_1, T.i .i64 n0_2, T.sl (([] : List T) ++ l0_3), T.sl (([] : List T) ++ l0_4), T.sl (([] : List T) ++ l0_5)]]
  else none
  else none
  else none
def f119 (c : Orc) (lf : Nat) (n0_0 : Int) (n0_1 : Int) (n0_2 : Int) (l0_3 : List T) (l0_4 : List T) (l0_5 : List T) : Option (List T) := f119_t c lf n0_0 n0_1 n0_2 l0_3 l0_4 l0_5
theorem f119_raw (c : Orc) (lf : Nat) (n0_0 : Int) (n0_1 : Int) (n0_2 : Int) (l0_3 : List T) (l0_4 : List T) (l0_5 : List T) : funK c env lf 6 fi119 [.st [.i .i64 n0_0, .i .i64 n0_1, .i .i64 n0_2, .sl l0_3, .sl l0_4, .sl l0_5]] = f119_t c lf n0_0 n0_1 n0_2 l0_3 l0_4 l0_5 := by kernel_rfl
theorem f119_eq (c : Orc) (lf : Nat) (n0_0 : Int) (n0_1 : Int) (n0_2 : Int) (l0_3 : List T) (l0_4 : List T) (l0_5 : List T) : funK c env lf 6 fi119 [.st [.i .i64 n0_0, .i .i64 n0_1, .i .i64 n0_2, .sl l0_3, .sl l0_4, .sl l0_5]] = f119 c lf n0_0 n0_1 n0_2 l0_3 l0_4 l0_5 := by
  refine (f119_raw c lf n0_0 n0_1 n0_2 l0_3 l0_4 l0_5).trans ?_
  rfl
/-- loop.example/g00285/spec.DrawSameInode -/
def f59_t (c : Orc) (lf : Nat) (l0 : List T) : Option (List T) :=
  (c 65 [T.sl l0]).bind fun r369 =>
  (c 85 [T.st [T.sl (asL (T.cell (nth r369 0) 0)), T.i .i64 (asI (T.cell (nth r369 0) 1)), T.i .i64 (asI (T.cell (nth r369 0) 2))]]).bind fun r370 =>
  (c 118 [T.st [T.sl (asL (T.cell (nth r369 0) 0)), T.i .i64 (asI (T.cell (nth r370 1) 1)), T.i .i64 (asI (T.cell (nth r370 1) 2))], T.i .i64 2]).bind fun r371 =>
  bif asB (nth r371 0) then
    (c 119 [T.st [T.i .i64 (asI (T.cell (nth r370 0) 0)), T.i .i64 (asI (T.cell (nth r370 0) 1)), T.i .i64 (asI (T.cell (nth r370 0) 2)), T.sl (asL (T.cell (nth r370 0) 3)), T.sl (asL (T.cell (nth r370 0) 4)), T.sl (asL (T.cell (nth r370 0) 5))]]).bind fun r372 =>
    some [T.st [T.i .i64 (asI (T.cell (nth r370 0) 0)), T.i .i64 (asI (T.cell (nth r370 0) 1)), T.i .i64 (asI (T.cell (nth r370 0) 2)), T.sl (asL (T.cell (nth r370 0) 3)), T.sl (asL (T.cell (nth r370 0) 4)), T.sl (asL (T.cell (nth r370 0) 5))], T.st [T.i .i64 (asI (T.cell (nth r372 0) 0)), T.i .i64 (asI (T.cell (nth r372 0) 1)), T.i .i64 (asI (T.cell (nth r372 0) 2)), T.sl (asL (T.cell (nth r372 0) 3)), T.sl (asL (T.cell (nth r372 0) 4)), T.sl (asL (T.cell (nth r372 0) 5))]]
  else
    (c 85 [T.st [T.sl (asL (T.cell (nth r369 0) 0)), T.i .i64 (asI (T.cell (nth r371 1) 1)), T.i .i64 (asI (T.cell (nth r371 1) 2))]]).bind fun r373 =>
    some [T.st [T.i .i64 (asI (T.cell (nth r370 0) 0)), T.i .i64 (asI (T.cell (nth r370 0) 1)), T.i .i64 (asI (T.cell (nth r370 0) 2)), T.sl (asL (T.cell (nth r370 0) 3)), T.sl (asL (T.cell (nth r370 0) 4)), T.sl (asL (T.cell (nth r370 0) 5))], T.st [T.i .i64 (asI (T.cell (nth r373 0) 0)), T.i .i64 (asI (T.cell (nth r373 0) 1)), T.i .i64 (asI (T.cell (nth r373 0) 2)), T.sl (asL (T.cell (nth r373 0) 3)), T.sl (asL (T.cell (nth r373 0) 4)), T.sl (asL (T.cell (nth r373 0) 5))]]
def f59 (c : Orc) (lf : Nat) (l0 : List T) : Option (List T) := f59_t c lf l0
theorem f59_raw (c : Orc) (lf : Nat) (l0 : List T) : funK c env lf 6 fi59 [.sl l0] = f59_t c lf l0 := by kernel_rfl
theorem f59_eq (c : Orc) (lf : Nat) (l0 : List T) : funK c env lf 6 fi59 [.sl l0] = f59 c lf l0 := by
  refine (f59_raw c lf l0).trans ?_
  rfl
/-- loop.example/g00285/impl.PutNum, the loop at region 3. -/
def f67_0_s (c : Orc) (lf : Nat) (L : Int → List T → Option (List T)) (x379 : Int) (x380 : List T) : Option (List T) :=
  bif iLe 128 x379 then
    bif nLe (x380.length + ([T.i .u8 (IntKind.wrap .u8 (IntKind.wrap .i64 ((x379.tmod 128) + 128)))] : List T).length) LIM then
    L (IntKind.wrap .i64 (x379.tdiv 128)) (x380 ++ ([T.i .u8 (IntKind.wrap .u8 (IntKind.wrap .i64 ((x379.tmod 128) + 128)))] : List T))
    else none
  else
    some [T.i .i64 0, T.i .i64 x379, T.sl x380]
def f67_0_c (x379 : Int) (x380 : List T) : CSt := ⟨[.i .i64 x379, .rf 2 [] 0 none], [.dead, .dead, .row false [.i .u8] x380 0 false]⟩
theorem f67_0_round (c : Orc) (lf : Nat) (L : CSt → Option (List T)) (x379 : Int) (x380 : List T) :
    roundK c env lf 6 fi67 2 3 [] [1, 5] (x67_3_0) L (f67_0_c x379 x380) = f67_0_s c lf (fun x379 x380 => L (f67_0_c x379 x380)) x379 x380 := by kernel_rfl
def f67_0 (c : Orc) (lf : Nat) : Nat → Int → List T → Option (List T)
  | 0 => fun _ _ => none
  | n + 1 => fun x379 x380 => f67_0_s c lf (f67_0 c lf n) x379 x380
theorem f67_0_u (c : Orc) (lf : Nat) (n : Nat) (x379 : Int) (x380 : List T) : f67_0 c lf (n + 1) x379 x380 = f67_0_s c lf (f67_0 c lf n) x379 x380 := rfl
theorem f67_0_eq (c : Orc) (lf : Nat) (n : Nat) (x379 : Int) (x380 : List T) :
    lpK c env lf 6 fi67 2 3 [] [1, 5] (x67_3_0) n (f67_0_c x379 x380) = f67_0 c lf n x379 x380 := by
  induction n generalizing x379 x380 with
  | zero => rfl
  | succ n ih =>
    refine (f67_0_round c lf _ x379 x380).trans ?_
    have e : (fun x379 x380 => lpK c env lf 6 fi67 2 3 [] [1, 5] (x67_3_0) n (f67_0_c x379 x380)) = f67_0 c lf n := by funext x379 x380; exact ih x379 x380
    show f67_0_s c lf (fun x379 x380 => lpK c env lf 6 fi67 2 3 [] [1, 5] (x67_3_0) n (f67_0_c x379 x380)) x379 x380 = _
    rw [e]; rfl
/-- loop.example/g00285/impl.PutNum -/
def f67_t (c : Orc) (lf : Nat) (lp0 : Int → List T → Option (List T)) (l0 : List T) (n1 : Int) : Option (List T) :=
  (c 123 [T.sl l0]).bind fun r378 =>
  (lp0 (imax 0 (imin n1 1000000)) (asL (nth r378 0))).bind fun r381 =>
  bif nLe ((asL (nth r381 2)).length + ([T.i .u8 (IntKind.wrap .u8 (asI (nth r381 1)))] : List T).length) LIM then
  some [T.sl ((asL (nth r381 2)) ++ ([T.i .u8 (IntKind.wrap .u8 (asI (nth r381 1)))] : List T))]
  else none
def f67 (c : Orc) (lf : Nat) (l0 : List T) (n1 : Int) : Option (List T) := f67_t c lf (fun (x379 : Int) (x380 : List T) => f67_0 c lf lf x379 x380) l0 n1
theorem f67_raw (c : Orc) (lf : Nat) (l0 : List T) (n1 : Int) : funK c env lf 6 fi67 [.sl l0, .i .i64 n1] = f67_t c lf (fun (x379 : Int) (x380 : List T) => lpK c env lf 6 fi67 2 3 [] [1, 5] (x67_3_0) lf (f67_0_c x379 x380)) l0 n1 := by kernel_rfl
theorem f67_eq (c : Orc) (lf : Nat) (l0 : List T) (n1 : Int) : funK c env lf 6 fi67 [.sl l0, .i .i64 n1] = f67 c lf l0 n1 := by
  refine (f67_raw c lf l0 n1).trans ?_
  have e0 : (fun (x379 : Int) (x380 : List T) => lpK c env lf 6 fi67 2 3 [] [1, 5] (x67_3_0) lf (f67_0_c x379 x380)) = (fun (x379 : Int) (x380 : List T) => f67_0 c lf lf x379 x380) := by funext x379 x380; exact f67_0_eq c lf lf x379 x380
  rw [e0]; rfl
/-- loop.example/g00285/impl.PutText -/
def f82_t (c : Orc) (lf : Nat) (l0 : List T) (s1 : ByteArray) : Option (List T) :=
  (c 67 [T.sl l0, T.i .i64 (s1.size : Int)]).bind fun r382 =>
  bif nLe ((asL (nth r382 0)).length + (listOf s1).length) LIM then
  some [T.sl ((asL (nth r382 0)) ++ (listOf s1))]
  else none
def f82 (c : Orc) (lf : Nat) (l0 : List T) (s1 : ByteArray) : Option (List T) := f82_t c lf l0 s1
theorem f82_raw (c : Orc) (lf : Nat) (l0 : List T) (s1 : ByteArray) : funK c env lf 6 fi82 [.sl l0, .s s1] = f82_t c lf l0 s1 := by kernel_rfl
theorem f82_eq (c : Orc) (lf : Nat) (l0 : List T) (s1 : ByteArray) : funK c env lf 6 fi82 [.sl l0, .s s1] = f82 c lf l0 s1 := by
  refine (f82_raw c lf l0 s1).trans ?_
  rfl
/-- loop.example/g00285/impl.putAttrs, the loop at region 3. -/
def f86_0_s (c : Orc) (lf : Nat) (l1 : List T) (L : Int → List T → Option (List T)) (x394 : Int) (x395 : List T) : Option (List T) :=
  bif iLt x394 (l1.length : Int) then
    bif inR x394 l1.length then
    (c 82 [T.sl x395, T.s (asS (T.cell (l1.getD x394.toNat T.u) 0))]).bind fun r396 =>
    (c 82 [T.sl (asL (nth r396 0)), T.s (asS (T.cell (l1.getD x394.toNat T.u) 1))]).bind fun r397 =>
    L (IntKind.wrap .i64 (x394 + 1)) (asL (nth r397 0))
    else none
  else
    some [T.i .i64 0, T.sl x395]
def f86_0_c (l1 : List T) (x394 : Int) (x395 : List T) : CSt := ⟨[.rf 2 [] 0 none, .ro 0 true [.s, .s] l1, .i .i64 (l1.length : Int), .i .i64 x394], [.dead, .dead, .row false [.i .u8] x395 0 false]⟩
theorem f86_0_round (c : Orc) (lf : Nat) (l1 : List T) (L : CSt → Option (List T)) (x394 : Int) (x395 : List T) :
    roundK c env lf 6 fi86 2 3 [] [0, 11, 12, 13] (x86_3_0) L (f86_0_c l1 x394 x395) = f86_0_s c lf l1 (fun x394 x395 => L (f86_0_c l1 x394 x395)) x394 x395 := by kernel_rfl
def f86_0 (c : Orc) (lf : Nat) (l1 : List T) : Nat → Int → List T → Option (List T)
  | 0 => fun _ _ => none
  | n + 1 => fun x394 x395 => f86_0_s c lf l1 (f86_0 c lf l1 n) x394 x395
theorem f86_0_u (c : Orc) (lf : Nat) (l1 : List T) (n : Nat) (x394 : Int) (x395 : List T) : f86_0 c lf l1 (n + 1) x394 x395 = f86_0_s c lf l1 (f86_0 c lf l1 n) x394 x395 := rfl
theorem f86_0_eq (c : Orc) (lf : Nat) (l1 : List T) (n : Nat) (x394 : Int) (x395 : List T) :
    lpK c env lf 6 fi86 2 3 [] [0, 11, 12, 13] (x86_3_0) n (f86_0_c l1 x394 x395) = f86_0 c lf l1 n x394 x395 := by
  induction n generalizing x394 x395 with
  | zero => rfl
  | succ n ih =>
    refine (f86_0_round c lf l1 _ x394 x395).trans ?_
    have e : (fun x394 x395 => lpK c env lf 6 fi86 2 3 [] [0, 11, 12, 13] (x86_3_0) n (f86_0_c l1 x394 x395)) = f86_0 c lf l1 n := by funext x394 x395; exact ih x394 x395
    show f86_0_s c lf l1 (fun x394 x395 => lpK c env lf 6 fi86 2 3 [] [0, 11, 12, 13] (x86_3_0) n (f86_0_c l1 x394 x395)) x394 x395 = _
    rw [e]; rfl
/-- loop.example/g00285/impl.putAttrs -/
def f86_t (c : Orc) (lf : Nat) (lp0 : List T → Int → List T → Option (List T)) (l0 : List T) (l1 : List T) : Option (List T) :=
  (c 67 [T.sl l0, T.i .i64 (l1.length : Int)]).bind fun r391 =>
  (lp0 l1 0 (asL (nth r391 0))).bind fun r398 =>
  some [T.sl (asL (nth r398 1))]
def f86 (c : Orc) (lf : Nat) (l0 : List T) (l1 : List T) : Option (List T) := f86_t c lf (fun (l1 : List T) (x394 : Int) (x395 : List T) => f86_0 c lf l1 lf x394 x395) l0 l1
theorem f86_raw (c : Orc) (lf : Nat) (l0 : List T) (l1 : List T) : funK c env lf 6 fi86 [.sl l0, .sl l1] = f86_t c lf (fun (l1 : List T) (x394 : Int) (x395 : List T) => lpK c env lf 6 fi86 2 3 [] [0, 11, 12, 13] (x86_3_0) lf (f86_0_c l1 x394 x395)) l0 l1 := by kernel_rfl
theorem f86_eq (c : Orc) (lf : Nat) (l0 : List T) (l1 : List T) : funK c env lf 6 fi86 [.sl l0, .sl l1] = f86 c lf l0 l1 := by
  refine (f86_raw c lf l0 l1).trans ?_
  have e0 : (fun (l1 : List T) (x394 : Int) (x395 : List T) => lpK c env lf 6 fi86 2 3 [] [0, 11, 12, 13] (x86_3_0) lf (f86_0_c l1 x394 x395)) = (fun (l1 : List T) (x394 : Int) (x395 : List T) => f86_0 c lf l1 lf x394 x395) := by funext l1 x394 x395; exact f86_0_eq c lf l1 lf x394 x395
  rw [e0]; rfl
/-- loop.example/g00285/impl.PutInode, the loop at region 6. -/
def f33_0_s (c : Orc) (lf : Nat) (l0_3 : List T) (l0_4 : List T) (l0_5 : List T) (n0_0 : Int) (n0_1 : Int) (n0_2 : Int) (L : Int → List T → Option (List T)) (x421 : Int) (x422 : List T) : Option (List T) :=
  bif iLt x421 (l0_4.length : Int) then
    bif inR x421 l0_4.length then
    (c 82 [T.sl x422, T.s (asS (T.cell (l0_4.getD x421.toNat T.u) 0))]).bind fun r423 =>
    (c 67 [T.sl (asL (nth r423 0)), T.i .i64 (asI (T.cell (l0_4.getD x421.toNat T.u) 1))]).bind fun r424 =>
    L (IntKind.wrap .i64 (x421 + 1)) (asL (nth r424 0))
    else none
  else
    some [T.i .i64 0, T.i .i64 n0_0, T.i .i64 n0_1, T.i .i64 n0_2, T.sl l0_3, T.sl l0_4, T.sl l0_5, T.sl x422]
def f33_0_c (l0_3 : List T) (l0_4 : List T) (l0_5 : List T) (n0_0 : Int) (n0_1 : Int) (n0_2 : Int) (x421 : Int) (x422 : List T) : CSt := ⟨[.bp 6 0, .rf 7 [] 0 none, .ro 0 true [.s, .i .i64] l0_4, .i .i64 (l0_4.length : Int), .i .i64 x421], [.dead, .dead, .dead, .dead, .dead, .dead, .box [.i .i64 n0_0, .i .i64 n0_1, .i .i64 n0_2, .ro 0 false [.i .u8] l0_3, .ro 0 true [.s, .i .i64] l0_4, .ro 0 true [.s, .s] l0_5], .row false [.i .u8] x422 0 false]⟩
theorem f33_0_round (c : Orc) (lf : Nat) (l0_3 : List T) (l0_4 : List T) (l0_5 : List T) (n0_0 : Int) (n0_1 : Int) (n0_2 : Int) (L : CSt → Option (List T)) (x421 : Int) (x422 : List T) :
    roundK c env lf 6 fi33 6 6 [] [1, 3, 28, 29, 30] (x33_6_0) L (f33_0_c l0_3 l0_4 l0_5 n0_0 n0_1 n0_2 x421 x422) = f33_0_s c lf l0_3 l0_4 l0_5 n0_0 n0_1 n0_2 (fun x421 x422 => L (f33_0_c l0_3 l0_4 l0_5 n0_0 n0_1 n0_2 x421 x422)) x421 x422 := by kernel_rfl
def f33_0 (c : Orc) (lf : Nat) (l0_3 : List T) (l0_4 : List T) (l0_5 : List T) (n0_0 : Int) (n0_1 : Int) (n0_2 : Int) : Nat → Int → List T → Option (List T)
  | 0 => fun _ _ => none
  | n + 1 => fun x421 x422 => f33_0_s c lf l0_3 l0_4 l0_5 n0_0 n0_1 n0_2 (f33_0 c lf l0_3 l0_4 l0_5 n0_0 n0_1 n0_2 n) x421 x422
theorem f33_0_u (c : Orc) (lf : Nat) (l0_3 : List T) (l0_4 : List T) (l0_5 : List T) (n0_0 : Int) (n0_1 : Int) (n0_2 : Int) (n : Nat) (x421 : Int) (x422 : List T) : f33_0 c lf l0_3 l0_4 l0_5 n0_0 n0_1 n0_2 (n + 1) x421 x422 = f33_0_s c lf l0_3 l0_4 l0_5 n0_0 n0_1 n0_2 (f33_0 c lf l0_3 l0_4 l0_5 n0_0 n0_1 n0_2 n) x421 x422 := rfl
theorem f33_0_eq (c : Orc) (lf : Nat) (l0_3 : List T) (l0_4 : List T) (l0_5 : List T) (n0_0 : Int) (n0_1 : Int) (n0_2 : Int) (n : Nat) (x421 : Int) (x422 : List T) :
    lpK c env lf 6 fi33 6 6 [] [1, 3, 28, 29, 30] (x33_6_0) n (f33_0_c l0_3 l0_4 l0_5 n0_0 n0_1 n0_2 x421 x422) = f33_0 c lf l0_3 l0_4 l0_5 n0_0 n0_1 n0_2 n x421 x422 := by
  induction n generalizing x421 x422 with
  | zero => rfl
  | succ n ih =>
    refine (f33_0_round c lf l0_3 l0_4 l0_5 n0_0 n0_1 n0_2 _ x421 x422).trans ?_
    have e : (fun x421 x422 => lpK c env lf 6 fi33 6 6 [] [1, 3, 28, 29, 30] (x33_6_0) n (f33_0_c l0_3 l0_4 l0_5 n0_0 n0_1 n0_2 x421 x422)) = f33_0 c lf l0_3 l0_4 l0_5 n0_0 n0_1 n0_2 n := by funext x421 x422; exact ih x421 x422
    show f33_0_s c lf l0_3 l0_4 l0_5 n0_0 n0_1 n0_2 (fun x421 x422 => lpK c env lf 6 fi33 6 6 [] [1, 3, 28, 29, 30] (x33_6_0) n (f33_0_c l0_3 l0_4 l0_5 n0_0 n0_1 n0_2 x421 x422)) x421 x422 = _
    rw [e]; rfl
/-- loop.example/g00285/impl.PutInode -/
def f33_t (c : Orc) (lf : Nat) (lp0 : List T → List T → List T → Int → Int → Int → Int → List T → Option (List T)) (n0_0 : Int) (n0_1 : Int) (n0_2 : Int) (l0_3 : List T) (l0_4 : List T) (l0_5 : List T) : Option (List T) :=
  (c 35 [T.st [T.i .i64 n0_0, T.i .i64 n0_1, T.i .i64 n0_2, T.sl l0_3, T.sl l0_4, T.sl l0_5]]).bind fun r413 =>
  bif !(asB (nth r413 0)) then
    some [T.sl []]
  else
    (c 67 [T.sl ([] : List T), T.i .i64 n0_0]).bind fun r414 =>
    (c 67 [T.sl (asL (nth r414 0)), T.i .i64 n0_1]).bind fun r415 =>
    (c 67 [T.sl (asL (nth r415 0)), T.i .i64 n0_2]).bind fun r416 =>
    (c 82 [T.sl (asL (nth r416 0)), T.s (bytesOf l0_3)]).bind fun r417 =>
    (c 67 [T.sl (asL (nth r417 0)), T.i .i64 (l0_4.length : Int)]).bind fun r418 =>
    (lp0 l0_3 l0_4 l0_5 n0_0 n0_1 n0_2 0 (asL (nth r418 0))).bind fun r425 =>
    (c 86 [T.sl (asL (nth r425 7)), T.sl (asL (nth r425 6))]).bind fun r426 =>
    some [T.sl (asL (nth r426 0))]
def f33 (c : Orc) (lf : Nat) (n0_0 : Int) (n0_1 : Int) (n0_2 : Int) (l0_3 : List T) (l0_4 : List T) (l0_5 : List T) : Option (List T) := f33_t c lf (fun (l0_3 : List T) (l0_4 : List T) (l0_5 : List T) (n0_0 : Int) (n0_1 : Int) (n0_2 : Int) (x421 : Int) (x422 : List T) => f33_0 c lf l0_3 l0_4 l0_5 n0_0 n0_1 n0_2 lf x421 x422) n0_0 n0_1 n0_2 l0_3 l0_4 l0_5
theorem f33_raw (c : Orc) (lf : Nat) (n0_0 : Int) (n0_1 : Int) (n0_2 : Int) (l0_3 : List T) (l0_4 : List T) (l0_5 : List T) : funK c env lf 6 fi33 [.st [.i .i64 n0_0, .i .i64 n0_1, .i .i64 n0_2, .sl l0_3, .sl l0_4, .sl l0_5]] = f33_t c lf (fun (l0_3 : List T) (l0_4 : List T) (l0_5 : List T) (n0_0 : Int) (n0_1 : Int) (n0_2 : Int) (x421 : Int) (x422 : List T) => lpK c env lf 6 fi33 6 6 [] [1, 3, 28, 29, 30] (x33_6_0) lf (f33_0_c l0_3 l0_4 l0_5 n0_0 n0_1 n0_2 x421 x422)) n0_0 n0_1 n0_2 l0_3 l0_4 l0_5 := by kernel_rfl
theorem f33_eq (c : Orc) (lf : Nat) (n0_0 : Int) (n0_1 : Int) (n0_2 : Int) (l0_3 : List T) (l0_4 : List T) (l0_5 : List T) : funK c env lf 6 fi33 [.st [.i .i64 n0_0, .i .i64 n0_1, .i .i64 n0_2, .sl l0_3, .sl l0_4, .sl l0_5]] = f33 c lf n0_0 n0_1 n0_2 l0_3 l0_4 l0_5 := by
  refine (f33_raw c lf n0_0 n0_1 n0_2 l0_3 l0_4 l0_5).trans ?_
  have e0 : (fun (l0_3 : List T) (l0_4 : List T) (l0_5 : List T) (n0_0 : Int) (n0_1 : Int) (n0_2 : Int) (x421 : Int) (x422 : List T) => lpK c env lf 6 fi33 6 6 [] [1, 3, 28, 29, 30] (x33_6_0) lf (f33_0_c l0_3 l0_4 l0_5 n0_0 n0_1 n0_2 x421 x422)) = (fun (l0_3 : List T) (l0_4 : List T) (l0_5 : List T) (n0_0 : Int) (n0_1 : Int) (n0_2 : Int) (x421 : Int) (x422 : List T) => f33_0 c lf l0_3 l0_4 l0_5 n0_0 n0_1 n0_2 lf x421 x422) := by funext l0_3 l0_4 l0_5 n0_0 n0_1 n0_2 x421 x422; exact f33_0_eq c lf l0_3 l0_4 l0_5 n0_0 n0_1 n0_2 lf x421 x422
  rw [e0]; rfl
/-- loop.example/g00285/laws.sameBytes, the loop at region 4. -/
def f20_0_s (c : Orc) (lf : Nat) (l0 : List T) (l1 : List T) (L : Int → Option (List T)) (x429 : Int) : Option (List T) :=
  bif iLt x429 (l0.length : Int) then
    bif inR x429 l0.length then
    bif inR x429 l1.length then
    bif (asI (l0.getD x429.toNat T.u)) != (asI (l1.getD x429.toNat T.u)) then
      some [T.i .i64 0, T.b false]
    else
      L (IntKind.wrap .i64 (x429 + 1))
    else none
    else none
  else
    some [T.i .i64 1]
def f20_0_c (l0 : List T) (l1 : List T) (x429 : Int) : CSt := ⟨[.ro 0 false [.i .u8] l0, .ro 0 false [.i .u8] l1, .i .i64 x429], [.dead, .dead]⟩
theorem f20_0_round (c : Orc) (lf : Nat) (l0 : List T) (l1 : List T) (L : CSt → Option (List T)) (x429 : Int) :
    roundK c env lf 6 fi20 2 4 [] [0, 1, 5] (x20_4_0) L (f20_0_c l0 l1 x429) = f20_0_s c lf l0 l1 (fun x429 => L (f20_0_c l0 l1 x429)) x429 := by kernel_rfl
def f20_0 (c : Orc) (lf : Nat) (l0 : List T) (l1 : List T) : Nat → Int → Option (List T)
  | 0 => fun _ => none
  | n + 1 => fun x429 => f20_0_s c lf l0 l1 (f20_0 c lf l0 l1 n) x429
theorem f20_0_u (c : Orc) (lf : Nat) (l0 : List T) (l1 : List T) (n : Nat) (x429 : Int) : f20_0 c lf l0 l1 (n + 1) x429 = f20_0_s c lf l0 l1 (f20_0 c lf l0 l1 n) x429 := rfl
theorem f20_0_eq (c : Orc) (lf : Nat) (l0 : List T) (l1 : List T) (n : Nat) (x429 : Int) :
    lpK c env lf 6 fi20 2 4 [] [0, 1, 5] (x20_4_0) n (f20_0_c l0 l1 x429) = f20_0 c lf l0 l1 n x429 := by
  induction n generalizing x429 with
  | zero => rfl
  | succ n ih =>
    refine (f20_0_round c lf l0 l1 _ x429).trans ?_
    have e : (fun x429 => lpK c env lf 6 fi20 2 4 [] [0, 1, 5] (x20_4_0) n (f20_0_c l0 l1 x429)) = f20_0 c lf l0 l1 n := by funext x429; exact ih x429
    show f20_0_s c lf l0 l1 (fun x429 => lpK c env lf 6 fi20 2 4 [] [0, 1, 5] (x20_4_0) n (f20_0_c l0 l1 x429)) x429 = _
    rw [e]; rfl
/-- loop.example/g00285/laws.sameBytes -/
def f20_t (c : Orc) (lf : Nat) (lp0 : List T → List T → Int → Option (List T)) (l0 : List T) (l1 : List T) : Option (List T) :=
  bif (l0.length : Int) != (l1.length : Int) then
    some [T.b false]
  else
    (lp0 l0 l1 0).bind fun r430 =>
    bif asI (nth r430 0) == 0 then
      some [T.b (asB (nth r430 1))]
    else
      some [T.b true]
def f20 (c : Orc) (lf : Nat) (l0 : List T) (l1 : List T) : Option (List T) := f20_t c lf (fun (l0 : List T) (l1 : List T) (x429 : Int) => f20_0 c lf l0 l1 lf x429) l0 l1
theorem f20_raw (c : Orc) (lf : Nat) (l0 : List T) (l1 : List T) : funK c env lf 6 fi20 [.sl l0, .sl l1] = f20_t c lf (fun (l0 : List T) (l1 : List T) (x429 : Int) => lpK c env lf 6 fi20 2 4 [] [0, 1, 5] (x20_4_0) lf (f20_0_c l0 l1 x429)) l0 l1 := by kernel_rfl
theorem f20_eq (c : Orc) (lf : Nat) (l0 : List T) (l1 : List T) : funK c env lf 6 fi20 [.sl l0, .sl l1] = f20 c lf l0 l1 := by
  refine (f20_raw c lf l0 l1).trans ?_
  have e0 : (fun (l0 : List T) (l1 : List T) (x429 : Int) => lpK c env lf 6 fi20 2 4 [] [0, 1, 5] (x20_4_0) lf (f20_0_c l0 l1 x429)) = (fun (l0 : List T) (l1 : List T) (x429 : Int) => f20_0 c lf l0 l1 lf x429) := by funext l0 l1 x429; exact f20_0_eq c lf l0 l1 lf x429
  rw [e0]; rfl
/-- slices.Equal[[]byte,byte], the loop at region 4. -/
def f93_0_s (c : Orc) (lf : Nat) (l0 : List T) (l1 : List T) (L : Int → Option (List T)) (x433 : Int) : Option (List T) :=
  bif iLt x433 (l0.length : Int) then
    bif inR x433 l0.length then
    bif inR x433 l1.length then
    bif (asI (l0.getD x433.toNat T.u)) != (asI (l1.getD x433.toNat T.u)) then
      some [T.i .i64 0, T.b false]
    else
      L (IntKind.wrap .i64 (x433 + 1))
    else none
    else none
  else
    some [T.i .i64 1]
def f93_0_c (l0 : List T) (l1 : List T) (x433 : Int) : CSt := ⟨[.ro 0 false [.i .u8] l0, .ro 0 false [.i .u8] l1, .i .i64 (l0.length : Int), .i .i64 x433], [.dead, .dead]⟩
theorem f93_0_round (c : Orc) (lf : Nat) (l0 : List T) (l1 : List T) (L : CSt → Option (List T)) (x433 : Int) :
    roundK c env lf 6 fi93 2 4 [] [0, 1, 12, 13] (x93_4_0) L (f93_0_c l0 l1 x433) = f93_0_s c lf l0 l1 (fun x433 => L (f93_0_c l0 l1 x433)) x433 := by kernel_rfl
def f93_0 (c : Orc) (lf : Nat) (l0 : List T) (l1 : List T) : Nat → Int → Option (List T)
  | 0 => fun _ => none
  | n + 1 => fun x433 => f93_0_s c lf l0 l1 (f93_0 c lf l0 l1 n) x433
theorem f93_0_u (c : Orc) (lf : Nat) (l0 : List T) (l1 : List T) (n : Nat) (x433 : Int) : f93_0 c lf l0 l1 (n + 1) x433 = f93_0_s c lf l0 l1 (f93_0 c lf l0 l1 n) x433 := rfl
theorem f93_0_eq (c : Orc) (lf : Nat) (l0 : List T) (l1 : List T) (n : Nat) (x433 : Int) :
    lpK c env lf 6 fi93 2 4 [] [0, 1, 12, 13] (x93_4_0) n (f93_0_c l0 l1 x433) = f93_0 c lf l0 l1 n x433 := by
  induction n generalizing x433 with
  | zero => rfl
  | succ n ih =>
    refine (f93_0_round c lf l0 l1 _ x433).trans ?_
    have e : (fun x433 => lpK c env lf 6 fi93 2 4 [] [0, 1, 12, 13] (x93_4_0) n (f93_0_c l0 l1 x433)) = f93_0 c lf l0 l1 n := by funext x433; exact ih x433
    show f93_0_s c lf l0 l1 (fun x433 => lpK c env lf 6 fi93 2 4 [] [0, 1, 12, 13] (x93_4_0) n (f93_0_c l0 l1 x433)) x433 = _
    rw [e]; rfl
/-- slices.Equal[[]byte,byte] -/
def f93_t (c : Orc) (lf : Nat) (lp0 : List T → List T → Int → Option (List T)) (l0 : List T) (l1 : List T) : Option (List T) :=
  bif (l0.length : Int) != (l1.length : Int) then
    some [T.b false]
  else
    (lp0 l0 l1 0).bind fun r434 =>
    bif asI (nth r434 0) == 0 then
      some [T.b (asB (nth r434 1))]
    else
      some [T.b true]
def f93 (c : Orc) (lf : Nat) (l0 : List T) (l1 : List T) : Option (List T) := f93_t c lf (fun (l0 : List T) (l1 : List T) (x433 : Int) => f93_0 c lf l0 l1 lf x433) l0 l1
theorem f93_raw (c : Orc) (lf : Nat) (l0 : List T) (l1 : List T) : funK c env lf 6 fi93 [.sl l0, .sl l1] = f93_t c lf (fun (l0 : List T) (l1 : List T) (x433 : Int) => lpK c env lf 6 fi93 2 4 [] [0, 1, 12, 13] (x93_4_0) lf (f93_0_c l0 l1 x433)) l0 l1 := by kernel_rfl
theorem f93_eq (c : Orc) (lf : Nat) (l0 : List T) (l1 : List T) : funK c env lf 6 fi93 [.sl l0, .sl l1] = f93 c lf l0 l1 := by
  refine (f93_raw c lf l0 l1).trans ?_
  have e0 : (fun (l0 : List T) (l1 : List T) (x433 : Int) => lpK c env lf 6 fi93 2 4 [] [0, 1, 12, 13] (x93_4_0) lf (f93_0_c l0 l1 x433)) = (fun (l0 : List T) (l1 : List T) (x433 : Int) => f93_0 c lf l0 l1 lf x433) := by funext l0 l1 x433; exact f93_0_eq c lf l0 l1 lf x433
  rw [e0]; rfl
/-- slices.Equal[[]loop.example/g00285/impl.Ent,loop.example/g00285/impl.Ent], the loop at region 4. -/
def f94_0_s (c : Orc) (lf : Nat) (l0 : List T) (l1 : List T) (L : Int → Option (List T)) (x437 : Int) : Option (List T) :=
  bif iLt x437 (l0.length : Int) then
    bif inR x437 l0.length then
    bif inR x437 l1.length then
    bif !(((asS (T.cell (l0.getD x437.toNat T.u) 0)) == (asS (T.cell (l1.getD x437.toNat T.u) 0))) && (((asI (T.cell (l0.getD x437.toNat T.u) 1)) == (asI (T.cell (l1.getD x437.toNat T.u) 1))) && (true))) then
      some [T.i .i64 0, T.b false]
    else
      L (IntKind.wrap .i64 (x437 + 1))
    else none
    else none
  else
    some [T.i .i64 1]
def f94_0_c (l0 : List T) (l1 : List T) (x437 : Int) : CSt := ⟨[.ro 0 true [.s, .i .i64] l0, .ro 0 true [.s, .i .i64] l1, .i .i64 (l0.length : Int), .i .i64 x437], [.dead, .dead]⟩
theorem f94_0_round (c : Orc) (lf : Nat) (l0 : List T) (l1 : List T) (L : CSt → Option (List T)) (x437 : Int) :
    roundK c env lf 6 fi94 2 4 [] [0, 1, 12, 13] (x94_4_0) L (f94_0_c l0 l1 x437) = f94_0_s c lf l0 l1 (fun x437 => L (f94_0_c l0 l1 x437)) x437 := by kernel_rfl
def f94_0 (c : Orc) (lf : Nat) (l0 : List T) (l1 : List T) : Nat → Int → Option (List T)
  | 0 => fun _ => none
  | n + 1 => fun x437 => f94_0_s c lf l0 l1 (f94_0 c lf l0 l1 n) x437
theorem f94_0_u (c : Orc) (lf : Nat) (l0 : List T) (l1 : List T) (n : Nat) (x437 : Int) : f94_0 c lf l0 l1 (n + 1) x437 = f94_0_s c lf l0 l1 (f94_0 c lf l0 l1 n) x437 := rfl
theorem f94_0_eq (c : Orc) (lf : Nat) (l0 : List T) (l1 : List T) (n : Nat) (x437 : Int) :
    lpK c env lf 6 fi94 2 4 [] [0, 1, 12, 13] (x94_4_0) n (f94_0_c l0 l1 x437) = f94_0 c lf l0 l1 n x437 := by
  induction n generalizing x437 with
  | zero => rfl
  | succ n ih =>
    refine (f94_0_round c lf l0 l1 _ x437).trans ?_
    have e : (fun x437 => lpK c env lf 6 fi94 2 4 [] [0, 1, 12, 13] (x94_4_0) n (f94_0_c l0 l1 x437)) = f94_0 c lf l0 l1 n := by funext x437; exact ih x437
    show f94_0_s c lf l0 l1 (fun x437 => lpK c env lf 6 fi94 2 4 [] [0, 1, 12, 13] (x94_4_0) n (f94_0_c l0 l1 x437)) x437 = _
    rw [e]; rfl
/-- slices.Equal[[]loop.example/g00285/impl.Ent,loop.example/g00285/impl.Ent] -/
def f94_t (c : Orc) (lf : Nat) (lp0 : List T → List T → Int → Option (List T)) (l0 : List T) (l1 : List T) : Option (List T) :=
  bif (l0.length : Int) != (l1.length : Int) then
    some [T.b false]
  else
    (lp0 l0 l1 0).bind fun r438 =>
    bif asI (nth r438 0) == 0 then
      some [T.b (asB (nth r438 1))]
    else
      some [T.b true]
def f94 (c : Orc) (lf : Nat) (l0 : List T) (l1 : List T) : Option (List T) := f94_t c lf (fun (l0 : List T) (l1 : List T) (x437 : Int) => f94_0 c lf l0 l1 lf x437) l0 l1
theorem f94_raw (c : Orc) (lf : Nat) (l0 : List T) (l1 : List T) : funK c env lf 6 fi94 [.sl l0, .sl l1] = f94_t c lf (fun (l0 : List T) (l1 : List T) (x437 : Int) => lpK c env lf 6 fi94 2 4 [] [0, 1, 12, 13] (x94_4_0) lf (f94_0_c l0 l1 x437)) l0 l1 := by kernel_rfl
theorem f94_eq (c : Orc) (lf : Nat) (l0 : List T) (l1 : List T) : funK c env lf 6 fi94 [.sl l0, .sl l1] = f94 c lf l0 l1 := by
  refine (f94_raw c lf l0 l1).trans ?_
  have e0 : (fun (l0 : List T) (l1 : List T) (x437 : Int) => lpK c env lf 6 fi94 2 4 [] [0, 1, 12, 13] (x94_4_0) lf (f94_0_c l0 l1 x437)) = (fun (l0 : List T) (l1 : List T) (x437 : Int) => f94_0 c lf l0 l1 lf x437) := by funext l0 l1 x437; exact f94_0_eq c lf l0 l1 lf x437
  rw [e0]; rfl
/-- slices.Equal[[]loop.example/g00285/impl.Attr,loop.example/g00285/impl.Attr], the loop at region 4. -/
def f95_0_s (c : Orc) (lf : Nat) (l0 : List T) (l1 : List T) (L : Int → Option (List T)) (x441 : Int) : Option (List T) :=
  bif iLt x441 (l0.length : Int) then
    bif inR x441 l0.length then
    bif inR x441 l1.length then
    bif !(((asS (T.cell (l0.getD x441.toNat T.u) 0)) == (asS (T.cell (l1.getD x441.toNat T.u) 0))) && (((asS (T.cell (l0.getD x441.toNat T.u) 1)) == (asS (T.cell (l1.getD x441.toNat T.u) 1))) && (true))) then
      some [T.i .i64 0, T.b false]
    else
      L (IntKind.wrap .i64 (x441 + 1))
    else none
    else none
  else
    some [T.i .i64 1]
def f95_0_c (l0 : List T) (l1 : List T) (x441 : Int) : CSt := ⟨[.ro 0 true [.s, .s] l0, .ro 0 true [.s, .s] l1, .i .i64 (l0.length : Int), .i .i64 x441], [.dead, .dead]⟩
theorem f95_0_round (c : Orc) (lf : Nat) (l0 : List T) (l1 : List T) (L : CSt → Option (List T)) (x441 : Int) :
    roundK c env lf 6 fi95 2 4 [] [0, 1, 12, 13] (x95_4_0) L (f95_0_c l0 l1 x441) = f95_0_s c lf l0 l1 (fun x441 => L (f95_0_c l0 l1 x441)) x441 := by kernel_rfl
def f95_0 (c : Orc) (lf : Nat) (l0 : List T) (l1 : List T) : Nat → Int → Option (List T)
  | 0 => fun _ => none
  | n + 1 => fun x441 => f95_0_s c lf l0 l1 (f95_0 c lf l0 l1 n) x441
theorem f95_0_u (c : Orc) (lf : Nat) (l0 : List T) (l1 : List T) (n : Nat) (x441 : Int) : f95_0 c lf l0 l1 (n + 1) x441 = f95_0_s c lf l0 l1 (f95_0 c lf l0 l1 n) x441 := rfl
theorem f95_0_eq (c : Orc) (lf : Nat) (l0 : List T) (l1 : List T) (n : Nat) (x441 : Int) :
    lpK c env lf 6 fi95 2 4 [] [0, 1, 12, 13] (x95_4_0) n (f95_0_c l0 l1 x441) = f95_0 c lf l0 l1 n x441 := by
  induction n generalizing x441 with
  | zero => rfl
  | succ n ih =>
    refine (f95_0_round c lf l0 l1 _ x441).trans ?_
    have e : (fun x441 => lpK c env lf 6 fi95 2 4 [] [0, 1, 12, 13] (x95_4_0) n (f95_0_c l0 l1 x441)) = f95_0 c lf l0 l1 n := by funext x441; exact ih x441
    show f95_0_s c lf l0 l1 (fun x441 => lpK c env lf 6 fi95 2 4 [] [0, 1, 12, 13] (x95_4_0) n (f95_0_c l0 l1 x441)) x441 = _
    rw [e]; rfl
/-- slices.Equal[[]loop.example/g00285/impl.Attr,loop.example/g00285/impl.Attr] -/
def f95_t (c : Orc) (lf : Nat) (lp0 : List T → List T → Int → Option (List T)) (l0 : List T) (l1 : List T) : Option (List T) :=
  bif (l0.length : Int) != (l1.length : Int) then
    some [T.b false]
  else
    (lp0 l0 l1 0).bind fun r442 =>
    bif asI (nth r442 0) == 0 then
      some [T.b (asB (nth r442 1))]
    else
      some [T.b true]
def f95 (c : Orc) (lf : Nat) (l0 : List T) (l1 : List T) : Option (List T) := f95_t c lf (fun (l0 : List T) (l1 : List T) (x441 : Int) => f95_0 c lf l0 l1 lf x441) l0 l1
theorem f95_raw (c : Orc) (lf : Nat) (l0 : List T) (l1 : List T) : funK c env lf 6 fi95 [.sl l0, .sl l1] = f95_t c lf (fun (l0 : List T) (l1 : List T) (x441 : Int) => lpK c env lf 6 fi95 2 4 [] [0, 1, 12, 13] (x95_4_0) lf (f95_0_c l0 l1 x441)) l0 l1 := by kernel_rfl
theorem f95_eq (c : Orc) (lf : Nat) (l0 : List T) (l1 : List T) : funK c env lf 6 fi95 [.sl l0, .sl l1] = f95 c lf l0 l1 := by
  refine (f95_raw c lf l0 l1).trans ?_
  have e0 : (fun (l0 : List T) (l1 : List T) (x441 : Int) => lpK c env lf 6 fi95 2 4 [] [0, 1, 12, 13] (x95_4_0) lf (f95_0_c l0 l1 x441)) = (fun (l0 : List T) (l1 : List T) (x441 : Int) => f95_0 c lf l0 l1 lf x441) := by funext l0 l1 x441; exact f95_0_eq c lf l0 l1 lf x441
  rw [e0]; rfl
/-- loop.example/g00285/impl.SameInode -/
def f38_t (c : Orc) (lf : Nat) (n0_0 : Int) (n0_1 : Int) (n0_2 : Int) (l0_3 : List T) (l0_4 : List T) (l0_5 : List T) (n1_0 : Int) (n1_1 : Int) (n1_2 : Int) (l1_3 : List T) (l1_4 : List T) (l1_5 : List T) : Option (List T) :=
  bif n0_0 == n1_0 then
    bif n0_1 == n1_1 then
      bif n0_2 == n1_2 then
        (c 93 [T.sl l0_3, T.sl l1_3]).bind fun r443 =>
        bif asB (nth r443 0) then
          (c 94 [T.sl l0_4, T.sl l1_4]).bind fun r444 =>
          bif asB (nth r444 0) then
            (c 95 [T.sl l0_5, T.sl l1_5]).bind fun r445 =>
            some [T.b (asB (nth r445 0))]
          else
            some [T.b false]
        else
          some [T.b false]
      else
        some [T.b false]
    else
      some [T.b false]
  else
    some [T.b false]
def f38 (c : Orc) (lf : Nat) (n0_0 : Int) (n0_1 : Int) (n0_2 : Int) (l0_3 : List T) (l0_4 : List T) (l0_5 : List T) (n1_0 : Int) (n1_1 : Int) (n1_2 : Int) (l1_3 : List T) (l1_4 : List T) (l1_5 : List T) : Option (List T) := f38_t c lf n0_0 n0_1 n0_2 l0_3 l0_4 l0_5 n1_0 n1_1 n1_2 l1_3 l1_4 l1_5
theorem f38_raw (c : Orc) (lf : Nat) (n0_0 : Int) (n0_1 : Int) (n0_2 : Int) (l0_3 : List T) (l0_4 : List T) (l0_5 : List T) (n1_0 : Int) (n1_1 : Int) (n1_2 : Int) (l1_3 : List T) (l1_4 : List T) (l1_5 : List T) : funK c env lf 6 fi38 [.st [.i .i64 n0_0, .i .i64 n0_1, .i .i64 n0_2, .sl l0_3, .sl l0_4, .sl l0_5], .st [.i .i64 n1_0, .i .i64 n1_1, .i .i64 n1_2, .sl l1_3, .sl l1_4, .sl l1_5]] = f38_t c lf n0_0 n0_1 n0_2 l0_3 l0_4 l0_5 n1_0 n1_1 n1_2 l1_3 l1_4 l1_5 := by kernel_rfl
theorem f38_eq (c : Orc) (lf : Nat) (n0_0 : Int) (n0_1 : Int) (n0_2 : Int) (l0_3 : List T) (l0_4 : List T) (l0_5 : List T) (n1_0 : Int) (n1_1 : Int) (n1_2 : Int) (l1_3 : List T) (l1_4 : List T) (l1_5 : List T) : funK c env lf 6 fi38 [.st [.i .i64 n0_0, .i .i64 n0_1, .i .i64 n0_2, .sl l0_3, .sl l0_4, .sl l0_5], .st [.i .i64 n1_0, .i .i64 n1_1, .i .i64 n1_2, .sl l1_3, .sl l1_4, .sl l1_5]] = f38 c lf n0_0 n0_1 n0_2 l0_3 l0_4 l0_5 n1_0 n1_1 n1_2 l1_3 l1_4 l1_5 := by
  refine (f38_raw c lf n0_0 n0_1 n0_2 l0_3 l0_4 l0_5 n1_0 n1_1 n1_2 l1_3 l1_4 l1_5).trans ?_
  rfl
/-- loop.example/g00285/spec.l3SameBytes, the loop at region 4. -/
def f120_0_s (c : Orc) (lf : Nat) (l0 : List T) (l1 : List T) (L : Int → Option (List T)) (x448 : Int) : Option (List T) :=
  bif iLt x448 (l0.length : Int) then
    bif inR x448 l0.length then
    bif inR x448 l1.length then
    bif (asI (l0.getD x448.toNat T.u)) != (asI (l1.getD x448.toNat T.u)) then
      some [T.i .i64 0, T.b false]
    else
      L (IntKind.wrap .i64 (x448 + 1))
    else none
    else none
  else
    some [T.i .i64 1]
def f120_0_c (l0 : List T) (l1 : List T) (x448 : Int) : CSt := ⟨[.ro 0 false [.i .u8] l0, .ro 0 false [.i .u8] l1, .i .i64 x448], [.dead, .dead]⟩
theorem f120_0_round (c : Orc) (lf : Nat) (l0 : List T) (l1 : List T) (L : CSt → Option (List T)) (x448 : Int) :
    roundK c env lf 6 fi120 2 4 [] [0, 1, 5] (x120_4_0) L (f120_0_c l0 l1 x448) = f120_0_s c lf l0 l1 (fun x448 => L (f120_0_c l0 l1 x448)) x448 := by kernel_rfl
def f120_0 (c : Orc) (lf : Nat) (l0 : List T) (l1 : List T) : Nat → Int → Option (List T)
  | 0 => fun _ => none
  | n + 1 => fun x448 => f120_0_s c lf l0 l1 (f120_0 c lf l0 l1 n) x448
theorem f120_0_u (c : Orc) (lf : Nat) (l0 : List T) (l1 : List T) (n : Nat) (x448 : Int) : f120_0 c lf l0 l1 (n + 1) x448 = f120_0_s c lf l0 l1 (f120_0 c lf l0 l1 n) x448 := rfl
theorem f120_0_eq (c : Orc) (lf : Nat) (l0 : List T) (l1 : List T) (n : Nat) (x448 : Int) :
    lpK c env lf 6 fi120 2 4 [] [0, 1, 5] (x120_4_0) n (f120_0_c l0 l1 x448) = f120_0 c lf l0 l1 n x448 := by
  induction n generalizing x448 with
  | zero => rfl
  | succ n ih =>
    refine (f120_0_round c lf l0 l1 _ x448).trans ?_
    have e : (fun x448 => lpK c env lf 6 fi120 2 4 [] [0, 1, 5] (x120_4_0) n (f120_0_c l0 l1 x448)) = f120_0 c lf l0 l1 n := by funext x448; exact ih x448
    show f120_0_s c lf l0 l1 (fun x448 => lpK c env lf 6 fi120 2 4 [] [0, 1, 5] (x120_4_0) n (f120_0_c l0 l1 x448)) x448 = _
    rw [e]; rfl
/-- loop.example/g00285/spec.l3SameBytes -/
def f120_t (c : Orc) (lf : Nat) (lp0 : List T → List T → Int → Option (List T)) (l0 : List T) (l1 : List T) : Option (List T) :=
  bif (l0.length : Int) != (l1.length : Int) then
    some [T.b false]
  else
    (lp0 l0 l1 0).bind fun r449 =>
    bif asI (nth r449 0) == 0 then
      some [T.b (asB (nth r449 1))]
    else
      some [T.b true]
def f120 (c : Orc) (lf : Nat) (l0 : List T) (l1 : List T) : Option (List T) := f120_t c lf (fun (l0 : List T) (l1 : List T) (x448 : Int) => f120_0 c lf l0 l1 lf x448) l0 l1
theorem f120_raw (c : Orc) (lf : Nat) (l0 : List T) (l1 : List T) : funK c env lf 6 fi120 [.sl l0, .sl l1] = f120_t c lf (fun (l0 : List T) (l1 : List T) (x448 : Int) => lpK c env lf 6 fi120 2 4 [] [0, 1, 5] (x120_4_0) lf (f120_0_c l0 l1 x448)) l0 l1 := by kernel_rfl
theorem f120_eq (c : Orc) (lf : Nat) (l0 : List T) (l1 : List T) : funK c env lf 6 fi120 [.sl l0, .sl l1] = f120 c lf l0 l1 := by
  refine (f120_raw c lf l0 l1).trans ?_
  have e0 : (fun (l0 : List T) (l1 : List T) (x448 : Int) => lpK c env lf 6 fi120 2 4 [] [0, 1, 5] (x120_4_0) lf (f120_0_c l0 l1 x448)) = (fun (l0 : List T) (l1 : List T) (x448 : Int) => f120_0 c lf l0 l1 lf x448) := by funext l0 l1 x448; exact f120_0_eq c lf l0 l1 lf x448
  rw [e0]; rfl
/-- loop.example/g00285/spec.SameInode, the loop at region 4. -/
def f60_0_s (c : Orc) (lf : Nat) (l0_3 : List T) (l0_4 : List T) (l0_5 : List T) (l1_3 : List T) (l1_4 : List T) (l1_5 : List T) (n0_0 : Int) (n0_1 : Int) (n0_2 : Int) (n1_0 : Int) (n1_1 : Int) (n1_2 : Int) (L : Int → Option (List T)) (x456 : Int) : Option (List T) :=
  bif iLt x456 (l0_4.length : Int) then
    bif inR x456 l0_4.length then
    bif inR x456 l1_4.length then
    bif !(((asS (T.cell (l0_4.getD x456.toNat T.u) 0)) == (asS (T.cell (l1_4.getD x456.toNat T.u) 0))) && (((asI (T.cell (l0_4.getD x456.toNat T.u) 1)) == (asI (T.cell (l1_4.getD x456.toNat T.u) 1))) && (true))) then
      some [T.i .i64 0, T.b false]
    else
      L (IntKind.wrap .i64 (x456 + 1))
    else none
    else none
  else
    some [T.i .i64 1, T.i .i64 n0_0, T.i .i64 n0_1, T.i .i64 n0_2, T.sl l0_3, T.sl l0_4, T.sl l0_5, T.i .i64 n1_0, T.i .i64 n1_1, T.i .i64 n1_2, T.sl l1_3, T.sl l1_4, T.sl l1_5]
def f60_0_c (l0_3 : List T) (l0_4 : List T) (l0_5 : List T) (l1_3 : List T) (l1_4 : List T) (l1_5 : List T) (n0_0 : Int) (n0_1 : Int) (n0_2 : Int) (n1_0 : Int) (n1_1 : Int) (n1_2 : Int) (x456 : Int) : CSt := ⟨[.bp 12 0, .bp 13 0, .i .i64 x456], [.dead, .dead, .dead, .dead, .dead, .dead, .dead, .dead, .dead, .dead, .dead, .dead, .box [.i .i64 n0_0, .i .i64 n0_1, .i .i64 n0_2, .ro 0 false [.i .u8] l0_3, .ro 0 true [.s, .i .i64] l0_4, .ro 0 true [.s, .s] l0_5], .box [.i .i64 n1_0, .i .i64 n1_1, .i .i64 n1_2, .ro 0 false [.i .u8] l1_3, .ro 0 true [.s, .i .i64] l1_4, .ro 0 true [.s, .s] l1_5]]⟩
theorem f60_0_round (c : Orc) (lf : Nat) (l0_3 : List T) (l0_4 : List T) (l0_5 : List T) (l1_3 : List T) (l1_4 : List T) (l1_5 : List T) (n0_0 : Int) (n0_1 : Int) (n0_2 : Int) (n1_0 : Int) (n1_1 : Int) (n1_2 : Int) (L : CSt → Option (List T)) (x456 : Int) :
    roundK c env lf 6 fi60 12 4 [] [2, 3, 5] (x60_4_0) L (f60_0_c l0_3 l0_4 l0_5 l1_3 l1_4 l1_5 n0_0 n0_1 n0_2 n1_0 n1_1 n1_2 x456) = f60_0_s c lf l0_3 l0_4 l0_5 l1_3 l1_4 l1_5 n0_0 n0_1 n0_2 n1_0 n1_1 n1_2 (fun x456 => L (f60_0_c l0_3 l0_4 l0_5 l1_3 l1_4 l1_5 n0_0 n0_1 n0_2 n1_0 n1_1 n1_2 x456)) x456 := by kernel_rfl
def f60_0 (c : Orc) (lf : Nat) (l0_3 : List T) (l0_4 : List T) (l0_5 : List T) (l1_3 : List T) (l1_4 : List T) (l1_5 : List T) (n0_0 : Int) (n0_1 : Int) (n0_2 : Int) (n1_0 : Int) (n1_1 : Int) (n1_2 : Int) : Nat → Int → Option (List T)
  | 0 => fun _ => none
  | n + 1 => fun x456 => f60_0_s c lf l0_3 l0_4 l0_5 l1_3 l1_4 l1_5 n0_0 n0_1 n0_2 n1_0 n1_1 n1_2 (f60_0 c lf l0_3 l0_4 l0_5 l1_3 l1_4 l1_5 n0_0 n0_1 n0_2 n1_0 n1_1 n1_2 n) x456
theorem f60_0_u (c : Orc) (lf : Nat) (l0_3 : List T) (l0_4 : List T) (l0_5 : List T) (l1_3 : List T) (l1_4 : List T) (l1_5 : List T) (n0_0 : Int) (n0_1 : Int) (n0_2 : Int) (n1_0 : Int) (n1_1 : Int) (n1_2 : Int) (n : Nat) (x456 : Int) : f60_0 c lf l0_3 l0_4 l0_5 l1_3 l1_4 l1_5 n0_0 n0_1 n0_2 n1_0 n1_1 n1_2 (n + 1) x456 = f60_0_s c lf l0_3 l0_4 l0_5 l1_3 l1_4 l1_5 n0_0 n0_1 n0_2 n1_0 n1_1 n1_2 (f60_0 c lf l0_3 l0_4 l0_5 l1_3 l1_4 l1_5 n0_0 n0_1 n0_2 n1_0 n1_1 n1_2 n) x456 := rfl
theorem f60_0_eq (c : Orc) (lf : Nat) (l0_3 : List T) (l0_4 : List T) (l0_5 : List T) (l1_3 : List T) (l1_4 : List T) (l1_5 : List T) (n0_0 : Int) (n0_1 : Int) (n0_2 : Int) (n1_0 : Int) (n1_1 : Int) (n1_2 : Int) (n : Nat) (x456 : Int) :
    lpK c env lf 6 fi60 12 4 [] [2, 3, 5] (x60_4_0) n (f60_0_c l0_3 l0_4 l0_5 l1_3 l1_4 l1_5 n0_0 n0_1 n0_2 n1_0 n1_1 n1_2 x456) = f60_0 c lf l0_3 l0_4 l0_5 l1_3 l1_4 l1_5 n0_0 n0_1 n0_2 n1_0 n1_1 n1_2 n x456 := by
  induction n generalizing x456 with
  | zero => rfl
  | succ n ih =>
    refine (f60_0_round c lf l0_3 l0_4 l0_5 l1_3 l1_4 l1_5 n0_0 n0_1 n0_2 n1_0 n1_1 n1_2 _ x456).trans ?_
    have e : (fun x456 => lpK c env lf 6 fi60 12 4 [] [2, 3, 5] (x60_4_0) n (f60_0_c l0_3 l0_4 l0_5 l1_3 l1_4 l1_5 n0_0 n0_1 n0_2 n1_0 n1_1 n1_2 x456)) = f60_0 c lf l0_3 l0_4 l0_5 l1_3 l1_4 l1_5 n0_0 n0_1 n0_2 n1_0 n1_1 n1_2 n := by funext x456; exact ih x456
    show f60_0_s c lf l0_3 l0_4 l0_5 l1_3 l1_4 l1_5 n0_0 n0_1 n0_2 n1_0 n1_1 n1_2 (fun x456 => lpK c env lf 6 fi60 12 4 [] [2, 3, 5] (x60_4_0) n (f60_0_c l0_3 l0_4 l0_5 l1_3 l1_4 l1_5 n0_0 n0_1 n0_2 n1_0 n1_1 n1_2 x456)) x456 = _
    rw [e]; rfl
/-- loop.example/g00285/spec.SameInode, the loop at region 9. -/
def f60_1_s (c : Orc) (lf : Nat) (r457 : List T) (L : Int → Option (List T)) (x458 : Int) : Option (List T) :=
  bif iLt x458 ((asL (nth r457 6)).length : Int) then
    bif inR x458 ((asL (nth r457 6)).length) then
    bif inR x458 ((asL (nth r457 12)).length) then
    bif !(((asS (T.cell ((asL (nth r457 6)).getD x458.toNat T.u) 0)) == (asS (T.cell ((asL (nth r457 12)).getD x458.toNat T.u) 0))) && (((asS (T.cell ((asL (nth r457 6)).getD x458.toNat T.u) 1)) == (asS (T.cell ((asL (nth r457 12)).getD x458.toNat T.u) 1))) && (true))) then
      some [T.i .i64 0, T.b false]
    else
      L (IntKind.wrap .i64 (x458 + 1))
    else none
    else none
  else
    some [T.i .i64 1]
def f60_1_c (r457 : List T) (x458 : Int) : CSt := ⟨[.bp 12 0, .bp 13 0, .i .i64 x458], [.dead, .dead, .dead, .dead, .dead, .dead, .dead, .dead, .dead, .dead, .dead, .dead, .box [.i .i64 (asI (nth r457 1)), .i .i64 (asI (nth r457 2)), .i .i64 (asI (nth r457 3)), .ro 0 false [.i .u8] (asL (nth r457 4)), .ro 0 true [.s, .i .i64] (asL (nth r457 5)), .ro 0 true [.s, .s] (asL (nth r457 6))], .box [.i .i64 (asI (nth r457 7)), .i .i64 (asI (nth r457 8)), .i .i64 (asI (nth r457 9)), .ro 0 false [.i .u8] (asL (nth r457 10)), .ro 0 true [.s, .i .i64] (asL (nth r457 11)), .ro 0 true [.s, .s] (asL (nth r457 12))]]⟩
theorem f60_1_round (c : Orc) (lf : Nat) (r457 : List T) (L : CSt → Option (List T)) (x458 : Int) :
    roundK c env lf 6 fi60 12 9 [] [2, 3, 6] (x60_9_0) L (f60_1_c r457 x458) = f60_1_s c lf r457 (fun x458 => L (f60_1_c r457 x458)) x458 := by kernel_rfl
def f60_1 (c : Orc) (lf : Nat) (r457 : List T) : Nat → Int → Option (List T)
  | 0 => fun _ => none
  | n + 1 => fun x458 => f60_1_s c lf r457 (f60_1 c lf r457 n) x458
theorem f60_1_u (c : Orc) (lf : Nat) (r457 : List T) (n : Nat) (x458 : Int) : f60_1 c lf r457 (n + 1) x458 = f60_1_s c lf r457 (f60_1 c lf r457 n) x458 := rfl
theorem f60_1_eq (c : Orc) (lf : Nat) (r457 : List T) (n : Nat) (x458 : Int) :
    lpK c env lf 6 fi60 12 9 [] [2, 3, 6] (x60_9_0) n (f60_1_c r457 x458) = f60_1 c lf r457 n x458 := by
  induction n generalizing x458 with
  | zero => rfl
  | succ n ih =>
    refine (f60_1_round c lf r457 _ x458).trans ?_
    have e : (fun x458 => lpK c env lf 6 fi60 12 9 [] [2, 3, 6] (x60_9_0) n (f60_1_c r457 x458)) = f60_1 c lf r457 n := by funext x458; exact ih x458
    show f60_1_s c lf r457 (fun x458 => lpK c env lf 6 fi60 12 9 [] [2, 3, 6] (x60_9_0) n (f60_1_c r457 x458)) x458 = _
    rw [e]; rfl
/-- loop.example/g00285/spec.SameInode -/
def f60_t (c : Orc) (lf : Nat) (lp0 : List T → List T → List T → List T → List T → List T → Int → Int → Int → Int → Int → Int → Int → Option (List T)) (lp1 : List T → Int → Option (List T)) (n0_0 : Int) (n0_1 : Int) (n0_2 : Int) (l0_3 : List T) (l0_4 : List T) (l0_5 : List T) (n1_0 : Int) (n1_1 : Int) (n1_2 : Int) (l1_3 : List T) (l1_4 : List T) (l1_5 : List T) : Option (List T) :=
  bif n0_0 != n1_0 then
    some [T.b false]
  else
    bif n0_1 != n1_1 then
      some [T.b false]
    else
      bif n0_2 != n1_2 then
        some [T.b false]
      else
        (c 120 [T.sl l0_3, T.sl l1_3]).bind fun r455 =>
        bif !(asB (nth r455 0)) then
          some [T.b false]
        else
          bif (l0_4.length : Int) != (l1_4.length : Int) then
            some [T.b false]
          else
            bif (l0_5.length : Int) != (l1_5.length : Int) then
              some [T.b false]
            else
              (lp0 l0_3 l0_4 l0_5 l1_3 l1_4 l1_5 n0_0 n0_1 n0_2 n1_0 n1_1 n1_2 0).bind fun r457 =>
              bif asI (nth r457 0) == 0 then
                some [T.b (asB (nth r457 1))]
              else
                (lp1 r457 0).bind fun r459 =>
                bif asI (nth r459 0) == 0 then
                  some [T.b (asB (nth r459 1))]
                else
                  some [T.b true]
def f60 (c : Orc) (lf : Nat) (n0_0 : Int) (n0_1 : Int) (n0_2 : Int) (l0_3 : List T) (l0_4 : List T) (l0_5 : List T) (n1_0 : Int) (n1_1 : Int) (n1_2 : Int) (l1_3 : List T) (l1_4 : List T) (l1_5 : List T) : Option (List T) := f60_t c lf (fun (l0_3 : List T) (l0_4 : List T) (l0_5 : List T) (l1_3 : List T) (l1_4 : List T) (l1_5 : List T) (n0_0 : Int) (n0_1 : Int) (n0_2 : Int) (n1_0 : Int) (n1_1 : Int) (n1_2 : Int) (x456 : Int) => f60_0 c lf l0_3 l0_4 l0_5 l1_3 l1_4 l1_5 n0_0 n0_1 n0_2 n1_0 n1_1 n1_2 lf x456) (fun (r457 : List T) (x458 : Int) => f60_1 c lf r457 lf x458) n0_0 n0_1 n0_2 l0_3 l0_4 l0_5 n1_0 n1_1 n1_2 l1_3 l1_4 l1_5
theorem f60_raw (c : Orc) (lf : Nat) (n0_0 : Int) (n0_1 : Int) (n0_2 : Int) (l0_3 : List T) (l0_4 : List T) (l0_5 : List T) (n1_0 : Int) (n1_1 : Int) (n1_2 : Int) (l1_3 : List T) (l1_4 : List T) (l1_5 : List T) : funK c env lf 6 fi60 [.st [.i .i64 n0_0, .i .i64 n0_1, .i .i64 n0_2, .sl l0_3, .sl l0_4, .sl l0_5], .st [.i .i64 n1_0, .i .i64 n1_1, .i .i64 n1_2, .sl l1_3, .sl l1_4, .sl l1_5]] = f60_t c lf (fun (l0_3 : List T) (l0_4 : List T) (l0_5 : List T) (l1_3 : List T) (l1_4 : List T) (l1_5 : List T) (n0_0 : Int) (n0_1 : Int) (n0_2 : Int) (n1_0 : Int) (n1_1 : Int) (n1_2 : Int) (x456 : Int) => lpK c env lf 6 fi60 12 4 [] [2, 3, 5] (x60_4_0) lf (f60_0_c l0_3 l0_4 l0_5 l1_3 l1_4 l1_5 n0_0 n0_1 n0_2 n1_0 n1_1 n1_2 x456)) (fun (r457 : List T) (x458 : Int) => lpK c env lf 6 fi60 12 9 [] [2, 3, 6] (x60_9_0) lf (f60_1_c r457 x458)) n0_0 n0_1 n0_2 l0_3 l0_4 l0_5 n1_0 n1_1 n1_2 l1_3 l1_4 l1_5 := by kernel_rfl
theorem f60_eq (c : Orc) (lf : Nat) (n0_0 : Int) (n0_1 : Int) (n0_2 : Int) (l0_3 : List T) (l0_4 : List T) (l0_5 : List T) (n1_0 : Int) (n1_1 : Int) (n1_2 : Int) (l1_3 : List T) (l1_4 : List T) (l1_5 : List T) : funK c env lf 6 fi60 [.st [.i .i64 n0_0, .i .i64 n0_1, .i .i64 n0_2, .sl l0_3, .sl l0_4, .sl l0_5], .st [.i .i64 n1_0, .i .i64 n1_1, .i .i64 n1_2, .sl l1_3, .sl l1_4, .sl l1_5]] = f60 c lf n0_0 n0_1 n0_2 l0_3 l0_4 l0_5 n1_0 n1_1 n1_2 l1_3 l1_4 l1_5 := by
  refine (f60_raw c lf n0_0 n0_1 n0_2 l0_3 l0_4 l0_5 n1_0 n1_1 n1_2 l1_3 l1_4 l1_5).trans ?_
  have e0 : (fun (l0_3 : List T) (l0_4 : List T) (l0_5 : List T) (l1_3 : List T) (l1_4 : List T) (l1_5 : List T) (n0_0 : Int) (n0_1 : Int) (n0_2 : Int) (n1_0 : Int) (n1_1 : Int) (n1_2 : Int) (x456 : Int) => lpK c env lf 6 fi60 12 4 [] [2, 3, 5] (x60_4_0) lf (f60_0_c l0_3 l0_4 l0_5 l1_3 l1_4 l1_5 n0_0 n0_1 n0_2 n1_0 n1_1 n1_2 x456)) = (fun (l0_3 : List T) (l0_4 : List T) (l0_5 : List T) (l1_3 : List T) (l1_4 : List T) (l1_5 : List T) (n0_0 : Int) (n0_1 : Int) (n0_2 : Int) (n1_0 : Int) (n1_1 : Int) (n1_2 : Int) (x456 : Int) => f60_0 c lf l0_3 l0_4 l0_5 l1_3 l1_4 l1_5 n0_0 n0_1 n0_2 n1_0 n1_1 n1_2 lf x456) := by funext l0_3 l0_4 l0_5 l1_3 l1_4 l1_5 n0_0 n0_1 n0_2 n1_0 n1_1 n1_2 x456; exact f60_0_eq c lf l0_3 l0_4 l0_5 l1_3 l1_4 l1_5 n0_0 n0_1 n0_2 n1_0 n1_1 n1_2 lf x456
  have e1 : (fun (r457 : List T) (x458 : Int) => lpK c env lf 6 fi60 12 9 [] [2, 3, 6] (x60_9_0) lf (f60_1_c r457 x458)) = (fun (r457 : List T) (x458 : Int) => f60_1 c lf r457 lf x458) := by funext r457 x458; exact f60_1_eq c lf r457 lf x458
  rw [e0, e1]; rfl
/-- loop.example/g00285/laws.FnInodesRead -/
def f11_t (c : Orc) (lf : Nat) (l0 : List T) : Option (List T) :=
  (c 13 [T.sl l0]).bind fun r460 =>
  bif asB (nth r460 0) then
    some [T.b true]
  else
    (c 58 [T.sl l0]).bind fun r461 =>
    (c 36 [T.sl (asL (nth r461 0))]).bind fun r462 =>
    (c 54 [T.sl (asL (nth r461 0))]).bind fun r463 =>
    (c 59 [T.sl l0]).bind fun r464 =>
    bif ((asB (nth r462 1)) == (asB (nth r463 1))) then
      bif !(asB (nth r462 1)) then
        (c 38 [T.st [T.i .i64 (asI (T.cell (nth r464 0) 0)), T.i .i64 (asI (T.cell (nth r464 0) 1)), T.i .i64 (asI (T.cell (nth r464 0) 2)), T.sl (asL (T.cell (nth r464 0) 3)), T.sl (asL (T.cell (nth r464 0) 4)), T.sl (asL (T.cell (nth r464 0) 5))], T.st [T.i .i64 (asI (T.cell (nth r464 1) 0)), T.i .i64 (asI (T.cell (nth r464 1) 1)), T.i .i64 (asI (T.cell (nth r464 1) 2)), T.sl (asL (T.cell (nth r464 1) 3)), T.sl (asL (T.cell (nth r464 1) 4)), T.sl (asL (T.cell (nth r464 1) 5))]]).bind fun r465 =>
        (c 60 [T.st [T.i .i64 (asI (T.cell (nth r464 0) 0)), T.i .i64 (asI (T.cell (nth r464 0) 1)), T.i .i64 (asI (T.cell (nth r464 0) 2)), T.sl (asL (T.cell (nth r464 0) 3)), T.sl (asL (T.cell (nth r464 0) 4)), T.sl (asL (T.cell (nth r464 0) 5))], T.st [T.i .i64 (asI (T.cell (nth r464 1) 0)), T.i .i64 (asI (T.cell (nth r464 1) 1)), T.i .i64 (asI (T.cell (nth r464 1) 2)), T.sl (asL (T.cell (nth r464 1) 3)), T.sl (asL (T.cell (nth r464 1) 4)), T.sl (asL (T.cell (nth r464 1) 5))]]).bind fun r466 =>
        bif ((asB (nth r465 0)) == (asB (nth r466 0))) then
          (c 38 [T.st [T.i .i64 (asI (T.cell (nth r464 0) 0)), T.i .i64 (asI (T.cell (nth r464 0) 1)), T.i .i64 (asI (T.cell (nth r464 0) 2)), T.sl (asL (T.cell (nth r464 0) 3)), T.sl (asL (T.cell (nth r464 0) 4)), T.sl (asL (T.cell (nth r464 0) 5))], T.st [T.i .i64 (asI (T.cell (nth r464 0) 0)), T.i .i64 (asI (T.cell (nth r464 0) 1)), T.i .i64 (asI (T.cell (nth r464 0) 2)), T.sl (asL (T.cell (nth r464 0) 3)), T.sl (asL (T.cell (nth r464 0) 4)), T.sl (asL (T.cell (nth r464 0) 5))]]).bind fun r467 =>
          some [T.b (asB (nth r467 0))]
        else
          some [T.b false]
      else
        (c 35 [T.st [T.i .i64 (asI (T.cell (nth r462 0) 0)), T.i .i64 (asI (T.cell (nth r462 0) 1)), T.i .i64 (asI (T.cell (nth r462 0) 2)), T.sl (asL (T.cell (nth r462 0) 3)), T.sl (asL (T.cell (nth r462 0) 4)), T.sl (asL (T.cell (nth r462 0) 5))]]).bind fun r468 =>
        bif asB (nth r468 0) then
          (c 33 [T.st [T.i .i64 (asI (T.cell (nth r462 0) 0)), T.i .i64 (asI (T.cell (nth r462 0) 1)), T.i .i64 (asI (T.cell (nth r462 0) 2)), T.sl (asL (T.cell (nth r462 0) 3)), T.sl (asL (T.cell (nth r462 0) 4)), T.sl (asL (T.cell (nth r462 0) 5))]]).bind fun r469 =>
          (c 20 [T.sl (asL (nth r469 0)), T.sl (asL (nth r461 0))]).bind fun r470 =>
          bif asB (nth r470 0) then
            (c 38 [T.st [T.i .i64 (asI (T.cell (nth r464 0) 0)), T.i .i64 (asI (T.cell (nth r464 0) 1)), T.i .i64 (asI (T.cell (nth r464 0) 2)), T.sl (asL (T.cell (nth r464 0) 3)), T.sl (asL (T.cell (nth r464 0) 4)), T.sl (asL (T.cell (nth r464 0) 5))], T.st [T.i .i64 (asI (T.cell (nth r464 1) 0)), T.i .i64 (asI (T.cell (nth r464 1) 1)), T.i .i64 (asI (T.cell (nth r464 1) 2)), T.sl (asL (T.cell (nth r464 1) 3)), T.sl (asL (T.cell (nth r464 1) 4)), T.sl (asL (T.cell (nth r464 1) 5))]]).bind fun r471 =>
            (c 60 [T.st [T.i .i64 (asI (T.cell (nth r464 0) 0)), T.i .i64 (asI (T.cell (nth r464 0) 1)), T.i .i64 (asI (T.cell (nth r464 0) 2)), T.sl (asL (T.cell (nth r464 0) 3)), T.sl (asL (T.cell (nth r464 0) 4)), T.sl (asL (T.cell (nth r464 0) 5))], T.st [T.i .i64 (asI (T.cell (nth r464 1) 0)), T.i .i64 (asI (T.cell (nth r464 1) 1)), T.i .i64 (asI (T.cell (nth r464 1) 2)), T.sl (asL (T.cell (nth r464 1) 3)), T.sl (asL (T.cell (nth r464 1) 4)), T.sl (asL (T.cell (nth r464 1) 5))]]).bind fun r472 =>
            bif ((asB (nth r471 0)) == (asB (nth r472 0))) then
              (c 38 [T.st [T.i .i64 (asI (T.cell (nth r464 0) 0)), T.i .i64 (asI (T.cell (nth r464 0) 1)), T.i .i64 (asI (T.cell (nth r464 0) 2)), T.sl (asL (T.cell (nth r464 0) 3)), T.sl (asL (T.cell (nth r464 0) 4)), T.sl (asL (T.cell (nth r464 0) 5))], T.st [T.i .i64 (asI (T.cell (nth r464 0) 0)), T.i .i64 (asI (T.cell (nth r464 0) 1)), T.i .i64 (asI (T.cell (nth r464 0) 2)), T.sl (asL (T.cell (nth r464 0) 3)), T.sl (asL (T.cell (nth r464 0) 4)), T.sl (asL (T.cell (nth r464 0) 5))]]).bind fun r473 =>
              some [T.b (asB (nth r473 0))]
            else
              some [T.b false]
          else
            some [T.b false]
        else
          some [T.b false]
    else
      some [T.b false]
def f11 (c : Orc) (lf : Nat) (l0 : List T) : Option (List T) := f11_t c lf l0
theorem f11_raw (c : Orc) (lf : Nat) (l0 : List T) : funK c env lf 6 fi11 [.sl l0] = f11_t c lf l0 := by kernel_rfl
theorem f11_eq (c : Orc) (lf : Nat) (l0 : List T) : funK c env lf 6 fi11 [.sl l0] = f11 c lf l0 := by
  refine (f11_raw c lf l0).trans ?_
  rfl
end Go.Proofs.Ytockabaoaneplaa.T
