/- What functions of the law FnInodes come to, in trees; no condition. -/
import Derived.Test.YtockabaoaneplaaRows
import Derived.Test.YtockabaoaneplaaV4
import Derived.KernelRfl
set_option linter.unusedVariables false
set_option linter.constructorNameAsVariable false
set_option linter.unusedSimpArgs false
set_option linter.unnecessarySimpa false
namespace Go.Proofs.Ytockabaoaneplaa.T
open Go Go.Proofs.YtockabaoaneplaaV
def tyTab : List (Nat × Ti) := [
  (3, ⟨false, [.i .i64], .o⟩),
  (4, ⟨false, [.b], .o⟩),
  (5, ⟨false, [.i .u8], .o⟩),
  (9, ⟨false, [.s], .o⟩),
  (22, ⟨false, [.sl false [.i .u8]], .sl 5⟩),
  (50, ⟨false, [.sl true [.s, .i .i64]], .sl 61⟩),
  (51, ⟨false, [.sl true [.s, .s]], .sl 133⟩),
  (53, ⟨true, [.i .i64, .i .i64, .i .i64, .sl false [.i .u8], .sl true [.s, .i .i64], .sl true [.s, .s]], .st [(0, 3), (1, 3), (2, 3), (3, 22), (4, 50), (5, 51)]⟩),
  (61, ⟨true, [.s, .i .i64], .st [(0, 9), (1, 3)]⟩),
  (101, ⟨false, [.o], .o⟩),
  (107, ⟨false, [.sl false [.i .i64]], .sl 3⟩),
  (108, ⟨false, [.o], .o⟩),
  (110, ⟨true, [.sl false [.i .u8], .i .i64, .b], .st [(0, 22), (1, 3), (2, 4)]⟩),
  (133, ⟨true, [.s, .s], .st [(0, 9), (1, 9)]⟩),
  (153, ⟨true, [.sl false [.i .u8], .i .i64, .i .i64], .st [(0, 22), (1, 3), (2, 3)]⟩),
  (159, ⟨false, [.i .u64], .o⟩),
  (164, ⟨false, [.sl false [.s]], .sl 9⟩)]
noncomputable def fi13 : Fi := ⟨Try.f13, [], false, [.ro (.sl false [.i .u8])], [.v (.b)]⟩
def x65_3_0 : List (Ex × List Nat × CSt) := [((.ex 0), [0, 3], ⟨[.ro 0 false [.i .u8] [], .i .i64 0], [.dead]⟩)]
noncomputable def fi65 : Fi := ⟨Try.f65, [⟨3, [0, 3, 4], [], [(⟨[.ro 0 false [.i .u8] [], .i .i64 0, .i .i64 0], [.dead]⟩, x65_3_0)]⟩], false, [.ro (.sl false [.i .u8])], [.bx [.ro (.sl false [.i .u8]), .v (.i .i64), .v (.i .i64)]]⟩
noncomputable def fi124 : Fi := ⟨Try.f124, [], false, [.bx [.ro (.sl false [.i .u8]), .v (.i .i64), .v (.i .i64)]], [.v (.i .i64)]⟩
noncomputable def fi70 : Fi := ⟨Try.f70, [], false, [.bx [.ro (.sl false [.i .u8]), .v (.i .i64), .v (.i .i64)], .v (.i .i64)], [.v (.i .i64)]⟩
noncomputable def fi71 : Fi := ⟨Try.f71, [], false, [.bx [.ro (.sl false [.i .u8]), .v (.i .i64), .v (.i .i64)], .ro (.sl false [.i .i64])], [.v (.i .i64)]⟩
def x143_3_0 : List (Ex × List Nat × CSt) := [((.ex 0), [5], ⟨[.rf 5 [] 0 none], [.box [.ro 1 false [.i .u8] [], .i .i64 0, .i .i64 0], .dead, .dead, .dead, .dead, .row false [.i .u8] [] 0 false]⟩)]
noncomputable def fi143 : Fi := ⟨Try.f143, [⟨3, [0, 1, 5, 6], [], [(⟨[.bp 0 0, .i .i64 0, .rf 5 [] 0 none, .i .i64 0], [.box [.ro 1 false [.i .u8] [], .i .i64 0, .i .i64 0], .dead, .dead, .dead, .dead, .row false [.i .u8] [] 0 false]⟩, x143_3_0)]⟩], false, [.bx [.ro (.sl false [.i .u8]), .v (.i .i64), .v (.i .i64)], .v (.i .i64)], [.ow (.sl false [.i .u8])]⟩
noncomputable def fi118 : Fi := ⟨Try.f118, [], false, [.bx [.ro (.sl false [.i .u8]), .v (.i .i64), .v (.i .i64)], .v (.i .i64)], [.v (.b)]⟩
noncomputable def fi131 : Fi := ⟨Try.f131, [], false, [.bx [.ro (.sl false [.i .u8]), .v (.i .i64), .v (.i .i64)], .ro (.sl false [.s])], [.v (.s)]⟩
def x117_7_0 : List (Ex × List Nat × CSt) := [((.ex 0), [0, 2, 3, 4], ⟨[.bp 0 0, .bp 4 0, .bp 8 0, .rf 12 [] 0 none], [.box [.ro 1 false [.i .u8] [], .i .i64 0, .i .i64 0], .dead, .dead, .dead, .box [.i .i64 0, .i .i64 0, .i .i64 0, .rf 5 [] 0 none, .rf 6 [] 0 none, .rf 7 [] 0 none], .row false [.i .u8] [] 0 false, .row true [.s, .i .i64] [] 0 false, .row true [.s, .s] [] 0 false, .box [.i .i64 0, .i .i64 0, .i .i64 0, .rf 9 [] 0 none, .rf 10 [] 0 none, .rf 11 [] 0 none], .row false [.i .u8] [] 0 false, .row true [.s, .i .i64] [] 0 false, .row true [.s, .s] [] 0 false, .row false [.s] [] 0 false]⟩)]
def x117_12_0 : List (Ex × List Nat × CSt) := [((.ex 2), [2, 3], ⟨[.bp 4 0, .bp 8 0], [.box [.ro 1 false [.i .u8] [], .i .i64 0, .i .i64 0], .dead, .dead, .dead, .box [.i .i64 0, .i .i64 0, .i .i64 0, .rf 5 [] 0 none, .rf 6 [] 0 none, .rf 7 [] 0 none], .row false [.i .u8] [] 0 false, .row true [.s, .i .i64] [] 0 false, .row true [.s, .s] [] 0 false, .box [.i .i64 0, .i .i64 0, .i .i64 0, .rf 9 [] 0 none, .rf 10 [] 0 none, .rf 11 [] 0 none], .row false [.i .u8] [] 0 false, .row true [.s, .i .i64] [] 0 false, .row true [.s, .s] [] 0 false]⟩)]
noncomputable def fi117 : Fi := ⟨Try.f117, [⟨7, [0, 2, 3, 4, 5], [], [(⟨[.bp 0 0, .bp 4 0, .bp 8 0, .rf 12 [] 0 none, .i .i64 0], [.box [.ro 1 false [.i .u8] [], .i .i64 0, .i .i64 0], .dead, .dead, .dead, .box [.i .i64 0, .i .i64 0, .i .i64 0, .rf 5 [] 0 none, .rf 6 [] 0 none, .rf 7 [] 0 none], .row false [.i .u8] [] 0 false, .row true [.s, .i .i64] [] 0 false, .row true [.s, .s] [] 0 false, .box [.i .i64 0, .i .i64 0, .i .i64 0, .rf 9 [] 0 none, .rf 10 [] 0 none, .rf 11 [] 0 none], .row false [.i .u8] [] 0 false, .row true [.s, .i .i64] [] 0 false, .row true [.s, .s] [] 0 false, .row false [.s] [] 0 false]⟩, x117_7_0)]⟩, ⟨12, [0, 2, 3, 4, 6], [], [(⟨[.bp 0 0, .bp 4 0, .bp 8 0, .rf 12 [] 0 none, .i .i64 0], [.box [.ro 1 false [.i .u8] [], .i .i64 0, .i .i64 0], .dead, .dead, .dead, .box [.i .i64 0, .i .i64 0, .i .i64 0, .rf 5 [] 0 none, .rf 6 [] 0 none, .rf 7 [] 0 none], .row false [.i .u8] [] 0 false, .row true [.s, .i .i64] [] 0 false, .row true [.s, .s] [] 0 false, .box [.i .i64 0, .i .i64 0, .i .i64 0, .rf 9 [] 0 none, .rf 10 [] 0 none, .rf 11 [] 0 none], .row false [.i .u8] [] 0 false, .row true [.s, .i .i64] [] 0 false, .row true [.s, .s] [] 0 false, .row false [.s] [] 0 false]⟩, x117_12_0)]⟩], false, [.bx [.ro (.sl false [.i .u8]), .v (.i .i64), .v (.i .i64)]], [.ag [.v (.i .i64), .v (.i .i64), .v (.i .i64), .ow (.sl false [.i .u8]), .ow (.sl true [.s, .i .i64]), .ow (.sl true [.s, .s])]]⟩
noncomputable def fi85 : Fi := ⟨Try.f85, [], false, [.bx [.ro (.sl false [.i .u8]), .v (.i .i64), .v (.i .i64)]], [.ag [.v (.i .i64), .v (.i .i64), .v (.i .i64), .ow (.sl false [.i .u8]), .ow (.sl true [.s, .i .i64]), .ow (.sl true [.s, .s])]]⟩
noncomputable def fi32 : Fi := ⟨Try.f32, [], false, [.ro (.sl false [.i .u8])], [.ag [.v (.i .i64), .v (.i .i64), .v (.i .i64), .ow (.sl false [.i .u8]), .ow (.sl true [.s, .i .i64]), .ow (.sl true [.s, .s])]]⟩
noncomputable def fi76 : Fi := ⟨Try.f76, [], false, [.v (.i .i64), .v (.i .i64), .v (.i .i64)], [.v (.b)]⟩
def x90_2_0 : List (Ex × List Nat × CSt) := [(.ret, [2], ⟨[.b false], [.dead]⟩), ((.ex 0), [0], ⟨[.s (⟨#[]⟩ : ByteArray)], [.dead]⟩)]
noncomputable def fi90 : Fi := ⟨Try.f90, [⟨2, [0, 6, 7], [], [(⟨[.s (⟨#[]⟩ : ByteArray), .i .i64 0, .i .i64 0], [.dead]⟩, x90_2_0)]⟩], false, [.v (.s)], [.v (.b)]⟩
def x89_2_0 : List (Ex × List Nat × CSt) := [(.ret, [2], ⟨[.b false], [.dead]⟩), ((.ex 0), [0], ⟨[.ro 0 true [.s, .s] []], [.dead]⟩)]
noncomputable def fi89 : Fi := ⟨Try.f89, [⟨2, [0, 5, 6, 7], [], [(⟨[.ro 0 true [.s, .s] [], .ro 0 true [.s, .s] [], .i .i64 0, .i .i64 0], [.dead]⟩, x89_2_0)]⟩], false, [.ro (.sl true [.s, .s])], [.v (.b)]⟩
def x35_4_0 : List (Ex × List Nat × CSt) := [(.ret, [2], ⟨[.b false], [.dead, .dead, .dead, .dead, .dead, .dead]⟩), ((.ex 0), [1], ⟨[.bp 6 0], [.dead, .dead, .dead, .dead, .dead, .dead, .box [.i .i64 0, .i .i64 0, .i .i64 0, .ro 0 false [.i .u8] [], .ro 0 true [.s, .i .i64] [], .ro 0 true [.s, .s] []]]⟩)]
noncomputable def fi35 : Fi := ⟨Try.f35, [⟨4, [1, 28, 29, 30], [], [(⟨[.bp 6 0, .ro 0 true [.s, .i .i64] [], .i .i64 0, .i .i64 0], [.dead, .dead, .dead, .dead, .dead, .dead, .box [.i .i64 0, .i .i64 0, .i .i64 0, .ro 0 false [.i .u8] [], .ro 0 true [.s, .i .i64] [], .ro 0 true [.s, .s] []]]⟩, x35_4_0)]⟩], false, [.ag [.v (.i .i64), .v (.i .i64), .v (.i .i64), .ro (.sl false [.i .u8]), .ro (.sl true [.s, .i .i64]), .ro (.sl true [.s, .s])]], [.v (.b)]⟩
noncomputable def fi123 : Fi := ⟨Try.f123, [], false, [.ro (.sl false [.i .u8])], [.ow (.sl false [.i .u8])]⟩
def x67_3_0 : List (Ex × List Nat × CSt) := [((.ex 0), [1, 5], ⟨[.i .i64 0, .rf 2 [] 0 none], [.dead, .dead, .row false [.i .u8] [] 0 false]⟩)]
noncomputable def fi67 : Fi := ⟨Try.f67, [⟨3, [1, 5], [], [(⟨[.i .i64 0, .rf 2 [] 0 none], [.dead, .dead, .row false [.i .u8] [] 0 false]⟩, x67_3_0)]⟩], false, [.ro (.sl false [.i .u8]), .v (.i .i64)], [.ow (.sl false [.i .u8])]⟩
noncomputable def fi82 : Fi := ⟨Try.f82, [], false, [.ro (.sl false [.i .u8]), .v (.s)], [.ow (.sl false [.i .u8])]⟩
def x86_3_0 : List (Ex × List Nat × CSt) := [((.ex 0), [0], ⟨[.rf 2 [] 0 none], [.dead, .dead, .row false [.i .u8] [] 0 false]⟩)]
noncomputable def fi86 : Fi := ⟨Try.f86, [⟨3, [0, 11, 12, 13], [], [(⟨[.rf 2 [] 0 none, .ro 0 true [.s, .s] [], .i .i64 0, .i .i64 0], [.dead, .dead, .row false [.i .u8] [] 0 false]⟩, x86_3_0)]⟩], false, [.ro (.sl false [.i .u8]), .ro (.sl true [.s, .s])], [.ow (.sl false [.i .u8])]⟩
def x33_6_0 : List (Ex × List Nat × CSt) := [((.ex 0), [1, 3], ⟨[.bp 6 0, .rf 7 [] 0 none], [.dead, .dead, .dead, .dead, .dead, .dead, .box [.i .i64 0, .i .i64 0, .i .i64 0, .ro 0 false [.i .u8] [], .ro 0 true [.s, .i .i64] [], .ro 0 true [.s, .s] []], .row false [.i .u8] [] 0 false]⟩)]
noncomputable def fi33 : Fi := ⟨Try.f33, [⟨6, [1, 3, 28, 29, 30], [], [(⟨[.bp 6 0, .rf 7 [] 0 none, .ro 0 true [.s, .i .i64] [], .i .i64 0, .i .i64 0], [.dead, .dead, .dead, .dead, .dead, .dead, .box [.i .i64 0, .i .i64 0, .i .i64 0, .ro 0 false [.i .u8] [], .ro 0 true [.s, .i .i64] [], .ro 0 true [.s, .s] []], .row false [.i .u8] [] 0 false]⟩, x33_6_0)]⟩], false, [.ag [.v (.i .i64), .v (.i .i64), .v (.i .i64), .ro (.sl false [.i .u8]), .ro (.sl true [.s, .i .i64]), .ro (.sl true [.s, .s])]], [.ow (.sl false [.i .u8])]⟩
noncomputable def fi77 : Fi := ⟨Try.f77, [], false, [.v (.i .i64), .v (.i .i64), .v (.i .i64)], [.v (.b)]⟩
def x109_2_0 : List (Ex × List Nat × CSt) := [(.ret, [2], ⟨[.b false], [.dead]⟩), ((.ex 0), [0], ⟨[.s (⟨#[]⟩ : ByteArray)], [.dead]⟩)]
noncomputable def fi109 : Fi := ⟨Try.f109, [⟨2, [0, 3], [], [(⟨[.s (⟨#[]⟩ : ByteArray), .i .i64 0], [.dead]⟩, x109_2_0)]⟩], false, [.v (.s)], [.v (.b)]⟩
def x87_2_0 : List (Ex × List Nat × CSt) := [(.ret, [2], ⟨[.b false], [.dead]⟩), ((.ex 0), [0], ⟨[.ro 0 true [.s, .i .i64] []], [.dead]⟩)]
noncomputable def fi87 : Fi := ⟨Try.f87, [⟨2, [0, 3], [], [(⟨[.ro 0 true [.s, .i .i64] [], .i .i64 0], [.dead]⟩, x87_2_0)]⟩], false, [.ro (.sl true [.s, .i .i64])], [.v (.b)]⟩
def x88_2_0 : List (Ex × List Nat × CSt) := [(.ret, [2], ⟨[.b false], [.dead]⟩), ((.ex 0), [0], ⟨[.ro 0 true [.s, .s] []], [.dead]⟩)]
noncomputable def fi88 : Fi := ⟨Try.f88, [⟨2, [0, 3], [], [(⟨[.ro 0 true [.s, .s] [], .i .i64 0], [.dead]⟩, x88_2_0)]⟩], false, [.ro (.sl true [.s, .s])], [.v (.b)]⟩
noncomputable def fi34 : Fi := ⟨Try.f34, [], false, [.ag [.v (.i .i64), .v (.i .i64), .v (.i .i64), .ro (.sl false [.i .u8]), .ro (.sl true [.s, .i .i64]), .ro (.sl true [.s, .s])]], [.v (.b)]⟩
def x125_6_0 : List (Ex × List Nat × CSt) := [((.ex 0), [], ⟨[], [.dead, .dead]⟩), (.ret, [4, 5, 6], ⟨[.i .i64 0, .i .i64 0, .b false], [.dead, .dead]⟩)]
noncomputable def fi125 : Fi := ⟨Try.f125, [⟨6, [0, 1, 7, 8, 9], [], [(⟨[.ro 0 false [.i .u8] [], .i .i64 0, .i .i64 0, .i .i64 0, .i .i64 0], [.dead, .dead]⟩, x125_6_0)]⟩], false, [.ro (.sl false [.i .u8]), .v (.i .i64)], [.v (.i .i64), .v (.i .i64), .v (.b)]⟩
noncomputable def fi72 : Fi := ⟨Try.f72, [], false, [.bx [.ro (.sl false [.i .u8]), .v (.i .i64), .v (.b)]], [.v (.i .i64)]⟩
noncomputable def fi132 : Fi := ⟨Try.f132, [], false, [.ro (.sl false [.i .u8]), .v (.i .i64)], [.v (.s), .v (.i .i64), .v (.b)]⟩
noncomputable def fi91 : Fi := ⟨Try.f91, [], false, [.bx [.ro (.sl false [.i .u8]), .v (.i .i64), .v (.b)]], [.v (.s)]⟩
noncomputable def fi73 : Fi := ⟨Try.f73, [], false, [.bx [.ro (.sl false [.i .u8]), .v (.i .i64), .v (.b)]], [.v (.i .i64)]⟩
def x92_3_0 : List (Ex × List Nat × CSt) := [((.ex 0), [3], ⟨[.rf 4 [] 0 none], [.box [.ro 1 false [.i .u8] [], .i .i64 0, .b false], .dead, .dead, .dead, .row true [.s, .s] [] 0 false]⟩)]
noncomputable def fi92 : Fi := ⟨Try.f92, [⟨3, [0, 3, 8, 9], [], [(⟨[.bp 0 0, .rf 4 [] 0 none, .i .i64 0, .i .i64 0], [.box [.ro 1 false [.i .u8] [], .i .i64 0, .b false], .dead, .dead, .dead, .row true [.s, .s] [] 0 false]⟩, x92_3_0)]⟩], false, [.bx [.ro (.sl false [.i .u8]), .v (.i .i64), .v (.b)]], [.ow (.sl true [.s, .s])]⟩
noncomputable def fi74 : Fi := ⟨Try.f74, [], false, [.bx [.ro (.sl false [.i .u8]), .v (.i .i64), .v (.b)]], [.v (.b)]⟩
def x36_8_0 : List (Ex × List Nat × CSt) := [((.ex 0), [2, 4, 5], ⟨[.bp 1 0, .bp 5 0, .bp 6 0], [.dead, .box [.i .i64 0, .i .i64 0, .i .i64 0, .rf 2 [] 0 none, .rf 3 [] 0 none, .rf 4 [] 0 none], .row false [.i .u8] [] 0 false, .row true [.s, .i .i64] [] 0 false, .row true [.s, .s] [] 0 false, .box [.ro 0 false [.i .u8] [], .i .i64 0, .b false], .box [.i .i64 0, .i .i64 0, .i .i64 0, .rf 7 [] 0 none, .rf 8 [] 0 none, .rf 9 [] 0 none], .row false [.i .u8] [] 0 false, .row true [.s, .i .i64] [] 0 false, .row true [.s, .s] [] 0 false]⟩)]
noncomputable def fi36 : Fi := ⟨Try.f36, [⟨8, [2, 4, 5, 26, 27], [], [(⟨[.bp 1 0, .bp 5 0, .bp 6 0, .i .i64 0, .i .i64 0], [.dead, .box [.i .i64 0, .i .i64 0, .i .i64 0, .rf 2 [] 0 none, .rf 3 [] 0 none, .rf 4 [] 0 none], .row false [.i .u8] [] 0 false, .row true [.s, .i .i64] [] 0 false, .row true [.s, .s] [] 0 false, .box [.ro 0 false [.i .u8] [], .i .i64 0, .b false], .box [.i .i64 0, .i .i64 0, .i .i64 0, .rf 7 [] 0 none, .rf 8 [] 0 none, .rf 9 [] 0 none], .row false [.i .u8] [] 0 false, .row true [.s, .i .i64] [] 0 false, .row true [.s, .s] [] 0 false]⟩, x36_8_0)]⟩], false, [.ro (.sl false [.i .u8])], [.ag [.v (.i .i64), .v (.i .i64), .v (.i .i64), .ow (.sl false [.i .u8]), .ow (.sl true [.s, .i .i64]), .ow (.sl true [.s, .s])], .v (.b)]⟩
def x37_2_0 : List (Ex × List Nat × CSt) := [(.ret, [4], ⟨[.i .i64 0], [.dead, .dead, .dead, .dead, .dead, .dead, .dead]⟩), ((.ex 0), [], ⟨[], [.dead, .dead, .dead, .dead, .dead, .dead, .dead]⟩)]
noncomputable def fi37 : Fi := ⟨Try.f37, [⟨2, [1, 8, 9, 10], [], [(⟨[.s (⟨#[]⟩ : ByteArray), .ro 0 true [.s, .i .i64] [], .i .i64 0, .i .i64 0], [.dead, .dead, .dead, .dead, .dead, .dead, .dead]⟩, x37_2_0)]⟩], false, [.ag [.v (.i .i64), .v (.i .i64), .v (.i .i64), .ro (.sl false [.i .u8]), .ro (.sl true [.s, .i .i64]), .ro (.sl true [.s, .s])], .v (.s)], [.v (.i .i64)]⟩
def x93_4_0 : List (Ex × List Nat × CSt) := [(.ret, [4], ⟨[.b false], [.dead, .dead]⟩), ((.ex 0), [], ⟨[], [.dead, .dead]⟩)]
noncomputable def fi93 : Fi := ⟨Try.f93, [⟨4, [0, 1, 12, 13], [], [(⟨[.ro 0 false [.i .u8] [], .ro 0 false [.i .u8] [], .i .i64 0, .i .i64 0], [.dead, .dead]⟩, x93_4_0)]⟩], false, [.ro (.sl false [.i .u8]), .ro (.sl false [.i .u8])], [.v (.b)]⟩
def x94_4_0 : List (Ex × List Nat × CSt) := [(.ret, [4], ⟨[.b false], [.dead, .dead]⟩), ((.ex 0), [], ⟨[], [.dead, .dead]⟩)]
noncomputable def fi94 : Fi := ⟨Try.f94, [⟨4, [0, 1, 12, 13], [], [(⟨[.ro 0 true [.s, .i .i64] [], .ro 0 true [.s, .i .i64] [], .i .i64 0, .i .i64 0], [.dead, .dead]⟩, x94_4_0)]⟩], false, [.ro (.sl true [.s, .i .i64]), .ro (.sl true [.s, .i .i64])], [.v (.b)]⟩
def x95_4_0 : List (Ex × List Nat × CSt) := [(.ret, [4], ⟨[.b false], [.dead, .dead]⟩), ((.ex 0), [], ⟨[], [.dead, .dead]⟩)]
noncomputable def fi95 : Fi := ⟨Try.f95, [⟨4, [0, 1, 12, 13], [], [(⟨[.ro 0 true [.s, .s] [], .ro 0 true [.s, .s] [], .i .i64 0, .i .i64 0], [.dead, .dead]⟩, x95_4_0)]⟩], false, [.ro (.sl true [.s, .s]), .ro (.sl true [.s, .s])], [.v (.b)]⟩
noncomputable def fi38 : Fi := ⟨Try.f38, [], false, [.ag [.v (.i .i64), .v (.i .i64), .v (.i .i64), .ro (.sl false [.i .u8]), .ro (.sl true [.s, .i .i64]), .ro (.sl true [.s, .s])], .ag [.v (.i .i64), .v (.i .i64), .v (.i .i64), .ro (.sl false [.i .u8]), .ro (.sl true [.s, .i .i64]), .ro (.sl true [.s, .s])]], [.v (.b)]⟩
def x5_9_0 : List (Ex × List Nat × CSt) := [(.ret, [2], ⟨[.b false], [.dead]⟩), ((.ex 0), [3, 4, 5, 6], ⟨[.bp 1 0, .rf 5 [] 0 none, .bp 6 0, .b false], [.dead, .box [.i .i64 0, .i .i64 0, .i .i64 0, .rf 2 [] 0 none, .rf 3 [] 0 none, .rf 4 [] 0 none], .row false [.i .u8] [] 0 false, .row true [.s, .i .i64] [] 0 false, .row true [.s, .s] [] 0 false, .row false [.i .u8] [] 0 false, .box [.i .i64 0, .i .i64 0, .i .i64 0, .rf 7 [] 0 none, .rf 8 [] 0 none, .rf 9 [] 0 none], .row false [.i .u8] [] 0 false, .row true [.s, .i .i64] [] 0 false, .row true [.s, .s] [] 0 false]⟩)]
noncomputable def fi5 : Fi := ⟨Try.f5, [⟨9, [3, 4, 5, 6, 7], [], [(⟨[.bp 1 0, .rf 5 [] 0 none, .bp 6 0, .b false, .i .i64 0], [.dead, .box [.i .i64 0, .i .i64 0, .i .i64 0, .rf 2 [] 0 none, .rf 3 [] 0 none, .rf 4 [] 0 none], .row false [.i .u8] [] 0 false, .row true [.s, .i .i64] [] 0 false, .row true [.s, .s] [] 0 false, .row false [.i .u8] [] 0 false, .box [.i .i64 0, .i .i64 0, .i .i64 0, .rf 7 [] 0 none, .rf 8 [] 0 none, .rf 9 [] 0 none], .row false [.i .u8] [] 0 false, .row true [.s, .i .i64] [] 0 false, .row true [.s, .s] [] 0 false]⟩, x5_9_0)]⟩], false, [.ro (.sl false [.i .u8])], [.v (.b)]⟩
noncomputable def fiTab : List (Nat × Fi) := [(13, fi13), (65, fi65), (124, fi124), (70, fi70), (71, fi71), (143, fi143), (118, fi118), (131, fi131), (117, fi117), (85, fi85), (32, fi32), (76, fi76), (90, fi90), (89, fi89), (35, fi35), (123, fi123), (67, fi67), (82, fi82), (86, fi86), (33, fi33), (77, fi77), (109, fi109), (87, fi87), (88, fi88), (34, fi34), (125, fi125), (72, fi72), (132, fi132), (91, fi91), (73, fi73), (92, fi92), (74, fi74), (36, fi36), (37, fi37), (93, fi93), (94, fi94), (95, fi95), (38, fi38), (5, fi5)]
-- EXT 123 clone 22 5
def X : Nat → Option (List T → Option (List T)) := lookN [(123, cloneF)]
noncomputable def env : Env := ⟨lookN fiTab, lookN tyTab⟩
-- FUNCTIONS
/-- loop.example/g00285/laws.big -/
def f13_t (c : Orc) (lf : Nat) (l0 : List T) : Option (List T) :=
  some [T.b (iLt 1048576 (l0.length : Int))]
def f13 (c : Orc) (lf : Nat) (l0 : List T) : Option (List T) := f13_t c lf l0
theorem f13_raw (c : Orc) (lf : Nat) (l0 : List T) : funK c env lf 6 fi13 [.sl l0] = f13_t c lf l0 := by kernel_rfl
theorem f13_eq (c : Orc) (lf : Nat) (l0 : List T) : funK c env lf 6 fi13 [.sl l0] = f13 c lf l0 := by
  refine (f13_raw c lf l0).trans ?_
  rfl
/-- loop.example/g00285/spec.l1New, the loop at region 3. -/
def f65_0_s (c : Orc) (lf : Nat) (l0 : List T) (L : Int → Int → Option (List T)) (x7 : Int) (x8 : Int) : Option (List T) :=
  bif iLt x8 (l0.length : Int) then
    bif iLt x8 4000 then
      bif inR x8 l0.length then
      L (intBits .and .i64 (IntKind.wrap .i64 ((IntKind.wrap .i64 ((IntKind.wrap .i64 (x7 * 137)) + (IntKind.wrap .i64 (asI (l0.getD x8.toNat T.u))))) + 11)) 1073741823) (IntKind.wrap .i64 (x8 + 1))
      else none
    else
      some [T.i .i64 0, T.sl l0, T.i .i64 x7]
  else
    some [T.i .i64 0, T.sl l0, T.i .i64 x7]
def f65_0_c (l0 : List T) (x7 : Int) (x8 : Int) : CSt := ⟨[.ro 0 false [.i .u8] l0, .i .i64 x7, .i .i64 x8], [.dead]⟩
theorem f65_0_round (c : Orc) (lf : Nat) (l0 : List T) (L : CSt → Option (List T)) (x7 : Int) (x8 : Int) :
    roundK c env lf 6 fi65 1 3 [] [0, 3, 4] (x65_3_0) L (f65_0_c l0 x7 x8) = f65_0_s c lf l0 (fun x7 x8 => L (f65_0_c l0 x7 x8)) x7 x8 := by kernel_rfl
def f65_0 (c : Orc) (lf : Nat) (l0 : List T) : Nat → Int → Int → Option (List T)
  | 0 => fun _ _ => none
  | n + 1 => fun x7 x8 => f65_0_s c lf l0 (f65_0 c lf l0 n) x7 x8
theorem f65_0_u (c : Orc) (lf : Nat) (l0 : List T) (n : Nat) (x7 : Int) (x8 : Int) : f65_0 c lf l0 (n + 1) x7 x8 = f65_0_s c lf l0 (f65_0 c lf l0 n) x7 x8 := rfl
theorem f65_0_eq (c : Orc) (lf : Nat) (l0 : List T) (n : Nat) (x7 : Int) (x8 : Int) :
    lpK c env lf 6 fi65 1 3 [] [0, 3, 4] (x65_3_0) n (f65_0_c l0 x7 x8) = f65_0 c lf l0 n x7 x8 := by
  induction n generalizing x7 x8 with
  | zero => rfl
  | succ n ih =>
    refine (f65_0_round c lf l0 _ x7 x8).trans ?_
    have e : (fun x7 x8 => lpK c env lf 6 fi65 1 3 [] [0, 3, 4] (x65_3_0) n (f65_0_c l0 x7 x8)) = f65_0 c lf l0 n := by funext x7 x8; exact ih x7 x8
    show f65_0_s c lf l0 (fun x7 x8 => lpK c env lf 6 fi65 1 3 [] [0, 3, 4] (x65_3_0) n (f65_0_c l0 x7 x8)) x7 x8 = _
    rw [e]; rfl
/-- loop.example/g00285/spec.l1New -/
def f65_t (c : Orc) (lf : Nat) (lp0 : List T → Int → Int → Option (List T)) (l0 : List T) : Option (List T) :=
  (lp0 l0 (IntKind.wrap .i64 (351351 + (l0.length : Int))) 0).bind fun r9 =>
  some [T.st [T.sl (asL (nth r9 1)), T.i .i64 0, T.i .i64 (asI (nth r9 2))]]
def f65 (c : Orc) (lf : Nat) (l0 : List T) : Option (List T) := f65_t c lf (fun (l0 : List T) (x7 : Int) (x8 : Int) => f65_0 c lf l0 lf x7 x8) l0
theorem f65_raw (c : Orc) (lf : Nat) (l0 : List T) : funK c env lf 6 fi65 [.sl l0] = f65_t c lf (fun (l0 : List T) (x7 : Int) (x8 : Int) => lpK c env lf 6 fi65 1 3 [] [0, 3, 4] (x65_3_0) lf (f65_0_c l0 x7 x8)) l0 := by kernel_rfl
theorem f65_eq (c : Orc) (lf : Nat) (l0 : List T) : funK c env lf 6 fi65 [.sl l0] = f65 c lf l0 := by
  refine (f65_raw c lf l0).trans ?_
  have e0 : (fun (l0 : List T) (x7 : Int) (x8 : Int) => lpK c env lf 6 fi65 1 3 [] [0, 3, 4] (x65_3_0) lf (f65_0_c l0 x7 x8)) = (fun (l0 : List T) (x7 : Int) (x8 : Int) => f65_0 c lf l0 lf x7 x8) := by funext l0 x7 x8; exact f65_0_eq c lf l0 lf x7 x8
  rw [e0]; rfl
/-- loop.example/g00285/spec.l1Byte -/
def f124_t (c : Orc) (lf : Nat) (l0_0 : List T) (n0_1 : Int) (n0_2 : Int) : Option (List T) :=
  bif iLt n0_1 (l0_0.length : Int) then
    bif inR n0_1 l0_0.length then
    some [T.i .i64 (intBits .and .i64 (IntKind.wrap .i64 ((intBits .and .i64 (intBits .xor .i64 (shiftI .shr .i64 (IntKind.wrap .i64 ((IntKind.wrap .i64 (n0_2 * 6364136223846793005)) + 1442695040888963407)) 33) (shiftI .shr .i64 (IntKind.wrap .i64 ((IntKind.wrap .i64 (n0_2 * 6364136223846793005)) + 1442695040888963407)) 47)) 255) + (IntKind.wrap .i64 (asI (l0_0.getD n0_1.toNat T.u))))) 255), T.st [T.sl l0_0, T.i .i64 (IntKind.wrap .i64 (n0_1 + 1)), T.i .i64 (IntKind.wrap .i64 ((IntKind.wrap .i64 (n0_2 * 6364136223846793005)) + 1442695040888963407))]]
    else none
  else
    some [T.i .i64 (intBits .and .i64 (intBits .xor .i64 (shiftI .shr .i64 (IntKind.wrap .i64 ((IntKind.wrap .i64 (n0_2 * 6364136223846793005)) + 1442695040888963407)) 33) (shiftI .shr .i64 (IntKind.wrap .i64 ((IntKind.wrap .i64 (n0_2 * 6364136223846793005)) + 1442695040888963407)) 47)) 255), T.st [T.sl l0_0, T.i .i64 n0_1, T.i .i64 (IntKind.wrap .i64 ((IntKind.wrap .i64 (n0_2 * 6364136223846793005)) + 1442695040888963407))]]
def f124 (c : Orc) (lf : Nat) (l0_0 : List T) (n0_1 : Int) (n0_2 : Int) : Option (List T) := f124_t c lf l0_0 n0_1 n0_2
theorem f124_raw (c : Orc) (lf : Nat) (l0_0 : List T) (n0_1 : Int) (n0_2 : Int) : funK c env lf 6 fi124 [.st [.sl l0_0, .i .i64 n0_1, .i .i64 n0_2]] = f124_t c lf l0_0 n0_1 n0_2 := by kernel_rfl
theorem f124_eq (c : Orc) (lf : Nat) (l0_0 : List T) (n0_1 : Int) (n0_2 : Int) : funK c env lf 6 fi124 [.st [.sl l0_0, .i .i64 n0_1, .i .i64 n0_2]] = f124 c lf l0_0 n0_1 n0_2 := by
  refine (f124_raw c lf l0_0 n0_1 n0_2).trans ?_
  rfl
/-- loop.example/g00285/spec.l1Below -/
def f70_t (c : Orc) (lf : Nat) (l0_0 : List T) (n0_1 : Int) (n0_2 : Int) (n1 : Int) : Option (List T) :=
  bif iLe n1 0 then
    some [T.i .i64 0, T.st [T.sl l0_0, T.i .i64 n0_1, T.i .i64 n0_2]]
  else
    bif iLe n1 256 then
      (c 124 [T.st [T.sl l0_0, T.i .i64 n0_1, T.i .i64 n0_2]]).bind fun r10 =>
      bif n1 != 0 then
      some [T.i .i64 ((asI (nth r10 0)).tmod n1), T.st [T.sl l0_0, T.i .i64 (asI (T.cell (nth r10 1) 1)), T.i .i64 (asI (T.cell (nth r10 1) 2))]]
      else none
    else
      (c 124 [T.st [T.sl l0_0, T.i .i64 n0_1, T.i .i64 n0_2]]).bind fun r11 =>
      (c 124 [T.st [T.sl l0_0, T.i .i64 (asI (T.cell (nth r11 1) 1)), T.i .i64 (asI (T.cell (nth r11 1) 2))]]).bind fun r12 =>
      (c 124 [T.st [T.sl l0_0, T.i .i64 (asI (T.cell (nth r12 1) 1)), T.i .i64 (asI (T.cell (nth r12 1) 2))]]).bind fun r13 =>
      bif n1 != 0 then
      some [T.i .i64 ((IntKind.wrap .i64 ((IntKind.wrap .i64 ((IntKind.wrap .i64 ((asI (nth r11 0)) * 65536)) + (IntKind.wrap .i64 ((asI (nth r12 0)) * 256)))) + (asI (nth r13 0)))).tmod n1), T.st [T.sl l0_0, T.i .i64 (asI (T.cell (nth r13 1) 1)), T.i .i64 (asI (T.cell (nth r13 1) 2))]]
      else none
def f70 (c : Orc) (lf : Nat) (l0_0 : List T) (n0_1 : Int) (n0_2 : Int) (n1 : Int) : Option (List T) := f70_t c lf l0_0 n0_1 n0_2 n1
theorem f70_raw (c : Orc) (lf : Nat) (l0_0 : List T) (n0_1 : Int) (n0_2 : Int) (n1 : Int) : funK c env lf 6 fi70 [.st [.sl l0_0, .i .i64 n0_1, .i .i64 n0_2], .i .i64 n1] = f70_t c lf l0_0 n0_1 n0_2 n1 := by kernel_rfl
theorem f70_eq (c : Orc) (lf : Nat) (l0_0 : List T) (n0_1 : Int) (n0_2 : Int) (n1 : Int) : funK c env lf 6 fi70 [.st [.sl l0_0, .i .i64 n0_1, .i .i64 n0_2], .i .i64 n1] = f70 c lf l0_0 n0_1 n0_2 n1 := by
  refine (f70_raw c lf l0_0 n0_1 n0_2 n1).trans ?_
  rfl
/-- loop.example/g00285/spec.l1Int -/
def f71_t (c : Orc) (lf : Nat) (l0_0 : List T) (n0_1 : Int) (n0_2 : Int) (l1 : List T) : Option (List T) :=
  (c 70 [T.st [T.sl l0_0, T.i .i64 n0_1, T.i .i64 n0_2], T.i .i64 (l1.length : Int)]).bind fun r14 =>
  bif inR (asI (nth r14 0)) l1.length then
  some [T.i .i64 (asI (l1.getD ((asI (nth r14 0)).toNat) T.u)), T.st [T.sl l0_0, T.i .i64 (asI (T.cell (nth r14 1) 1)), T.i .i64 (asI (T.cell (nth r14 1) 2))]]
  else none
def f71 (c : Orc) (lf : Nat) (l0_0 : List T) (n0_1 : Int) (n0_2 : Int) (l1 : List T) : Option (List T) := f71_t c lf l0_0 n0_1 n0_2 l1
theorem f71_raw (c : Orc) (lf : Nat) (l0_0 : List T) (n0_1 : Int) (n0_2 : Int) (l1 : List T) : funK c env lf 6 fi71 [.st [.sl l0_0, .i .i64 n0_1, .i .i64 n0_2], .sl l1] = f71_t c lf l0_0 n0_1 n0_2 l1 := by kernel_rfl
theorem f71_eq (c : Orc) (lf : Nat) (l0_0 : List T) (n0_1 : Int) (n0_2 : Int) (l1 : List T) : funK c env lf 6 fi71 [.st [.sl l0_0, .i .i64 n0_1, .i .i64 n0_2], .sl l1] = f71 c lf l0_0 n0_1 n0_2 l1 := by
  refine (f71_raw c lf l0_0 n0_1 n0_2 l1).trans ?_
  rfl
/-- loop.example/g00285/spec.l1Bytes, the loop at region 3. -/
def f143_0_s (c : Orc) (lf : Nat) (l0_0 : List T) (n1 : Int) (L : Int → Int → Int → List T → Option (List T)) (x23 : Int) (x24 : Int) (x25 : Int) (x26 : List T) : Option (List T) :=
  bif iLt x23 n1 then
    (c 124 [T.st [T.sl l0_0, T.i .i64 x24, T.i .i64 x25]]).bind fun r27 =>
    bif nLe (x26.length + ([T.i .u8 (IntKind.wrap .u8 (asI (nth r27 0)))] : List T).length) LIM then
    L (IntKind.wrap .i64 (x23 + 1)) (asI (T.cell (nth r27 1) 1)) (asI (T.cell (nth r27 1) 2)) (x26 ++ ([T.i .u8 (IntKind.wrap .u8 (asI (nth r27 0)))] : List T))
    else none
  else
    some [T.i .i64 0, T.sl l0_0, T.i .i64 x24, T.i .i64 x25, T.sl x26]
def f143_0_c (l0_0 : List T) (n1 : Int) (x23 : Int) (x24 : Int) (x25 : Int) (x26 : List T) : CSt := ⟨[.bp 0 0, .i .i64 n1, .rf 5 [] 0 none, .i .i64 x23], [.box [.ro 1 false [.i .u8] l0_0, .i .i64 x24, .i .i64 x25], .dead, .dead, .dead, .dead, .row false [.i .u8] x26 0 false]⟩
theorem f143_0_round (c : Orc) (lf : Nat) (l0_0 : List T) (n1 : Int) (L : CSt → Option (List T)) (x23 : Int) (x24 : Int) (x25 : Int) (x26 : List T) :
    roundK c env lf 6 fi143 5 3 [] [0, 1, 5, 6] (x143_3_0) L (f143_0_c l0_0 n1 x23 x24 x25 x26) = f143_0_s c lf l0_0 n1 (fun x23 x24 x25 x26 => L (f143_0_c l0_0 n1 x23 x24 x25 x26)) x23 x24 x25 x26 := by kernel_rfl
def f143_0 (c : Orc) (lf : Nat) (l0_0 : List T) (n1 : Int) : Nat → Int → Int → Int → List T → Option (List T)
  | 0 => fun _ _ _ _ => none
  | n + 1 => fun x23 x24 x25 x26 => f143_0_s c lf l0_0 n1 (f143_0 c lf l0_0 n1 n) x23 x24 x25 x26
theorem f143_0_u (c : Orc) (lf : Nat) (l0_0 : List T) (n1 : Int) (n : Nat) (x23 : Int) (x24 : Int) (x25 : Int) (x26 : List T) : f143_0 c lf l0_0 n1 (n + 1) x23 x24 x25 x26 = f143_0_s c lf l0_0 n1 (f143_0 c lf l0_0 n1 n) x23 x24 x25 x26 := rfl
theorem f143_0_eq (c : Orc) (lf : Nat) (l0_0 : List T) (n1 : Int) (n : Nat) (x23 : Int) (x24 : Int) (x25 : Int) (x26 : List T) :
    lpK c env lf 6 fi143 5 3 [] [0, 1, 5, 6] (x143_3_0) n (f143_0_c l0_0 n1 x23 x24 x25 x26) = f143_0 c lf l0_0 n1 n x23 x24 x25 x26 := by
  induction n generalizing x23 x24 x25 x26 with
  | zero => rfl
  | succ n ih =>
    refine (f143_0_round c lf l0_0 n1 _ x23 x24 x25 x26).trans ?_
    have e : (fun x23 x24 x25 x26 => lpK c env lf 6 fi143 5 3 [] [0, 1, 5, 6] (x143_3_0) n (f143_0_c l0_0 n1 x23 x24 x25 x26)) = f143_0 c lf l0_0 n1 n := by funext x23 x24 x25 x26; exact ih x23 x24 x25 x26
    show f143_0_s c lf l0_0 n1 (fun x23 x24 x25 x26 => lpK c env lf 6 fi143 5 3 [] [0, 1, 5, 6] (x143_3_0) n (f143_0_c l0_0 n1 x23 x24 x25 x26)) x23 x24 x25 x26 = _
    rw [e]; rfl
/-- loop.example/g00285/spec.l1Bytes -/
def f143_t (c : Orc) (lf : Nat) (lp0 : List T → Int → Int → Int → Int → List T → Option (List T)) (l0_0 : List T) (n0_1 : Int) (n0_2 : Int) (n1 : Int) : Option (List T) :=
  (lp0 l0_0 n1 0 n0_1 n0_2 ([] : List T)).bind fun r28 =>
  some [T.sl (asL (nth r28 4)), T.st [T.sl (asL (nth r28 1)), T.i .i64 (asI (nth r28 2)), T.i .i64 (asI (nth r28 3))]]
def f143 (c : Orc) (lf : Nat) (l0_0 : List T) (n0_1 : Int) (n0_2 : Int) (n1 : Int) : Option (List T) := f143_t c lf (fun (l0_0 : List T) (n1 : Int) (x23 : Int) (x24 : Int) (x25 : Int) (x26 : List T) => f143_0 c lf l0_0 n1 lf x23 x24 x25 x26) l0_0 n0_1 n0_2 n1
theorem f143_raw (c : Orc) (lf : Nat) (l0_0 : List T) (n0_1 : Int) (n0_2 : Int) (n1 : Int) : funK c env lf 6 fi143 [.st [.sl l0_0, .i .i64 n0_1, .i .i64 n0_2], .i .i64 n1] = f143_t c lf (fun (l0_0 : List T) (n1 : Int) (x23 : Int) (x24 : Int) (x25 : Int) (x26 : List T) => lpK c env lf 6 fi143 5 3 [] [0, 1, 5, 6] (x143_3_0) lf (f143_0_c l0_0 n1 x23 x24 x25 x26)) l0_0 n0_1 n0_2 n1 := by kernel_rfl
theorem f143_eq (c : Orc) (lf : Nat) (l0_0 : List T) (n0_1 : Int) (n0_2 : Int) (n1 : Int) : funK c env lf 6 fi143 [.st [.sl l0_0, .i .i64 n0_1, .i .i64 n0_2], .i .i64 n1] = f143 c lf l0_0 n0_1 n0_2 n1 := by
  refine (f143_raw c lf l0_0 n0_1 n0_2 n1).trans ?_
  have e0 : (fun (l0_0 : List T) (n1 : Int) (x23 : Int) (x24 : Int) (x25 : Int) (x26 : List T) => lpK c env lf 6 fi143 5 3 [] [0, 1, 5, 6] (x143_3_0) lf (f143_0_c l0_0 n1 x23 x24 x25 x26)) = (fun (l0_0 : List T) (n1 : Int) (x23 : Int) (x24 : Int) (x25 : Int) (x26 : List T) => f143_0 c lf l0_0 n1 lf x23 x24 x25 x26) := by funext l0_0 n1 x23 x24 x25 x26; exact f143_0_eq c lf l0_0 n1 lf x23 x24 x25 x26
  rw [e0]; rfl
/-- loop.example/g00285/spec.l1Once -/
def f118_t (c : Orc) (lf : Nat) (l0_0 : List T) (n0_1 : Int) (n0_2 : Int) (n1 : Int) : Option (List T) :=
  (c 70 [T.st [T.sl l0_0, T.i .i64 n0_1, T.i .i64 n0_2], T.i .i64 n1]).bind fun r29 =>
  some [T.b ((asI (nth r29 0)) == 0), T.st [T.sl l0_0, T.i .i64 (asI (T.cell (nth r29 1) 1)), T.i .i64 (asI (T.cell (nth r29 1) 2))]]
def f118 (c : Orc) (lf : Nat) (l0_0 : List T) (n0_1 : Int) (n0_2 : Int) (n1 : Int) : Option (List T) := f118_t c lf l0_0 n0_1 n0_2 n1
theorem f118_raw (c : Orc) (lf : Nat) (l0_0 : List T) (n0_1 : Int) (n0_2 : Int) (n1 : Int) : funK c env lf 6 fi118 [.st [.sl l0_0, .i .i64 n0_1, .i .i64 n0_2], .i .i64 n1] = f118_t c lf l0_0 n0_1 n0_2 n1 := by kernel_rfl
theorem f118_eq (c : Orc) (lf : Nat) (l0_0 : List T) (n0_1 : Int) (n0_2 : Int) (n1 : Int) : funK c env lf 6 fi118 [.st [.sl l0_0, .i .i64 n0_1, .i .i64 n0_2], .i .i64 n1] = f118 c lf l0_0 n0_1 n0_2 n1 := by
  refine (f118_raw c lf l0_0 n0_1 n0_2 n1).trans ?_
  rfl
/-- loop.example/g00285/spec.l1Str -/
def f131_t (c : Orc) (lf : Nat) (l0_0 : List T) (n0_1 : Int) (n0_2 : Int) (l1 : List T) : Option (List T) :=
  (c 70 [T.st [T.sl l0_0, T.i .i64 n0_1, T.i .i64 n0_2], T.i .i64 (l1.length : Int)]).bind fun r30 =>
  bif inR (asI (nth r30 0)) l1.length then
  some [T.s (asS (l1.getD ((asI (nth r30 0)).toNat) T.u)), T.st [T.sl l0_0, T.i .i64 (asI (T.cell (nth r30 1) 1)), T.i .i64 (asI (T.cell (nth r30 1) 2))]]
  else none
def f131 (c : Orc) (lf : Nat) (l0_0 : List T) (n0_1 : Int) (n0_2 : Int) (l1 : List T) : Option (List T) := f131_t c lf l0_0 n0_1 n0_2 l1
theorem f131_raw (c : Orc) (lf : Nat) (l0_0 : List T) (n0_1 : Int) (n0_2 : Int) (l1 : List T) : funK c env lf 6 fi131 [.st [.sl l0_0, .i .i64 n0_1, .i .i64 n0_2], .sl l1] = f131_t c lf l0_0 n0_1 n0_2 l1 := by kernel_rfl
theorem f131_eq (c : Orc) (lf : Nat) (l0_0 : List T) (n0_1 : Int) (n0_2 : Int) (l1 : List T) : funK c env lf 6 fi131 [.st [.sl l0_0, .i .i64 n0_1, .i .i64 n0_2], .sl l1] = f131 c lf l0_0 n0_1 n0_2 l1 := by
  refine (f131_raw c lf l0_0 n0_1 n0_2 l1).trans ?_
  rfl
/-- loop.example/g00285/spec.l3Draw, the loop at region 12. -/
def f117_0_s (c : Orc) (lf : Nat) (l0_0 : List T) (r63 : List T) (r64 : List T) (r66 : List T) (r67 : List T) (L : Int → Int → Int → List T → Option (List T)) (x70 : Int) (x71 : Int) (x72 : Int) (x73 : List T) : Option (List T) :=
  bif iLt x70 2 then
    (c 118 [T.st [T.sl l0_0, T.i .i64 x71, T.i .i64 x72], T.i .i64 3]).bind fun r74 =>
    bif asB (nth r74 0) then
      bif inR x70 (([T.s (⟨#[97]⟩ : ByteArray), T.s (⟨#[98]⟩ : ByteArray), T.s (⟨#[99]⟩ : ByteArray), T.s (⟨#[100, 46, 116, 120, 116]⟩ : ByteArray)] : List T).length) then
      (c 131 [T.st [T.sl l0_0, T.i .i64 (asI (T.cell (nth r74 1) 1)), T.i .i64 (asI (T.cell (nth r74 1) 2))], T.sl ([T.s (⟨#[120]⟩ : ByteArray), T.s (⟨#[118, 97, 108, 117, 101]⟩ : ByteArray), T.s (⟨#[115, 105, 120, 116, 101, 101, 110, 98, 121, 116, 101, 115, 120, 120, 120, 120]⟩ : ByteArray)] : List T)]).bind fun r75 =>
      bif nLe (x73.length + ([T.st [T.s (asS (([T.s (⟨#[97]⟩ : ByteArray), T.s (⟨#[98]⟩ : ByteArray), T.s (⟨#[99]⟩ : ByteArray), T.s (⟨#[100, 46, 116, 120, 116]⟩ : ByteArray)] : List T).getD x70.toNat T.u)), T.s (asS (nth r75 0))]] : List T).length) LIM then
      L (IntKind.wrap .i64 (x70 + 1)) (asI (T.cell (nth r75 1) 1)) (asI (T.cell (nth r75 1) 2)) (x73 ++ ([T.st [T.s (asS (([T.s (⟨#[97]⟩ : ByteArray), T.s (⟨#[98]⟩ : ByteArray), T.s (⟨#[99]⟩ : ByteArray), T.s (⟨#[100, 46, 116, 120, 116]⟩ : ByteArray)] : List T).getD x70.toNat T.u)), T.s (asS (nth r75 0))]] : List T))
      else none
      else none
    else
      L (IntKind.wrap .i64 (x70 + 1)) (asI (T.cell (nth r74 1) 1)) (asI (T.cell (nth r74 1) 2)) x73
  else
    some [T.i .i64 0, T.sl l0_0, T.i .i64 x71, T.i .i64 x72, T.i .i64 0, T.i .i64 0, T.i .i64 0, T.sl ([] : List T), T.sl ([] : List T), T.sl ([] : List T), T.i .i64 (IntKind.wrap .i64 (2 + (asI (nth r63 0)))), T.i .i64 (IntKind.wrap .i64 (1 + (asI (nth r64 0)))), T.i .i64 (IntKind.wrap .i64 (1 + (asI (nth r67 0)))), T.sl (asL (nth r66 0)), T.sl ([] : List T), T.sl x73]
def f117_0_c (l0_0 : List T) (r63 : List T) (r64 : List T) (r66 : List T) (r67 : List T) (x70 : Int) (x71 : Int) (x72 : Int) (x73 : List T) : CSt := ⟨[.bp 0 0, .bp 4 0, .bp 8 0, .rf 12 [] 0 none, .i .i64 x70], [.box [.ro 1 false [.i .u8] l0_0, .i .i64 x71, .i .i64 x72], .dead, .dead, .dead, .box [.i .i64 0, .i .i64 0, .i .i64 0, .rf 5 [] 0 none, .rf 6 [] 0 none, .rf 7 [] 0 none], .row false [.i .u8] ([] : List T) 0 false, .row true [.s, .i .i64] ([] : List T) 0 false, .row true [.s, .s] ([] : List T) 0 false, .box [.i .i64 (IntKind.wrap .i64 (2 + (asI (nth r63 0)))), .i .i64 (IntKind.wrap .i64 (1 + (asI (nth r64 0)))), .i .i64 (IntKind.wrap .i64 (1 + (asI (nth r67 0)))), .rf 9 [] 0 none, .rf 10 [] 0 none, .rf 11 [] 0 none], .row false [.i .u8] (asL (nth r66 0)) 0 false, .row true [.s, .i .i64] ([] : List T) 0 false, .row true [.s, .s] x73 0 false, .row false [.s] ([T.s (⟨#[97]⟩ : ByteArray), T.s (⟨#[98]⟩ : ByteArray), T.s (⟨#[99]⟩ : ByteArray), T.s (⟨#[100, 46, 116, 120, 116]⟩ : ByteArray)] : List T) 0 false]⟩
theorem f117_0_round (c : Orc) (lf : Nat) (l0_0 : List T) (r63 : List T) (r64 : List T) (r66 : List T) (r67 : List T) (L : CSt → Option (List T)) (x70 : Int) (x71 : Int) (x72 : Int) (x73 : List T) :
    roundK c env lf 6 fi117 4 12 [] [0, 2, 3, 4, 6] (x117_12_0) L (f117_0_c l0_0 r63 r64 r66 r67 x70 x71 x72 x73) = f117_0_s c lf l0_0 r63 r64 r66 r67 (fun x70 x71 x72 x73 => L (f117_0_c l0_0 r63 r64 r66 r67 x70 x71 x72 x73)) x70 x71 x72 x73 := by kernel_rfl
def f117_0 (c : Orc) (lf : Nat) (l0_0 : List T) (r63 : List T) (r64 : List T) (r66 : List T) (r67 : List T) : Nat → Int → Int → Int → List T → Option (List T)
  | 0 => fun _ _ _ _ => none
  | n + 1 => fun x70 x71 x72 x73 => f117_0_s c lf l0_0 r63 r64 r66 r67 (f117_0 c lf l0_0 r63 r64 r66 r67 n) x70 x71 x72 x73
theorem f117_0_u (c : Orc) (lf : Nat) (l0_0 : List T) (r63 : List T) (r64 : List T) (r66 : List T) (r67 : List T) (n : Nat) (x70 : Int) (x71 : Int) (x72 : Int) (x73 : List T) : f117_0 c lf l0_0 r63 r64 r66 r67 (n + 1) x70 x71 x72 x73 = f117_0_s c lf l0_0 r63 r64 r66 r67 (f117_0 c lf l0_0 r63 r64 r66 r67 n) x70 x71 x72 x73 := rfl
theorem f117_0_eq (c : Orc) (lf : Nat) (l0_0 : List T) (r63 : List T) (r64 : List T) (r66 : List T) (r67 : List T) (n : Nat) (x70 : Int) (x71 : Int) (x72 : Int) (x73 : List T) :
    lpK c env lf 6 fi117 4 12 [] [0, 2, 3, 4, 6] (x117_12_0) n (f117_0_c l0_0 r63 r64 r66 r67 x70 x71 x72 x73) = f117_0 c lf l0_0 r63 r64 r66 r67 n x70 x71 x72 x73 := by
  induction n generalizing x70 x71 x72 x73 with
  | zero => rfl
  | succ n ih =>
    refine (f117_0_round c lf l0_0 r63 r64 r66 r67 _ x70 x71 x72 x73).trans ?_
    have e : (fun x70 x71 x72 x73 => lpK c env lf 6 fi117 4 12 [] [0, 2, 3, 4, 6] (x117_12_0) n (f117_0_c l0_0 r63 r64 r66 r67 x70 x71 x72 x73)) = f117_0 c lf l0_0 r63 r64 r66 r67 n := by funext x70 x71 x72 x73; exact ih x70 x71 x72 x73
    show f117_0_s c lf l0_0 r63 r64 r66 r67 (fun x70 x71 x72 x73 => lpK c env lf 6 fi117 4 12 [] [0, 2, 3, 4, 6] (x117_12_0) n (f117_0_c l0_0 r63 r64 r66 r67 x70 x71 x72 x73)) x70 x71 x72 x73 = _
    rw [e]; rfl
/-- loop.example/g00285/spec.l3Draw, the loop at region 7. -/
def f117_1_s (c : Orc) (lf : Nat) (l0_0 : List T) (r63 : List T) (r64 : List T) (L : Int → Int → Int → List T → Option (List T)) (x79 : Int) (x80 : Int) (x81 : Int) (x82 : List T) : Option (List T) :=
  bif iLt x79 4 then
    (c 118 [T.st [T.sl l0_0, T.i .i64 x80, T.i .i64 x81], T.i .i64 2]).bind fun r83 =>
    bif asB (nth r83 0) then
      bif inR x79 (([T.s (⟨#[97]⟩ : ByteArray), T.s (⟨#[98]⟩ : ByteArray), T.s (⟨#[99]⟩ : ByteArray), T.s (⟨#[100, 46, 116, 120, 116]⟩ : ByteArray)] : List T).length) then
      (c 70 [T.st [T.sl l0_0, T.i .i64 (asI (T.cell (nth r83 1) 1)), T.i .i64 (asI (T.cell (nth r83 1) 2))], T.i .i64 8]).bind fun r84 =>
      bif nLe (x82.length + ([T.st [T.s (asS (([T.s (⟨#[97]⟩ : ByteArray), T.s (⟨#[98]⟩ : ByteArray), T.s (⟨#[99]⟩ : ByteArray), T.s (⟨#[100, 46, 116, 120, 116]⟩ : ByteArray)] : List T).getD x79.toNat T.u)), T.i .i64 (IntKind.wrap .i64 (2 + (asI (nth r84 0))))]] : List T).length) LIM then
      L (IntKind.wrap .i64 (x79 + 1)) (asI (T.cell (nth r84 1) 1)) (asI (T.cell (nth r84 1) 2)) (x82 ++ ([T.st [T.s (asS (([T.s (⟨#[97]⟩ : ByteArray), T.s (⟨#[98]⟩ : ByteArray), T.s (⟨#[99]⟩ : ByteArray), T.s (⟨#[100, 46, 116, 120, 116]⟩ : ByteArray)] : List T).getD x79.toNat T.u)), T.i .i64 (IntKind.wrap .i64 (2 + (asI (nth r84 0))))]] : List T))
      else none
      else none
    else
      L (IntKind.wrap .i64 (x79 + 1)) (asI (T.cell (nth r83 1) 1)) (asI (T.cell (nth r83 1) 2)) x82
  else
    some [T.i .i64 0, T.sl l0_0, T.i .i64 x80, T.i .i64 x81, T.i .i64 0, T.i .i64 0, T.i .i64 0, T.sl ([] : List T), T.sl ([] : List T), T.sl ([] : List T), T.i .i64 (IntKind.wrap .i64 (2 + (asI (nth r63 0)))), T.i .i64 (IntKind.wrap .i64 (1 + (asI (nth r64 0)))), T.i .i64 1, T.sl ([] : List T), T.sl x82, T.sl ([] : List T), T.sl ([T.s (⟨#[97]⟩ : ByteArray), T.s (⟨#[98]⟩ : ByteArray), T.s (⟨#[99]⟩ : ByteArray), T.s (⟨#[100, 46, 116, 120, 116]⟩ : ByteArray)] : List T)]
def f117_1_c (l0_0 : List T) (r63 : List T) (r64 : List T) (x79 : Int) (x80 : Int) (x81 : Int) (x82 : List T) : CSt := ⟨[.bp 0 0, .bp 4 0, .bp 8 0, .rf 12 [] 0 none, .i .i64 x79], [.box [.ro 1 false [.i .u8] l0_0, .i .i64 x80, .i .i64 x81], .dead, .dead, .dead, .box [.i .i64 0, .i .i64 0, .i .i64 0, .rf 5 [] 0 none, .rf 6 [] 0 none, .rf 7 [] 0 none], .row false [.i .u8] ([] : List T) 0 false, .row true [.s, .i .i64] ([] : List T) 0 false, .row true [.s, .s] ([] : List T) 0 false, .box [.i .i64 (IntKind.wrap .i64 (2 + (asI (nth r63 0)))), .i .i64 (IntKind.wrap .i64 (1 + (asI (nth r64 0)))), .i .i64 1, .rf 9 [] 0 none, .rf 10 [] 0 none, .rf 11 [] 0 none], .row false [.i .u8] ([] : List T) 0 false, .row true [.s, .i .i64] x82 0 false, .row true [.s, .s] ([] : List T) 0 false, .row false [.s] ([T.s (⟨#[97]⟩ : ByteArray), T.s (⟨#[98]⟩ : ByteArray), T.s (⟨#[99]⟩ : ByteArray), T.s (⟨#[100, 46, 116, 120, 116]⟩ : ByteArray)] : List T) 0 false]⟩
theorem f117_1_round (c : Orc) (lf : Nat) (l0_0 : List T) (r63 : List T) (r64 : List T) (L : CSt → Option (List T)) (x79 : Int) (x80 : Int) (x81 : Int) (x82 : List T) :
    roundK c env lf 6 fi117 4 7 [] [0, 2, 3, 4, 5] (x117_7_0) L (f117_1_c l0_0 r63 r64 x79 x80 x81 x82) = f117_1_s c lf l0_0 r63 r64 (fun x79 x80 x81 x82 => L (f117_1_c l0_0 r63 r64 x79 x80 x81 x82)) x79 x80 x81 x82 := by kernel_rfl
def f117_1 (c : Orc) (lf : Nat) (l0_0 : List T) (r63 : List T) (r64 : List T) : Nat → Int → Int → Int → List T → Option (List T)
  | 0 => fun _ _ _ _ => none
  | n + 1 => fun x79 x80 x81 x82 => f117_1_s c lf l0_0 r63 r64 (f117_1 c lf l0_0 r63 r64 n) x79 x80 x81 x82
theorem f117_1_u (c : Orc) (lf : Nat) (l0_0 : List T) (r63 : List T) (r64 : List T) (n : Nat) (x79 : Int) (x80 : Int) (x81 : Int) (x82 : List T) : f117_1 c lf l0_0 r63 r64 (n + 1) x79 x80 x81 x82 = f117_1_s c lf l0_0 r63 r64 (f117_1 c lf l0_0 r63 r64 n) x79 x80 x81 x82 := rfl
theorem f117_1_eq (c : Orc) (lf : Nat) (l0_0 : List T) (r63 : List T) (r64 : List T) (n : Nat) (x79 : Int) (x80 : Int) (x81 : Int) (x82 : List T) :
    lpK c env lf 6 fi117 4 7 [] [0, 2, 3, 4, 5] (x117_7_0) n (f117_1_c l0_0 r63 r64 x79 x80 x81 x82) = f117_1 c lf l0_0 r63 r64 n x79 x80 x81 x82 := by
  induction n generalizing x79 x80 x81 x82 with
  | zero => rfl
  | succ n ih =>
    refine (f117_1_round c lf l0_0 r63 r64 _ x79 x80 x81 x82).trans ?_
    have e : (fun x79 x80 x81 x82 => lpK c env lf 6 fi117 4 7 [] [0, 2, 3, 4, 5] (x117_7_0) n (f117_1_c l0_0 r63 r64 x79 x80 x81 x82)) = f117_1 c lf l0_0 r63 r64 n := by funext x79 x80 x81 x82; exact ih x79 x80 x81 x82
    show f117_1_s c lf l0_0 r63 r64 (fun x79 x80 x81 x82 => lpK c env lf 6 fi117 4 7 [] [0, 2, 3, 4, 5] (x117_7_0) n (f117_1_c l0_0 r63 r64 x79 x80 x81 x82)) x79 x80 x81 x82 = _
    rw [e]; rfl
/-- loop.example/g00285/spec.l3Draw, the loop at region 12. -/
def f117_2_s (c : Orc) (lf : Nat) (r85 : List T) (L : Int → Int → Int → List T → Option (List T)) (x88 : Int) (x89 : Int) (x90 : Int) (x91 : List T) : Option (List T) :=
  bif iLt x88 2 then
    (c 118 [T.st [T.sl (asL (nth r85 1)), T.i .i64 x89, T.i .i64 x90], T.i .i64 3]).bind fun r92 =>
    bif asB (nth r92 0) then
      bif inR x88 ((asL (nth r85 16)).length) then
      (c 131 [T.st [T.sl (asL (nth r85 1)), T.i .i64 (asI (T.cell (nth r92 1) 1)), T.i .i64 (asI (T.cell (nth r92 1) 2))], T.sl ([T.s (⟨#[120]⟩ : ByteArray), T.s (⟨#[118, 97, 108, 117, 101]⟩ : ByteArray), T.s (⟨#[115, 105, 120, 116, 101, 101, 110, 98, 121, 116, 101, 115, 120, 120, 120, 120]⟩ : ByteArray)] : List T)]).bind fun r93 =>
      bif nLe (x91.length + ([T.st [T.s (asS ((asL (nth r85 16)).getD x88.toNat T.u)), T.s (asS (nth r93 0))]] : List T).length) LIM then
      L (IntKind.wrap .i64 (x88 + 1)) (asI (T.cell (nth r93 1) 1)) (asI (T.cell (nth r93 1) 2)) (x91 ++ ([T.st [T.s (asS ((asL (nth r85 16)).getD x88.toNat T.u)), T.s (asS (nth r93 0))]] : List T))
      else none
      else none
    else
      L (IntKind.wrap .i64 (x88 + 1)) (asI (T.cell (nth r92 1) 1)) (asI (T.cell (nth r92 1) 2)) x91
  else
    some [T.i .i64 0, T.sl (asL (nth r85 1)), T.i .i64 x89, T.i .i64 x90, T.i .i64 (asI (nth r85 4)), T.i .i64 (asI (nth r85 5)), T.i .i64 (asI (nth r85 6)), T.sl (asL (nth r85 7)), T.sl (asL (nth r85 8)), T.sl (asL (nth r85 9)), T.i .i64 (asI (nth r85 10)), T.i .i64 (asI (nth r85 11)), T.i .i64 (asI (nth r85 12)), T.sl (asL (nth r85 13)), T.sl (asL (nth r85 14)), T.sl x91]
def f117_2_c (r85 : List T) (x88 : Int) (x89 : Int) (x90 : Int) (x91 : List T) : CSt := ⟨[.bp 0 0, .bp 4 0, .bp 8 0, .rf 12 [] 0 none, .i .i64 x88], [.box [.ro 1 false [.i .u8] (asL (nth r85 1)), .i .i64 x89, .i .i64 x90], .dead, .dead, .dead, .box [.i .i64 (asI (nth r85 4)), .i .i64 (asI (nth r85 5)), .i .i64 (asI (nth r85 6)), .rf 5 [] 0 none, .rf 6 [] 0 none, .rf 7 [] 0 none], .row false [.i .u8] (asL (nth r85 7)) 0 false, .row true [.s, .i .i64] (asL (nth r85 8)) 0 false, .row true [.s, .s] (asL (nth r85 9)) 0 false, .box [.i .i64 (asI (nth r85 10)), .i .i64 (asI (nth r85 11)), .i .i64 (asI (nth r85 12)), .rf 9 [] 0 none, .rf 10 [] 0 none, .rf 11 [] 0 none], .row false [.i .u8] (asL (nth r85 13)) 0 false, .row true [.s, .i .i64] (asL (nth r85 14)) 0 false, .row true [.s, .s] x91 0 false, .row false [.s] (asL (nth r85 16)) 0 false]⟩
theorem f117_2_round (c : Orc) (lf : Nat) (r85 : List T) (L : CSt → Option (List T)) (x88 : Int) (x89 : Int) (x90 : Int) (x91 : List T) :
    roundK c env lf 6 fi117 4 12 [] [0, 2, 3, 4, 6] (x117_12_0) L (f117_2_c r85 x88 x89 x90 x91) = f117_2_s c lf r85 (fun x88 x89 x90 x91 => L (f117_2_c r85 x88 x89 x90 x91)) x88 x89 x90 x91 := by kernel_rfl
def f117_2 (c : Orc) (lf : Nat) (r85 : List T) : Nat → Int → Int → Int → List T → Option (List T)
  | 0 => fun _ _ _ _ => none
  | n + 1 => fun x88 x89 x90 x91 => f117_2_s c lf r85 (f117_2 c lf r85 n) x88 x89 x90 x91
theorem f117_2_u (c : Orc) (lf : Nat) (r85 : List T) (n : Nat) (x88 : Int) (x89 : Int) (x90 : Int) (x91 : List T) : f117_2 c lf r85 (n + 1) x88 x89 x90 x91 = f117_2_s c lf r85 (f117_2 c lf r85 n) x88 x89 x90 x91 := rfl
theorem f117_2_eq (c : Orc) (lf : Nat) (r85 : List T) (n : Nat) (x88 : Int) (x89 : Int) (x90 : Int) (x91 : List T) :
    lpK c env lf 6 fi117 4 12 [] [0, 2, 3, 4, 6] (x117_12_0) n (f117_2_c r85 x88 x89 x90 x91) = f117_2 c lf r85 n x88 x89 x90 x91 := by
  induction n generalizing x88 x89 x90 x91 with
  | zero => rfl
  | succ n ih =>
    refine (f117_2_round c lf r85 _ x88 x89 x90 x91).trans ?_
    have e : (fun x88 x89 x90 x91 => lpK c env lf 6 fi117 4 12 [] [0, 2, 3, 4, 6] (x117_12_0) n (f117_2_c r85 x88 x89 x90 x91)) = f117_2 c lf r85 n := by funext x88 x89 x90 x91; exact ih x88 x89 x90 x91
    show f117_2_s c lf r85 (fun x88 x89 x90 x91 => lpK c env lf 6 fi117 4 12 [] [0, 2, 3, 4, 6] (x117_12_0) n (f117_2_c r85 x88 x89 x90 x91)) x88 x89 x90 x91 = _
    rw [e]; rfl
/-- loop.example/g00285/spec.l3Draw -/
def f117_t (c : Orc) (lf : Nat) (lp0 : List T → List T → List T → List T → List T → Int → Int → Int → List T → Option (List T)) (lp1 : List T → List T → List T → Int → Int → Int → List T → Option (List T)) (lp2 : List T → Int → Int → Int → List T → Option (List T)) (l0_0 : List T) (n0_1 : Int) (n0_2 : Int) : Option (List T) :=
  (c 70 [T.st [T.sl l0_0, T.i .i64 n0_1, T.i .i64 n0_2], T.i .i64 6]).bind fun r63 =>
  (c 70 [T.st [T.sl l0_0, T.i .i64 (asI (T.cell (nth r63 1) 1)), T.i .i64 (asI (T.cell (nth r63 1) 2))], T.i .i64 2]).bind fun r64 =>
  bif (IntKind.wrap .i64 (1 + (asI (nth r64 0)))) == 1 then
    (c 71 [T.st [T.sl l0_0, T.i .i64 (asI (T.cell (nth r64 1) 1)), T.i .i64 (asI (T.cell (nth r64 1) 2))], T.sl ([T.i .i64 0, T.i .i64 1, T.i .i64 5, T.i .i64 20, T.i .i64 100] : List T)]).bind fun r65 =>
    (c 143 [T.st [T.sl l0_0, T.i .i64 (asI (T.cell (nth r65 1) 1)), T.i .i64 (asI (T.cell (nth r65 1) 2))], T.i .i64 (asI (nth r65 0))]).bind fun r66 =>
    (c 70 [T.st [T.sl l0_0, T.i .i64 (asI (T.cell (nth r66 1) 1)), T.i .i64 (asI (T.cell (nth r66 1) 2))], T.i .i64 2]).bind fun r67 =>
    (lp0 l0_0 r63 r64 r66 r67 0 (asI (T.cell (nth r67 1) 1)) (asI (T.cell (nth r67 1) 2)) ([] : List T)).bind fun r76 =>
    some [T.st [T.i .i64 (asI (nth r76 10)), T.i .i64 (asI (nth r76 11)), T.i .i64 (asI (nth r76 12)), T.sl (asL (nth r76 13)), T.sl (asL (nth r76 14)), T.sl (asL (nth r76 15))], T.st [T.sl (asL (nth r76 1)), T.i .i64 (asI (nth r76 2)), T.i .i64 (asI (nth r76 3))]]
  else
    (lp1 l0_0 r63 r64 0 (asI (T.cell (nth r64 1) 1)) (asI (T.cell (nth r64 1) 2)) ([] : List T)).bind fun r85 =>
    (lp2 r85 0 (asI (nth r85 2)) (asI (nth r85 3)) (asL (nth r85 15))).bind fun r94 =>
    some [T.st [T.i .i64 (asI (nth r94 10)), T.i .i64 (asI (nth r94 11)), T.i .i64 (asI (nth r94 12)), T.sl (asL (nth r94 13)), T.sl (asL (nth r94 14)), T.sl (asL (nth r94 15))], T.st [T.sl (asL (nth r94 1)), T.i .i64 (asI (nth r94 2)), T.i .i64 (asI (nth r94 3))]]
def f117 (c : Orc) (lf : Nat) (l0_0 : List T) (n0_1 : Int) (n0_2 : Int) : Option (List T) := f117_t c lf (fun (l0_0 : List T) (r63 : List T) (r64 : List T) (r66 : List T) (r67 : List T) (x70 : Int) (x71 : Int) (x72 : Int) (x73 : List T) => f117_0 c lf l0_0 r63 r64 r66 r67 lf x70 x71 x72 x73) (fun (l0_0 : List T) (r63 : List T) (r64 : List T) (x79 : Int) (x80 : Int) (x81 : Int) (x82 : List T) => f117_1 c lf l0_0 r63 r64 lf x79 x80 x81 x82) (fun (r85 : List T) (x88 : Int) (x89 : Int) (x90 : Int) (x91 : List T) => f117_2 c lf r85 lf x88 x89 x90 x91) l0_0 n0_1 n0_2
theorem f117_raw (c : Orc) (lf : Nat) (l0_0 : List T) (n0_1 : Int) (n0_2 : Int) : funK c env lf 6 fi117 [.st [.sl l0_0, .i .i64 n0_1, .i .i64 n0_2]] = f117_t c lf (fun (l0_0 : List T) (r63 : List T) (r64 : List T) (r66 : List T) (r67 : List T) (x70 : Int) (x71 : Int) (x72 : Int) (x73 : List T) => lpK c env lf 6 fi117 4 12 [] [0, 2, 3, 4, 6] (x117_12_0) lf (f117_0_c l0_0 r63 r64 r66 r67 x70 x71 x72 x73)) (fun (l0_0 : List T) (r63 : List T) (r64 : List T) (x79 : Int) (x80 : Int) (x81 : Int) (x82 : List T) => lpK c env lf 6 fi117 4 7 [] [0, 2, 3, 4, 5] (x117_7_0) lf (f117_1_c l0_0 r63 r64 x79 x80 x81 x82)) (fun (r85 : List T) (x88 : Int) (x89 : Int) (x90 : Int) (x91 : List T) => lpK c env lf 6 fi117 4 12 [] [0, 2, 3, 4, 6] (x117_12_0) lf (f117_2_c r85 x88 x89 x90 x91)) l0_0 n0_1 n0_2 := by kernel_rfl
theorem f117_eq (c : Orc) (lf : Nat) (l0_0 : List T) (n0_1 : Int) (n0_2 : Int) : funK c env lf 6 fi117 [.st [.sl l0_0, .i .i64 n0_1, .i .i64 n0_2]] = f117 c lf l0_0 n0_1 n0_2 := by
  refine (f117_raw c lf l0_0 n0_1 n0_2).trans ?_
  have e0 : (fun (l0_0 : List T) (r63 : List T) (r64 : List T) (r66 : List T) (r67 : List T) (x70 : Int) (x71 : Int) (x72 : Int) (x73 : List T) => lpK c env lf 6 fi117 4 12 [] [0, 2, 3, 4, 6] (x117_12_0) lf (f117_0_c l0_0 r63 r64 r66 r67 x70 x71 x72 x73)) = (fun (l0_0 : List T) (r63 : List T) (r64 : List T) (r66 : List T) (r67 : List T) (x70 : Int) (x71 : Int) (x72 : Int) (x73 : List T) => f117_0 c lf l0_0 r63 r64 r66 r67 lf x70 x71 x72 x73) := by funext l0_0 r63 r64 r66 r67 x70 x71 x72 x73; exact f117_0_eq c lf l0_0 r63 r64 r66 r67 lf x70 x71 x72 x73
  have e1 : (fun (l0_0 : List T) (r63 : List T) (r64 : List T) (x79 : Int) (x80 : Int) (x81 : Int) (x82 : List T) => lpK c env lf 6 fi117 4 7 [] [0, 2, 3, 4, 5] (x117_7_0) lf (f117_1_c l0_0 r63 r64 x79 x80 x81 x82)) = (fun (l0_0 : List T) (r63 : List T) (r64 : List T) (x79 : Int) (x80 : Int) (x81 : Int) (x82 : List T) => f117_1 c lf l0_0 r63 r64 lf x79 x80 x81 x82) := by funext l0_0 r63 r64 x79 x80 x81 x82; exact f117_1_eq c lf l0_0 r63 r64 lf x79 x80 x81 x82
  have e2 : (fun (r85 : List T) (x88 : Int) (x89 : Int) (x90 : Int) (x91 : List T) => lpK c env lf 6 fi117 4 12 [] [0, 2, 3, 4, 6] (x117_12_0) lf (f117_2_c r85 x88 x89 x90 x91)) = (fun (r85 : List T) (x88 : Int) (x89 : Int) (x90 : Int) (x91 : List T) => f117_2 c lf r85 lf x88 x89 x90 x91) := by funext r85 x88 x89 x90 x91; exact f117_2_eq c lf r85 lf x88 x89 x90 x91
  rw [e0, e1, e2]; rfl
/-- loop.example/g00285/spec.l3Any -/
def f85_t (c : Orc) (lf : Nat) (l0_0 : List T) (n0_1 : Int) (n0_2 : Int) : Option (List T) :=
  (c 117 [T.st [T.sl l0_0, T.i .i64 n0_1, T.i .i64 n0_2]]).bind fun r95 =>
  (c 70 [T.st [T.sl l0_0, T.i .i64 (asI (T.cell (nth r95 1) 1)), T.i .i64 (asI (T.cell (nth r95 1) 2))], T.i .i64 14]).bind fun r96 =>
  bif (asI (nth r96 0)) == 0 then
    (c 71 [T.st [T.sl l0_0, T.i .i64 (asI (T.cell (nth r96 1) 1)), T.i .i64 (asI (T.cell (nth r96 1) 2))], T.sl ([T.i .i64 0, T.i .i64 1, T.i .i64 1000, T.i .i64 1001] : List T)]).bind fun r97 =>
    some [T.st [T.i .i64 (asI (nth r97 0)), T.i .i64 (asI (T.cell (nth r95 0) 1)), T.i .i64 (asI (T.cell (nth r95 0) 2)), T.sl (asL (T.cell (nth r95 0) 3)), T.sl (asL (T.cell (nth r95 0) 4)), T.sl (asL (T.cell (nth r95 0) 5))], T.st [T.sl l0_0, T.i .i64 (asI (T.cell (nth r97 1) 1)), T.i .i64 (asI (T.cell (nth r97 1) 2))]]
  else
    bif (asI (nth r96 0)) == 1 then
      (c 70 [T.st [T.sl l0_0, T.i .i64 (asI (T.cell (nth r96 1) 1)), T.i .i64 (asI (T.cell (nth r96 1) 2))], T.i .i64 4]).bind fun r98 =>
      some [T.st [T.i .i64 (asI (T.cell (nth r95 0) 0)), T.i .i64 (asI (nth r98 0)), T.i .i64 (asI (T.cell (nth r95 0) 2)), T.sl (asL (T.cell (nth r95 0) 3)), T.sl (asL (T.cell (nth r95 0) 4)), T.sl (asL (T.cell (nth r95 0) 5))], T.st [T.sl l0_0, T.i .i64 (asI (T.cell (nth r98 1) 1)), T.i .i64 (asI (T.cell (nth r98 1) 2))]]
    else
      bif (asI (nth r96 0)) == 2 then
        (c 71 [T.st [T.sl l0_0, T.i .i64 (asI (T.cell (nth r96 1) 1)), T.i .i64 (asI (T.cell (nth r96 1) 2))], T.sl ([T.i .i64 (-1), T.i .i64 0, T.i .i64 2, T.i .i64 1001] : List T)]).bind fun r99 =>
        some [T.st [T.i .i64 (asI (T.cell (nth r95 0) 0)), T.i .i64 (asI (T.cell (nth r95 0) 1)), T.i .i64 (asI (nth r99 0)), T.sl (asL (T.cell (nth r95 0) 3)), T.sl (asL (T.cell (nth r95 0) 4)), T.sl (asL (T.cell (nth r95 0) 5))], T.st [T.sl l0_0, T.i .i64 (asI (T.cell (nth r99 1) 1)), T.i .i64 (asI (T.cell (nth r99 1) 2))]]
      else
        bif (asI (nth r96 0)) == 3 then
          bif nLe ((asL (T.cell (nth r95 0) 3)).length + ([T.i .u8 1] : List T).length) LIM then
          some [T.st [T.i .i64 (asI (T.cell (nth r95 0) 0)), T.i .i64 (asI (T.cell (nth r95 0) 1)), T.i .i64 (asI (T.cell (nth r95 0) 2)), T.sl ((asL (T.cell (nth r95 0) 3)) ++ ([T.i .u8 1] : List T)), T.sl (asL (T.cell (nth r95 0) 4)), T.sl (asL (T.cell (nth r95 0) 5))], T.st [T.sl l0_0, T.i .i64 (asI (T.cell (nth r96 1) 1)), T.i .i64 (asI (T.cell (nth r96 1) 2))]]
          else none
        else
          bif (asI (nth r96 0)) == 4 then
            (c 131 [T.st [T.sl l0_0, T.i .i64 (asI (T.cell (nth r96 1) 1)), T.i .i64 (asI (T.cell (nth r96 1) 2))], T.sl ([T.s (⟨#[97]⟩ : ByteArray), T.s (⟨#[122]⟩ : ByteArray), T.s (⟨#[]⟩ : ByteArray), T.s (⟨#[90]⟩ : ByteArray)] : List T)]).bind fun r100 =>
            (c 71 [T.st [T.sl l0_0, T.i .i64 (asI (T.cell (nth r100 1) 1)), T.i .i64 (asI (T.cell (nth r100 1) 2))], T.sl ([T.i .i64 1, T.i .i64 2, T.i .i64 1000, T.i .i64 1001] : List T)]).bind fun r101 =>
            bif nLe ((asL (T.cell (nth r95 0) 4)).length + ([T.st [T.s (asS (nth r100 0)), T.i .i64 (asI (nth r101 0))]] : List T).length) LIM then
            some [T.st [T.i .i64 (asI (T.cell (nth r95 0) 0)), T.i .i64 (asI (T.cell (nth r95 0) 1)), T.i .i64 (asI (T.cell (nth r95 0) 2)), T.sl (asL (T.cell (nth r95 0) 3)), T.sl ((asL (T.cell (nth r95 0) 4)) ++ ([T.st [T.s (asS (nth r100 0)), T.i .i64 (asI (nth r101 0))]] : List T)), T.sl (asL (T.cell (nth r95 0) 5))], T.st [T.sl l0_0, T.i .i64 (asI (T.cell (nth r101 1) 1)), T.i .i64 (asI (T.cell (nth r101 1) 2))]]
            else none
          else
            bif (asI (nth r96 0)) == 5 then
              (c 131 [T.st [T.sl l0_0, T.i .i64 (asI (T.cell (nth r96 1) 1)), T.i .i64 (asI (T.cell (nth r96 1) 2))], T.sl ([T.s (⟨#[97]⟩ : ByteArray), T.s (⟨#[122]⟩ : ByteArray), T.s (⟨#[]⟩ : ByteArray)] : List T)]).bind fun r102 =>
              (c 70 [T.st [T.sl l0_0, T.i .i64 (asI (T.cell (nth r102 1) 1)), T.i .i64 (asI (T.cell (nth r102 1) 2))], T.i .i64 3]).bind fun r103 =>
              bif iLe 0 (IntKind.wrap .i64 (15 + (asI (nth r103 0)))) && iLe (IntKind.wrap .i64 (15 + (asI (nth r103 0)))) (LIM : Int) && ((IntKind.wrap .i64 (15 + (asI (nth r103 0)))) == (IntKind.wrap .i64 (15 + (asI (nth r103 0))))) then
              bif nLe ((asL (T.cell (nth r95 0) 5)).length + ([T.st [T.s (asS (nth r102 0)), T.s (bytesOf (List.replicate (IntKind.wrap .i64 (15 + (asI (nth r103 0)))).toNat (T.i .u8 0)))]] : List T).length) LIM then
              some [T.st [T.i .i64 (asI (T.cell (nth r95 0) 0)), T.i .i64 (asI (T.cell (nth r95 0) 1)), T.i .i64 (asI (T.cell (nth r95 0) 2)), T.sl (asL (T.cell (nth r95 0) 3)), T.sl (asL (T.cell (nth r95 0) 4)), T.sl ((asL (T.cell (nth r95 0) 5)) ++ ([T.st [T.s (asS (nth r102 0)), T.s (bytesOf (List.replicate (IntKind.wrap .i64 (15 + (asI (nth r103 0)))).toNat (T.i .u8 0)))]] : List T))], T.st [T.sl l0_0, T.i .i64 (asI (T.cell (nth r103 1) 1)), T.i .i64 (asI (T.cell (nth r103 1) 2))]]
              else none
              else none
            else
              some [T.st [T.i .i64 (asI (T.cell (nth r95 0) 0)), T.i .i64 (asI (T.cell (nth r95 0) 1)), T.i .i64 (asI (T.cell (nth r95 0) 2)), T.sl (asL (T.cell (nth r95 0) 3)), T.sl (asL (T.cell (nth r95 0) 4)), T.sl (asL (T.cell (nth r95 0) 5))], T.st [T.sl l0_0, T.i .i64 (asI (T.cell (nth r96 1) 1)), T.i .i64 (asI (T.cell (nth r96 1) 2))]]
def f85 (c : Orc) (lf : Nat) (l0_0 : List T) (n0_1 : Int) (n0_2 : Int) : Option (List T) := f85_t c lf l0_0 n0_1 n0_2
theorem f85_raw (c : Orc) (lf : Nat) (l0_0 : List T) (n0_1 : Int) (n0_2 : Int) : funK c env lf 6 fi85 [.st [.sl l0_0, .i .i64 n0_1, .i .i64 n0_2]] = f85_t c lf l0_0 n0_1 n0_2 := by kernel_rfl
theorem f85_eq (c : Orc) (lf : Nat) (l0_0 : List T) (n0_1 : Int) (n0_2 : Int) : funK c env lf 6 fi85 [.st [.sl l0_0, .i .i64 n0_1, .i .i64 n0_2]] = f85 c lf l0_0 n0_1 n0_2 := by
  refine (f85_raw c lf l0_0 n0_1 n0_2).trans ?_
  rfl
/-- loop.example/g00285/spec.DrawPutInode -/
def f32_t (c : Orc) (lf : Nat) (l0 : List T) : Option (List T) :=
  (c 65 [T.sl l0]).bind fun r104 =>
  (c 85 [T.st [T.sl (asL (T.cell (nth r104 0) 0)), T.i .i64 (asI (T.cell (nth r104 0) 1)), T.i .i64 (asI (T.cell (nth r104 0) 2))]]).bind fun r105 =>
  some [T.st [T.i .i64 (asI (T.cell (nth r105 0) 0)), T.i .i64 (asI (T.cell (nth r105 0) 1)), T.i .i64 (asI (T.cell (nth r105 0) 2)), T.sl (asL (T.cell (nth r105 0) 3)), T.sl (asL (T.cell (nth r105 0) 4)), T.sl (asL (T.cell (nth r105 0) 5))]]
def f32 (c : Orc) (lf : Nat) (l0 : List T) : Option (List T) := f32_t c lf l0
theorem f32_raw (c : Orc) (lf : Nat) (l0 : List T) : funK c env lf 6 fi32 [.sl l0] = f32_t c lf l0 := by kernel_rfl
theorem f32_eq (c : Orc) (lf : Nat) (l0 : List T) : funK c env lf 6 fi32 [.sl l0] = f32 c lf l0 := by
  refine (f32_raw c lf l0).trans ?_
  rfl
/-- loop.example/g00285/impl.from -/
def f76_t (c : Orc) (lf : Nat) (n0 : Int) (n1 : Int) (n2 : Int) : Option (List T) :=
  bif iLe n1 n0 then
    some [T.b (iLe n0 n2)]
  else
    some [T.b false]
def f76 (c : Orc) (lf : Nat) (n0 : Int) (n1 : Int) (n2 : Int) : Option (List T) := f76_t c lf n0 n1 n2
theorem f76_raw (c : Orc) (lf : Nat) (n0 : Int) (n1 : Int) (n2 : Int) : funK c env lf 6 fi76 [.i .i64 n0, .i .i64 n1, .i .i64 n2] = f76_t c lf n0 n1 n2 := by kernel_rfl
theorem f76_eq (c : Orc) (lf : Nat) (n0 : Int) (n1 : Int) (n2 : Int) : funK c env lf 6 fi76 [.i .i64 n0, .i .i64 n1, .i .i64 n2] = f76 c lf n0 n1 n2 := by
  refine (f76_raw c lf n0 n1 n2).trans ?_
  rfl
/-- loop.example/g00285/impl.NameOk, the loop at region 2. -/
def f90_0_s (c : Orc) (lf : Nat) (s0 : ByteArray) (L : Int → Option (List T)) (x108 : Int) : Option (List T) :=
  bif iLt x108 (s0.size : Int) then
    bif inR x108 s0.size then
    bif iLt (byteAt s0 x108) 97 then
      bif iLt (byteAt s0 x108) 48 then
        bif (byteAt s0 x108) != 95 then
          bif (byteAt s0 x108) != 45 then
            bif (byteAt s0 x108) != 46 then
              some [T.i .i64 0, T.b false]
            else
              L (IntKind.wrap .i64 (x108 + 1))
          else
            L (IntKind.wrap .i64 (x108 + 1))
        else
          L (IntKind.wrap .i64 (x108 + 1))
      else
        bif iLt 57 (byteAt s0 x108) then
          bif (byteAt s0 x108) != 95 then
            bif (byteAt s0 x108) != 45 then
              bif (byteAt s0 x108) != 46 then
                some [T.i .i64 0, T.b false]
              else
                L (IntKind.wrap .i64 (x108 + 1))
            else
              L (IntKind.wrap .i64 (x108 + 1))
          else
            L (IntKind.wrap .i64 (x108 + 1))
        else
          L (IntKind.wrap .i64 (x108 + 1))
    else
      bif iLt 122 (byteAt s0 x108) then
        bif iLt (byteAt s0 x108) 48 then
          bif (byteAt s0 x108) != 95 then
            bif (byteAt s0 x108) != 45 then
              bif (byteAt s0 x108) != 46 then
                some [T.i .i64 0, T.b false]
              else
                L (IntKind.wrap .i64 (x108 + 1))
            else
              L (IntKind.wrap .i64 (x108 + 1))
          else
            L (IntKind.wrap .i64 (x108 + 1))
        else
          bif iLt 57 (byteAt s0 x108) then
            bif (byteAt s0 x108) != 95 then
              bif (byteAt s0 x108) != 45 then
                bif (byteAt s0 x108) != 46 then
                  some [T.i .i64 0, T.b false]
                else
                  L (IntKind.wrap .i64 (x108 + 1))
              else
                L (IntKind.wrap .i64 (x108 + 1))
            else
              L (IntKind.wrap .i64 (x108 + 1))
          else
            L (IntKind.wrap .i64 (x108 + 1))
      else
        L (IntKind.wrap .i64 (x108 + 1))
    else none
  else
    some [T.i .i64 1, T.s s0]
def f90_0_c (s0 : ByteArray) (x108 : Int) : CSt := ⟨[.s s0, .i .i64 (s0.size : Int), .i .i64 x108], [.dead]⟩
theorem f90_0_round (c : Orc) (lf : Nat) (s0 : ByteArray) (L : CSt → Option (List T)) (x108 : Int) :
    roundK c env lf 6 fi90 1 2 [] [0, 6, 7] (x90_2_0) L (f90_0_c s0 x108) = f90_0_s c lf s0 (fun x108 => L (f90_0_c s0 x108)) x108 := by kernel_rfl
def f90_0 (c : Orc) (lf : Nat) (s0 : ByteArray) : Nat → Int → Option (List T)
  | 0 => fun _ => none
  | n + 1 => fun x108 => f90_0_s c lf s0 (f90_0 c lf s0 n) x108
theorem f90_0_u (c : Orc) (lf : Nat) (s0 : ByteArray) (n : Nat) (x108 : Int) : f90_0 c lf s0 (n + 1) x108 = f90_0_s c lf s0 (f90_0 c lf s0 n) x108 := rfl
theorem f90_0_eq (c : Orc) (lf : Nat) (s0 : ByteArray) (n : Nat) (x108 : Int) :
    lpK c env lf 6 fi90 1 2 [] [0, 6, 7] (x90_2_0) n (f90_0_c s0 x108) = f90_0 c lf s0 n x108 := by
  induction n generalizing x108 with
  | zero => rfl
  | succ n ih =>
    refine (f90_0_round c lf s0 _ x108).trans ?_
    have e : (fun x108 => lpK c env lf 6 fi90 1 2 [] [0, 6, 7] (x90_2_0) n (f90_0_c s0 x108)) = f90_0 c lf s0 n := by funext x108; exact ih x108
    show f90_0_s c lf s0 (fun x108 => lpK c env lf 6 fi90 1 2 [] [0, 6, 7] (x90_2_0) n (f90_0_c s0 x108)) x108 = _
    rw [e]; rfl
/-- loop.example/g00285/impl.NameOk -/
def f90_t (c : Orc) (lf : Nat) (lp0 : ByteArray → Int → Option (List T)) (s0 : ByteArray) : Option (List T) :=
  (lp0 s0 0).bind fun r109 =>
  bif asI (nth r109 0) == 0 then
    some [T.b (asB (nth r109 1))]
  else
    bif iLe 1 ((asS (nth r109 1)).size : Int) then
      bif iLe ((asS (nth r109 1)).size : Int) 14 then
        bif !((asS (nth r109 1)).toList == (⟨#[46]⟩ : ByteArray).toList) then
          some [T.b (!((asS (nth r109 1)).toList == (⟨#[46, 46]⟩ : ByteArray).toList))]
        else
          some [T.b false]
      else
        some [T.b false]
    else
      some [T.b false]
def f90 (c : Orc) (lf : Nat) (s0 : ByteArray) : Option (List T) := f90_t c lf (fun (s0 : ByteArray) (x108 : Int) => f90_0 c lf s0 lf x108) s0
theorem f90_raw (c : Orc) (lf : Nat) (s0 : ByteArray) : funK c env lf 6 fi90 [.s s0] = f90_t c lf (fun (s0 : ByteArray) (x108 : Int) => lpK c env lf 6 fi90 1 2 [] [0, 6, 7] (x90_2_0) lf (f90_0_c s0 x108)) s0 := by kernel_rfl
theorem f90_eq (c : Orc) (lf : Nat) (s0 : ByteArray) : funK c env lf 6 fi90 [.s s0] = f90 c lf s0 := by
  refine (f90_raw c lf s0).trans ?_
  have e0 : (fun (s0 : ByteArray) (x108 : Int) => lpK c env lf 6 fi90 1 2 [] [0, 6, 7] (x90_2_0) lf (f90_0_c s0 x108)) = (fun (s0 : ByteArray) (x108 : Int) => f90_0 c lf s0 lf x108) := by funext s0 x108; exact f90_0_eq c lf s0 lf x108
  rw [e0]; rfl
/-- loop.example/g00285/impl.attrsOk, the loop at region 2. -/
def f89_0_s (c : Orc) (lf : Nat) (l0 : List T) (L : Int → Option (List T)) (x118 : Int) : Option (List T) :=
  bif iLt x118 (l0.length : Int) then
    bif inR x118 l0.length then
    (c 90 [T.s (asS (T.cell (l0.getD x118.toNat T.u) 0))]).bind fun r119 =>
    bif !(asB (nth r119 0)) then
      some [T.i .i64 0, T.b false]
    else
      (c 76 [T.i .i64 ((asS (T.cell (l0.getD x118.toNat T.u) 1)).size : Int), T.i .i64 1, T.i .i64 16]).bind fun r120 =>
      bif !(asB (nth r120 0)) then
        some [T.i .i64 0, T.b false]
      else
        bif iLt 0 x118 then
          bif inR (IntKind.wrap .i64 (x118 - 1)) l0.length then
          bif !(Op.bytesLess (asS (T.cell (l0.getD ((IntKind.wrap .i64 (x118 - 1)).toNat) T.u) 0)).toList (asS (T.cell (l0.getD x118.toNat T.u) 0)).toList) then
            some [T.i .i64 0, T.b false]
          else
            L (IntKind.wrap .i64 (x118 + 1))
          else none
        else
          L (IntKind.wrap .i64 (x118 + 1))
    else none
  else
    some [T.i .i64 1, T.sl l0]
def f89_0_c (l0 : List T) (x118 : Int) : CSt := ⟨[.ro 0 true [.s, .s] l0, .ro 0 true [.s, .s] l0, .i .i64 (l0.length : Int), .i .i64 x118], [.dead]⟩
theorem f89_0_round (c : Orc) (lf : Nat) (l0 : List T) (L : CSt → Option (List T)) (x118 : Int) :
    roundK c env lf 6 fi89 1 2 [] [0, 5, 6, 7] (x89_2_0) L (f89_0_c l0 x118) = f89_0_s c lf l0 (fun x118 => L (f89_0_c l0 x118)) x118 := by kernel_rfl
def f89_0 (c : Orc) (lf : Nat) (l0 : List T) : Nat → Int → Option (List T)
  | 0 => fun _ => none
  | n + 1 => fun x118 => f89_0_s c lf l0 (f89_0 c lf l0 n) x118
theorem f89_0_u (c : Orc) (lf : Nat) (l0 : List T) (n : Nat) (x118 : Int) : f89_0 c lf l0 (n + 1) x118 = f89_0_s c lf l0 (f89_0 c lf l0 n) x118 := rfl
theorem f89_0_eq (c : Orc) (lf : Nat) (l0 : List T) (n : Nat) (x118 : Int) :
    lpK c env lf 6 fi89 1 2 [] [0, 5, 6, 7] (x89_2_0) n (f89_0_c l0 x118) = f89_0 c lf l0 n x118 := by
  induction n generalizing x118 with
  | zero => rfl
  | succ n ih =>
    refine (f89_0_round c lf l0 _ x118).trans ?_
    have e : (fun x118 => lpK c env lf 6 fi89 1 2 [] [0, 5, 6, 7] (x89_2_0) n (f89_0_c l0 x118)) = f89_0 c lf l0 n := by funext x118; exact ih x118
    show f89_0_s c lf l0 (fun x118 => lpK c env lf 6 fi89 1 2 [] [0, 5, 6, 7] (x89_2_0) n (f89_0_c l0 x118)) x118 = _
    rw [e]; rfl
/-- loop.example/g00285/impl.attrsOk -/
def f89_t (c : Orc) (lf : Nat) (lp0 : List T → Int → Option (List T)) (l0 : List T) : Option (List T) :=
  (lp0 l0 0).bind fun r121 =>
  bif asI (nth r121 0) == 0 then
    some [T.b (asB (nth r121 1))]
  else
    some [T.b (iLe ((asL (nth r121 1)).length : Int) 4)]
def f89 (c : Orc) (lf : Nat) (l0 : List T) : Option (List T) := f89_t c lf (fun (l0 : List T) (x118 : Int) => f89_0 c lf l0 lf x118) l0
theorem f89_raw (c : Orc) (lf : Nat) (l0 : List T) : funK c env lf 6 fi89 [.sl l0] = f89_t c lf (fun (l0 : List T) (x118 : Int) => lpK c env lf 6 fi89 1 2 [] [0, 5, 6, 7] (x89_2_0) lf (f89_0_c l0 x118)) l0 := by kernel_rfl
theorem f89_eq (c : Orc) (lf : Nat) (l0 : List T) : funK c env lf 6 fi89 [.sl l0] = f89 c lf l0 := by
  refine (f89_raw c lf l0).trans ?_
  have e0 : (fun (l0 : List T) (x118 : Int) => lpK c env lf 6 fi89 1 2 [] [0, 5, 6, 7] (x89_2_0) lf (f89_0_c l0 x118)) = (fun (l0 : List T) (x118 : Int) => f89_0 c lf l0 lf x118) := by funext l0 x118; exact f89_0_eq c lf l0 lf x118
  rw [e0]; rfl
/-- loop.example/g00285/impl.InodeOk, the loop at region 4. -/
def f35_0_s (c : Orc) (lf : Nat) (l0_3 : List T) (l0_4 : List T) (l0_5 : List T) (n0_0 : Int) (n0_1 : Int) (n0_2 : Int) (L : Int → Option (List T)) (x135 : Int) : Option (List T) :=
  bif iLt x135 (l0_4.length : Int) then
    bif inR x135 l0_4.length then
    (c 90 [T.s (asS (T.cell (l0_4.getD x135.toNat T.u) 0))]).bind fun r136 =>
    bif !(asB (nth r136 0)) then
      some [T.i .i64 0, T.b false]
    else
      (c 76 [T.i .i64 (asI (T.cell (l0_4.getD x135.toNat T.u) 1)), T.i .i64 2, T.i .i64 1000]).bind fun r137 =>
      bif !(asB (nth r137 0)) then
        some [T.i .i64 0, T.b false]
      else
        bif iLt 0 x135 then
          bif inR (IntKind.wrap .i64 (x135 - 1)) l0_4.length then
          bif !(Op.bytesLess (asS (T.cell (l0_4.getD ((IntKind.wrap .i64 (x135 - 1)).toNat) T.u) 0)).toList (asS (T.cell (l0_4.getD x135.toNat T.u) 0)).toList) then
            some [T.i .i64 0, T.b false]
          else
            L (IntKind.wrap .i64 (x135 + 1))
          else none
        else
          L (IntKind.wrap .i64 (x135 + 1))
    else none
  else
    some [T.i .i64 1, T.i .i64 n0_0, T.i .i64 n0_1, T.i .i64 n0_2, T.sl l0_3, T.sl l0_4, T.sl l0_5]
def f35_0_c (l0_3 : List T) (l0_4 : List T) (l0_5 : List T) (n0_0 : Int) (n0_1 : Int) (n0_2 : Int) (x135 : Int) : CSt := ⟨[.bp 6 0, .ro 0 true [.s, .i .i64] l0_4, .i .i64 (l0_4.length : Int), .i .i64 x135], [.dead, .dead, .dead, .dead, .dead, .dead, .box [.i .i64 n0_0, .i .i64 n0_1, .i .i64 n0_2, .ro 0 false [.i .u8] l0_3, .ro 0 true [.s, .i .i64] l0_4, .ro 0 true [.s, .s] l0_5]]⟩
theorem f35_0_round (c : Orc) (lf : Nat) (l0_3 : List T) (l0_4 : List T) (l0_5 : List T) (n0_0 : Int) (n0_1 : Int) (n0_2 : Int) (L : CSt → Option (List T)) (x135 : Int) :
    roundK c env lf 6 fi35 6 4 [] [1, 28, 29, 30] (x35_4_0) L (f35_0_c l0_3 l0_4 l0_5 n0_0 n0_1 n0_2 x135) = f35_0_s c lf l0_3 l0_4 l0_5 n0_0 n0_1 n0_2 (fun x135 => L (f35_0_c l0_3 l0_4 l0_5 n0_0 n0_1 n0_2 x135)) x135 := by kernel_rfl
def f35_0 (c : Orc) (lf : Nat) (l0_3 : List T) (l0_4 : List T) (l0_5 : List T) (n0_0 : Int) (n0_1 : Int) (n0_2 : Int) : Nat → Int → Option (List T)
  | 0 => fun _ => none
  | n + 1 => fun x135 => f35_0_s c lf l0_3 l0_4 l0_5 n0_0 n0_1 n0_2 (f35_0 c lf l0_3 l0_4 l0_5 n0_0 n0_1 n0_2 n) x135
theorem f35_0_u (c : Orc) (lf : Nat) (l0_3 : List T) (l0_4 : List T) (l0_5 : List T) (n0_0 : Int) (n0_1 : Int) (n0_2 : Int) (n : Nat) (x135 : Int) : f35_0 c lf l0_3 l0_4 l0_5 n0_0 n0_1 n0_2 (n + 1) x135 = f35_0_s c lf l0_3 l0_4 l0_5 n0_0 n0_1 n0_2 (f35_0 c lf l0_3 l0_4 l0_5 n0_0 n0_1 n0_2 n) x135 := rfl
theorem f35_0_eq (c : Orc) (lf : Nat) (l0_3 : List T) (l0_4 : List T) (l0_5 : List T) (n0_0 : Int) (n0_1 : Int) (n0_2 : Int) (n : Nat) (x135 : Int) :
    lpK c env lf 6 fi35 6 4 [] [1, 28, 29, 30] (x35_4_0) n (f35_0_c l0_3 l0_4 l0_5 n0_0 n0_1 n0_2 x135) = f35_0 c lf l0_3 l0_4 l0_5 n0_0 n0_1 n0_2 n x135 := by
  induction n generalizing x135 with
  | zero => rfl
  | succ n ih =>
    refine (f35_0_round c lf l0_3 l0_4 l0_5 n0_0 n0_1 n0_2 _ x135).trans ?_
    have e : (fun x135 => lpK c env lf 6 fi35 6 4 [] [1, 28, 29, 30] (x35_4_0) n (f35_0_c l0_3 l0_4 l0_5 n0_0 n0_1 n0_2 x135)) = f35_0 c lf l0_3 l0_4 l0_5 n0_0 n0_1 n0_2 n := by funext x135; exact ih x135
    show f35_0_s c lf l0_3 l0_4 l0_5 n0_0 n0_1 n0_2 (fun x135 => lpK c env lf 6 fi35 6 4 [] [1, 28, 29, 30] (x35_4_0) n (f35_0_c l0_3 l0_4 l0_5 n0_0 n0_1 n0_2 x135)) x135 = _
    rw [e]; rfl
/-- loop.example/g00285/impl.InodeOk -/
def f35_t (c : Orc) (lf : Nat) (lp0 : List T → List T → List T → Int → Int → Int → Int → Option (List T)) (n0_0 : Int) (n0_1 : Int) (n0_2 : Int) (l0_3 : List T) (l0_4 : List T) (l0_5 : List T) : Option (List T) :=
  (c 76 [T.i .i64 n0_0, T.i .i64 1, T.i .i64 1000]).bind fun r131 =>
  bif !(asB (nth r131 0)) then
    some [T.b false]
  else
    bif iLt 100 (l0_3.length : Int) then
      some [T.b false]
    else
      bif iLt 10 (l0_4.length : Int) then
        some [T.b false]
      else
        (c 89 [T.sl l0_5]).bind fun r132 =>
        bif !(asB (nth r132 0)) then
          some [T.b false]
        else
          (lp0 l0_3 l0_4 l0_5 n0_0 n0_1 n0_2 0).bind fun r138 =>
          bif asI (nth r138 0) == 0 then
            some [T.b (asB (nth r138 1))]
          else
            (c 76 [T.i .i64 (asI (nth r138 3)), T.i .i64 0, T.i .i64 1000]).bind fun r139 =>
            bif !(asB (nth r139 0)) then
              some [T.b false]
            else
              bif !(((asI (nth r138 3)) == 0) == ((asI (nth r138 1)) == 1)) then
                some [T.b false]
              else
                bif (asI (nth r138 2)) == 1 then
                  some [T.b (((asL (nth r138 5)).length : Int) == 0)]
                else
                  bif (asI (nth r138 2)) == 2 then
                    bif ((asL (nth r138 4)).length : Int) == 0 then
                      some [T.b (iLe (asI (nth r138 3)) 1)]
                    else
                      some [T.b false]
                  else
                    some [T.b false]
def f35 (c : Orc) (lf : Nat) (n0_0 : Int) (n0_1 : Int) (n0_2 : Int) (l0_3 : List T) (l0_4 : List T) (l0_5 : List T) : Option (List T) := f35_t c lf (fun (l0_3 : List T) (l0_4 : List T) (l0_5 : List T) (n0_0 : Int) (n0_1 : Int) (n0_2 : Int) (x135 : Int) => f35_0 c lf l0_3 l0_4 l0_5 n0_0 n0_1 n0_2 lf x135) n0_0 n0_1 n0_2 l0_3 l0_4 l0_5
theorem f35_raw (c : Orc) (lf : Nat) (n0_0 : Int) (n0_1 : Int) (n0_2 : Int) (l0_3 : List T) (l0_4 : List T) (l0_5 : List T) : funK c env lf 6 fi35 [.st [.i .i64 n0_0, .i .i64 n0_1, .i .i64 n0_2, .sl l0_3, .sl l0_4, .sl l0_5]] = f35_t c lf (fun (l0_3 : List T) (l0_4 : List T) (l0_5 : List T) (n0_0 : Int) (n0_1 : Int) (n0_2 : Int) (x135 : Int) => lpK c env lf 6 fi35 6 4 [] [1, 28, 29, 30] (x35_4_0) lf (f35_0_c l0_3 l0_4 l0_5 n0_0 n0_1 n0_2 x135)) n0_0 n0_1 n0_2 l0_3 l0_4 l0_5 := by kernel_rfl
theorem f35_eq (c : Orc) (lf : Nat) (n0_0 : Int) (n0_1 : Int) (n0_2 : Int) (l0_3 : List T) (l0_4 : List T) (l0_5 : List T) : funK c env lf 6 fi35 [.st [.i .i64 n0_0, .i .i64 n0_1, .i .i64 n0_2, .sl l0_3, .sl l0_4, .sl l0_5]] = f35 c lf n0_0 n0_1 n0_2 l0_3 l0_4 l0_5 := by
  refine (f35_raw c lf n0_0 n0_1 n0_2 l0_3 l0_4 l0_5).trans ?_
  have e0 : (fun (l0_3 : List T) (l0_4 : List T) (l0_5 : List T) (n0_0 : Int) (n0_1 : Int) (n0_2 : Int) (x135 : Int) => lpK c env lf 6 fi35 6 4 [] [1, 28, 29, 30] (x35_4_0) lf (f35_0_c l0_3 l0_4 l0_5 n0_0 n0_1 n0_2 x135)) = (fun (l0_3 : List T) (l0_4 : List T) (l0_5 : List T) (n0_0 : Int) (n0_1 : Int) (n0_2 : Int) (x135 : Int) => f35_0 c lf l0_3 l0_4 l0_5 n0_0 n0_1 n0_2 lf x135) := by funext l0_3 l0_4 l0_5 n0_0 n0_1 n0_2 x135; exact f35_0_eq c lf l0_3 l0_4 l0_5 n0_0 n0_1 n0_2 lf x135
  rw [e0]; rfl
/-- loop.example/g00285/impl.PutNum, the loop at region 3. -/
def f67_0_s (c : Orc) (lf : Nat) (L : Int → List T → Option (List T)) (x145 : Int) (x146 : List T) : Option (List T) :=
  bif iLe 128 x145 then
    bif nLe (x146.length + ([T.i .u8 (IntKind.wrap .u8 (IntKind.wrap .i64 ((x145.tmod 128) + 128)))] : List T).length) LIM then
    L (IntKind.wrap .i64 (x145.tdiv 128)) (x146 ++ ([T.i .u8 (IntKind.wrap .u8 (IntKind.wrap .i64 ((x145.tmod 128) + 128)))] : List T))
    else none
  else
    some [T.i .i64 0, T.i .i64 x145, T.sl x146]
def f67_0_c (x145 : Int) (x146 : List T) : CSt := ⟨[.i .i64 x145, .rf 2 [] 0 none], [.dead, .dead, .row false [.i .u8] x146 0 false]⟩
theorem f67_0_round (c : Orc) (lf : Nat) (L : CSt → Option (List T)) (x145 : Int) (x146 : List T) :
    roundK c env lf 6 fi67 2 3 [] [1, 5] (x67_3_0) L (f67_0_c x145 x146) = f67_0_s c lf (fun x145 x146 => L (f67_0_c x145 x146)) x145 x146 := by kernel_rfl
def f67_0 (c : Orc) (lf : Nat) : Nat → Int → List T → Option (List T)
  | 0 => fun _ _ => none
  | n + 1 => fun x145 x146 => f67_0_s c lf (f67_0 c lf n) x145 x146
theorem f67_0_u (c : Orc) (lf : Nat) (n : Nat) (x145 : Int) (x146 : List T) : f67_0 c lf (n + 1) x145 x146 = f67_0_s c lf (f67_0 c lf n) x145 x146 := rfl
theorem f67_0_eq (c : Orc) (lf : Nat) (n : Nat) (x145 : Int) (x146 : List T) :
    lpK c env lf 6 fi67 2 3 [] [1, 5] (x67_3_0) n (f67_0_c x145 x146) = f67_0 c lf n x145 x146 := by
  induction n generalizing x145 x146 with
  | zero => rfl
  | succ n ih =>
    refine (f67_0_round c lf _ x145 x146).trans ?_
    have e : (fun x145 x146 => lpK c env lf 6 fi67 2 3 [] [1, 5] (x67_3_0) n (f67_0_c x145 x146)) = f67_0 c lf n := by funext x145 x146; exact ih x145 x146
    show f67_0_s c lf (fun x145 x146 => lpK c env lf 6 fi67 2 3 [] [1, 5] (x67_3_0) n (f67_0_c x145 x146)) x145 x146 = _
    rw [e]; rfl
/-- loop.example/g00285/impl.PutNum -/
def f67_t (c : Orc) (lf : Nat) (lp0 : Int → List T → Option (List T)) (l0 : List T) (n1 : Int) : Option (List T) :=
  (c 123 [T.sl l0]).bind fun r144 =>
  (lp0 (imax 0 (imin n1 1000000)) (asL (nth r144 0))).bind fun r147 =>
  bif nLe ((asL (nth r147 2)).length + ([T.i .u8 (IntKind.wrap .u8 (asI (nth r147 1)))] : List T).length) LIM then
  some [T.sl ((asL (nth r147 2)) ++ ([T.i .u8 (IntKind.wrap .u8 (asI (nth r147 1)))] : List T))]
  else none
def f67 (c : Orc) (lf : Nat) (l0 : List T) (n1 : Int) : Option (List T) := f67_t c lf (fun (x145 : Int) (x146 : List T) => f67_0 c lf lf x145 x146) l0 n1
theorem f67_raw (c : Orc) (lf : Nat) (l0 : List T) (n1 : Int) : funK c env lf 6 fi67 [.sl l0, .i .i64 n1] = f67_t c lf (fun (x145 : Int) (x146 : List T) => lpK c env lf 6 fi67 2 3 [] [1, 5] (x67_3_0) lf (f67_0_c x145 x146)) l0 n1 := by kernel_rfl
theorem f67_eq (c : Orc) (lf : Nat) (l0 : List T) (n1 : Int) : funK c env lf 6 fi67 [.sl l0, .i .i64 n1] = f67 c lf l0 n1 := by
  refine (f67_raw c lf l0 n1).trans ?_
  have e0 : (fun (x145 : Int) (x146 : List T) => lpK c env lf 6 fi67 2 3 [] [1, 5] (x67_3_0) lf (f67_0_c x145 x146)) = (fun (x145 : Int) (x146 : List T) => f67_0 c lf lf x145 x146) := by funext x145 x146; exact f67_0_eq c lf lf x145 x146
  rw [e0]; rfl
/-- loop.example/g00285/impl.PutText -/
def f82_t (c : Orc) (lf : Nat) (l0 : List T) (s1 : ByteArray) : Option (List T) :=
  (c 67 [T.sl l0, T.i .i64 (s1.size : Int)]).bind fun r148 =>
  bif nLe ((asL (nth r148 0)).length + (listOf s1).length) LIM then
  some [T.sl ((asL (nth r148 0)) ++ (listOf s1))]
  else none
def f82 (c : Orc) (lf : Nat) (l0 : List T) (s1 : ByteArray) : Option (List T) := f82_t c lf l0 s1
theorem f82_raw (c : Orc) (lf : Nat) (l0 : List T) (s1 : ByteArray) : funK c env lf 6 fi82 [.sl l0, .s s1] = f82_t c lf l0 s1 := by kernel_rfl
theorem f82_eq (c : Orc) (lf : Nat) (l0 : List T) (s1 : ByteArray) : funK c env lf 6 fi82 [.sl l0, .s s1] = f82 c lf l0 s1 := by
  refine (f82_raw c lf l0 s1).trans ?_
  rfl
/-- loop.example/g00285/impl.putAttrs, the loop at region 3. -/
def f86_0_s (c : Orc) (lf : Nat) (l1 : List T) (L : Int → List T → Option (List T)) (x160 : Int) (x161 : List T) : Option (List T) :=
  bif iLt x160 (l1.length : Int) then
    bif inR x160 l1.length then
    (c 82 [T.sl x161, T.s (asS (T.cell (l1.getD x160.toNat T.u) 0))]).bind fun r162 =>
    (c 82 [T.sl (asL (nth r162 0)), T.s (asS (T.cell (l1.getD x160.toNat T.u) 1))]).bind fun r163 =>
    L (IntKind.wrap .i64 (x160 + 1)) (asL (nth r163 0))
    else none
  else
    some [T.i .i64 0, T.sl x161]
def f86_0_c (l1 : List T) (x160 : Int) (x161 : List T) : CSt := ⟨[.rf 2 [] 0 none, .ro 0 true [.s, .s] l1, .i .i64 (l1.length : Int), .i .i64 x160], [.dead, .dead, .row false [.i .u8] x161 0 false]⟩
theorem f86_0_round (c : Orc) (lf : Nat) (l1 : List T) (L : CSt → Option (List T)) (x160 : Int) (x161 : List T) :
    roundK c env lf 6 fi86 2 3 [] [0, 11, 12, 13] (x86_3_0) L (f86_0_c l1 x160 x161) = f86_0_s c lf l1 (fun x160 x161 => L (f86_0_c l1 x160 x161)) x160 x161 := by kernel_rfl
def f86_0 (c : Orc) (lf : Nat) (l1 : List T) : Nat → Int → List T → Option (List T)
  | 0 => fun _ _ => none
  | n + 1 => fun x160 x161 => f86_0_s c lf l1 (f86_0 c lf l1 n) x160 x161
theorem f86_0_u (c : Orc) (lf : Nat) (l1 : List T) (n : Nat) (x160 : Int) (x161 : List T) : f86_0 c lf l1 (n + 1) x160 x161 = f86_0_s c lf l1 (f86_0 c lf l1 n) x160 x161 := rfl
theorem f86_0_eq (c : Orc) (lf : Nat) (l1 : List T) (n : Nat) (x160 : Int) (x161 : List T) :
    lpK c env lf 6 fi86 2 3 [] [0, 11, 12, 13] (x86_3_0) n (f86_0_c l1 x160 x161) = f86_0 c lf l1 n x160 x161 := by
  induction n generalizing x160 x161 with
  | zero => rfl
  | succ n ih =>
    refine (f86_0_round c lf l1 _ x160 x161).trans ?_
    have e : (fun x160 x161 => lpK c env lf 6 fi86 2 3 [] [0, 11, 12, 13] (x86_3_0) n (f86_0_c l1 x160 x161)) = f86_0 c lf l1 n := by funext x160 x161; exact ih x160 x161
    show f86_0_s c lf l1 (fun x160 x161 => lpK c env lf 6 fi86 2 3 [] [0, 11, 12, 13] (x86_3_0) n (f86_0_c l1 x160 x161)) x160 x161 = _
    rw [e]; rfl
/-- loop.example/g00285/impl.putAttrs -/
def f86_t (c : Orc) (lf : Nat) (lp0 : List T → Int → List T → Option (List T)) (l0 : List T) (l1 : List T) : Option (List T) :=
  (c 67 [T.sl l0, T.i .i64 (l1.length : Int)]).bind fun r157 =>
  (lp0 l1 0 (asL (nth r157 0))).bind fun r164 =>
  some [T.sl (asL (nth r164 1))]
def f86 (c : Orc) (lf : Nat) (l0 : List T) (l1 : List T) : Option (List T) := f86_t c lf (fun (l1 : List T) (x160 : Int) (x161 : List T) => f86_0 c lf l1 lf x160 x161) l0 l1
theorem f86_raw (c : Orc) (lf : Nat) (l0 : List T) (l1 : List T) : funK c env lf 6 fi86 [.sl l0, .sl l1] = f86_t c lf (fun (l1 : List T) (x160 : Int) (x161 : List T) => lpK c env lf 6 fi86 2 3 [] [0, 11, 12, 13] (x86_3_0) lf (f86_0_c l1 x160 x161)) l0 l1 := by kernel_rfl
theorem f86_eq (c : Orc) (lf : Nat) (l0 : List T) (l1 : List T) : funK c env lf 6 fi86 [.sl l0, .sl l1] = f86 c lf l0 l1 := by
  refine (f86_raw c lf l0 l1).trans ?_
  have e0 : (fun (l1 : List T) (x160 : Int) (x161 : List T) => lpK c env lf 6 fi86 2 3 [] [0, 11, 12, 13] (x86_3_0) lf (f86_0_c l1 x160 x161)) = (fun (l1 : List T) (x160 : Int) (x161 : List T) => f86_0 c lf l1 lf x160 x161) := by funext l1 x160 x161; exact f86_0_eq c lf l1 lf x160 x161
  rw [e0]; rfl
/-- loop.example/g00285/impl.PutInode, the loop at region 6. -/
def f33_0_s (c : Orc) (lf : Nat) (l0_3 : List T) (l0_4 : List T) (l0_5 : List T) (n0_0 : Int) (n0_1 : Int) (n0_2 : Int) (L : Int → List T → Option (List T)) (x187 : Int) (x188 : List T) : Option (List T) :=
  bif iLt x187 (l0_4.length : Int) then
    bif inR x187 l0_4.length then
    (c 82 [T.sl x188, T.s (asS (T.cell (l0_4.getD x187.toNat T.u) 0))]).bind fun r189 =>
    (c 67 [T.sl (asL (nth r189 0)), T.i .i64 (asI (T.cell (l0_4.getD x187.toNat T.u) 1))]).bind fun r190 =>
    L (IntKind.wrap .i64 (x187 + 1)) (asL (nth r190 0))
    else none
  else
    some [T.i .i64 0, T.i .i64 n0_0, T.i .i64 n0_1, T.i .i64 n0_2, T.sl l0_3, T.sl l0_4, T.sl l0_5, T.sl x188]
def f33_0_c (l0_3 : List T) (l0_4 : List T) (l0_5 : List T) (n0_0 : Int) (n0_1 : Int) (n0_2 : Int) (x187 : Int) (x188 : List T) : CSt := ⟨[.bp 6 0, .rf 7 [] 0 none, .ro 0 true [.s, .i .i64] l0_4, .i .i64 (l0_4.length : Int), .i .i64 x187], [.dead, .dead, .dead, .dead, .dead, .dead, .box [.i .i64 n0_0, .i .i64 n0_1, .i .i64 n0_2, .ro 0 false [.i .u8] l0_3, .ro 0 true [.s, .i .i64] l0_4, .ro 0 true [.s, .s] l0_5], .row false [.i .u8] x188 0 false]⟩
theorem f33_0_round (c : Orc) (lf : Nat) (l0_3 : List T) (l0_4 : List T) (l0_5 : List T) (n0_0 : Int) (n0_1 : Int) (n0_2 : Int) (L : CSt → Option (List T)) (x187 : Int) (x188 : List T) :
    roundK c env lf 6 fi33 6 6 [] [1, 3, 28, 29, 30] (x33_6_0) L (f33_0_c l0_3 l0_4 l0_5 n0_0 n0_1 n0_2 x187 x188) = f33_0_s c lf l0_3 l0_4 l0_5 n0_0 n0_1 n0_2 (fun x187 x188 => L (f33_0_c l0_3 l0_4 l0_5 n0_0 n0_1 n0_2 x187 x188)) x187 x188 := by kernel_rfl
def f33_0 (c : Orc) (lf : Nat) (l0_3 : List T) (l0_4 : List T) (l0_5 : List T) (n0_0 : Int) (n0_1 : Int) (n0_2 : Int) : Nat → Int → List T → Option (List T)
  | 0 => fun _ _ => none
  | n + 1 => fun x187 x188 => f33_0_s c lf l0_3 l0_4 l0_5 n0_0 n0_1 n0_2 (f33_0 c lf l0_3 l0_4 l0_5 n0_0 n0_1 n0_2 n) x187 x188
theorem f33_0_u (c : Orc) (lf : Nat) (l0_3 : List T) (l0_4 : List T) (l0_5 : List T) (n0_0 : Int) (n0_1 : Int) (n0_2 : Int) (n : Nat) (x187 : Int) (x188 : List T) : f33_0 c lf l0_3 l0_4 l0_5 n0_0 n0_1 n0_2 (n + 1) x187 x188 = f33_0_s c lf l0_3 l0_4 l0_5 n0_0 n0_1 n0_2 (f33_0 c lf l0_3 l0_4 l0_5 n0_0 n0_1 n0_2 n) x187 x188 := rfl
theorem f33_0_eq (c : Orc) (lf : Nat) (l0_3 : List T) (l0_4 : List T) (l0_5 : List T) (n0_0 : Int) (n0_1 : Int) (n0_2 : Int) (n : Nat) (x187 : Int) (x188 : List T) :
    lpK c env lf 6 fi33 6 6 [] [1, 3, 28, 29, 30] (x33_6_0) n (f33_0_c l0_3 l0_4 l0_5 n0_0 n0_1 n0_2 x187 x188) = f33_0 c lf l0_3 l0_4 l0_5 n0_0 n0_1 n0_2 n x187 x188 := by
  induction n generalizing x187 x188 with
  | zero => rfl
  | succ n ih =>
    refine (f33_0_round c lf l0_3 l0_4 l0_5 n0_0 n0_1 n0_2 _ x187 x188).trans ?_
    have e : (fun x187 x188 => lpK c env lf 6 fi33 6 6 [] [1, 3, 28, 29, 30] (x33_6_0) n (f33_0_c l0_3 l0_4 l0_5 n0_0 n0_1 n0_2 x187 x188)) = f33_0 c lf l0_3 l0_4 l0_5 n0_0 n0_1 n0_2 n := by funext x187 x188; exact ih x187 x188
    show f33_0_s c lf l0_3 l0_4 l0_5 n0_0 n0_1 n0_2 (fun x187 x188 => lpK c env lf 6 fi33 6 6 [] [1, 3, 28, 29, 30] (x33_6_0) n (f33_0_c l0_3 l0_4 l0_5 n0_0 n0_1 n0_2 x187 x188)) x187 x188 = _
    rw [e]; rfl
/-- loop.example/g00285/impl.PutInode -/
def f33_t (c : Orc) (lf : Nat) (lp0 : List T → List T → List T → Int → Int → Int → Int → List T → Option (List T)) (n0_0 : Int) (n0_1 : Int) (n0_2 : Int) (l0_3 : List T) (l0_4 : List T) (l0_5 : List T) : Option (List T) :=
  (c 35 [T.st [T.i .i64 n0_0, T.i .i64 n0_1, T.i .i64 n0_2, T.sl l0_3, T.sl l0_4, T.sl l0_5]]).bind fun r179 =>
  bif !(asB (nth r179 0)) then
    some [T.sl []]
  else
    (c 67 [T.sl ([] : List T), T.i .i64 n0_0]).bind fun r180 =>
    (c 67 [T.sl (asL (nth r180 0)), T.i .i64 n0_1]).bind fun r181 =>
    (c 67 [T.sl (asL (nth r181 0)), T.i .i64 n0_2]).bind fun r182 =>
    (c 82 [T.sl (asL (nth r182 0)), T.s (bytesOf l0_3)]).bind fun r183 =>
    (c 67 [T.sl (asL (nth r183 0)), T.i .i64 (l0_4.length : Int)]).bind fun r184 =>
    (lp0 l0_3 l0_4 l0_5 n0_0 n0_1 n0_2 0 (asL (nth r184 0))).bind fun r191 =>
    (c 86 [T.sl (asL (nth r191 7)), T.sl (asL (nth r191 6))]).bind fun r192 =>
    some [T.sl (asL (nth r192 0))]
def f33 (c : Orc) (lf : Nat) (n0_0 : Int) (n0_1 : Int) (n0_2 : Int) (l0_3 : List T) (l0_4 : List T) (l0_5 : List T) : Option (List T) := f33_t c lf (fun (l0_3 : List T) (l0_4 : List T) (l0_5 : List T) (n0_0 : Int) (n0_1 : Int) (n0_2 : Int) (x187 : Int) (x188 : List T) => f33_0 c lf l0_3 l0_4 l0_5 n0_0 n0_1 n0_2 lf x187 x188) n0_0 n0_1 n0_2 l0_3 l0_4 l0_5
theorem f33_raw (c : Orc) (lf : Nat) (n0_0 : Int) (n0_1 : Int) (n0_2 : Int) (l0_3 : List T) (l0_4 : List T) (l0_5 : List T) : funK c env lf 6 fi33 [.st [.i .i64 n0_0, .i .i64 n0_1, .i .i64 n0_2, .sl l0_3, .sl l0_4, .sl l0_5]] = f33_t c lf (fun (l0_3 : List T) (l0_4 : List T) (l0_5 : List T) (n0_0 : Int) (n0_1 : Int) (n0_2 : Int) (x187 : Int) (x188 : List T) => lpK c env lf 6 fi33 6 6 [] [1, 3, 28, 29, 30] (x33_6_0) lf (f33_0_c l0_3 l0_4 l0_5 n0_0 n0_1 n0_2 x187 x188)) n0_0 n0_1 n0_2 l0_3 l0_4 l0_5 := by kernel_rfl
theorem f33_eq (c : Orc) (lf : Nat) (n0_0 : Int) (n0_1 : Int) (n0_2 : Int) (l0_3 : List T) (l0_4 : List T) (l0_5 : List T) : funK c env lf 6 fi33 [.st [.i .i64 n0_0, .i .i64 n0_1, .i .i64 n0_2, .sl l0_3, .sl l0_4, .sl l0_5]] = f33 c lf n0_0 n0_1 n0_2 l0_3 l0_4 l0_5 := by
  refine (f33_raw c lf n0_0 n0_1 n0_2 l0_3 l0_4 l0_5).trans ?_
  have e0 : (fun (l0_3 : List T) (l0_4 : List T) (l0_5 : List T) (n0_0 : Int) (n0_1 : Int) (n0_2 : Int) (x187 : Int) (x188 : List T) => lpK c env lf 6 fi33 6 6 [] [1, 3, 28, 29, 30] (x33_6_0) lf (f33_0_c l0_3 l0_4 l0_5 n0_0 n0_1 n0_2 x187 x188)) = (fun (l0_3 : List T) (l0_4 : List T) (l0_5 : List T) (n0_0 : Int) (n0_1 : Int) (n0_2 : Int) (x187 : Int) (x188 : List T) => f33_0 c lf l0_3 l0_4 l0_5 n0_0 n0_1 n0_2 lf x187 x188) := by funext l0_3 l0_4 l0_5 n0_0 n0_1 n0_2 x187 x188; exact f33_0_eq c lf l0_3 l0_4 l0_5 n0_0 n0_1 n0_2 lf x187 x188
  rw [e0]; rfl
/-- loop.example/g00285/spec.l1In -/
def f77_t (c : Orc) (lf : Nat) (n0 : Int) (n1 : Int) (n2 : Int) : Option (List T) :=
  bif iLe n1 n0 then
    some [T.b (iLe n0 n2)]
  else
    some [T.b false]
def f77 (c : Orc) (lf : Nat) (n0 : Int) (n1 : Int) (n2 : Int) : Option (List T) := f77_t c lf n0 n1 n2
theorem f77_raw (c : Orc) (lf : Nat) (n0 : Int) (n1 : Int) (n2 : Int) : funK c env lf 6 fi77 [.i .i64 n0, .i .i64 n1, .i .i64 n2] = f77_t c lf n0 n1 n2 := by kernel_rfl
theorem f77_eq (c : Orc) (lf : Nat) (n0 : Int) (n1 : Int) (n2 : Int) : funK c env lf 6 fi77 [.i .i64 n0, .i .i64 n1, .i .i64 n2] = f77 c lf n0 n1 n2 := by
  refine (f77_raw c lf n0 n1 n2).trans ?_
  rfl
/-- loop.example/g00285/spec.NameOk, the loop at region 2. -/
def f109_0_s (c : Orc) (lf : Nat) (s0 : ByteArray) (L : Int → Option (List T)) (x202 : Int) : Option (List T) :=
  bif iLt x202 (s0.size : Int) then
    bif inR x202 s0.size then
    (c 77 [T.i .i64 (IntKind.wrap .i64 (byteAt s0 x202)), T.i .i64 97, T.i .i64 122]).bind fun r203 =>
    bif !(asB (nth r203 0)) then
      (c 77 [T.i .i64 (IntKind.wrap .i64 (byteAt s0 x202)), T.i .i64 48, T.i .i64 57]).bind fun r204 =>
      bif !(asB (nth r204 0)) then
        bif (IntKind.wrap .i64 (byteAt s0 x202)) != 95 then
          bif (IntKind.wrap .i64 (byteAt s0 x202)) != 45 then
            bif (IntKind.wrap .i64 (byteAt s0 x202)) != 46 then
              some [T.i .i64 0, T.b false]
            else
              L (IntKind.wrap .i64 (x202 + 1))
          else
            L (IntKind.wrap .i64 (x202 + 1))
        else
          L (IntKind.wrap .i64 (x202 + 1))
      else
        L (IntKind.wrap .i64 (x202 + 1))
    else
      L (IntKind.wrap .i64 (x202 + 1))
    else none
  else
    some [T.i .i64 1, T.s s0]
def f109_0_c (s0 : ByteArray) (x202 : Int) : CSt := ⟨[.s s0, .i .i64 x202], [.dead]⟩
theorem f109_0_round (c : Orc) (lf : Nat) (s0 : ByteArray) (L : CSt → Option (List T)) (x202 : Int) :
    roundK c env lf 6 fi109 1 2 [] [0, 3] (x109_2_0) L (f109_0_c s0 x202) = f109_0_s c lf s0 (fun x202 => L (f109_0_c s0 x202)) x202 := by kernel_rfl
def f109_0 (c : Orc) (lf : Nat) (s0 : ByteArray) : Nat → Int → Option (List T)
  | 0 => fun _ => none
  | n + 1 => fun x202 => f109_0_s c lf s0 (f109_0 c lf s0 n) x202
theorem f109_0_u (c : Orc) (lf : Nat) (s0 : ByteArray) (n : Nat) (x202 : Int) : f109_0 c lf s0 (n + 1) x202 = f109_0_s c lf s0 (f109_0 c lf s0 n) x202 := rfl
theorem f109_0_eq (c : Orc) (lf : Nat) (s0 : ByteArray) (n : Nat) (x202 : Int) :
    lpK c env lf 6 fi109 1 2 [] [0, 3] (x109_2_0) n (f109_0_c s0 x202) = f109_0 c lf s0 n x202 := by
  induction n generalizing x202 with
  | zero => rfl
  | succ n ih =>
    refine (f109_0_round c lf s0 _ x202).trans ?_
    have e : (fun x202 => lpK c env lf 6 fi109 1 2 [] [0, 3] (x109_2_0) n (f109_0_c s0 x202)) = f109_0 c lf s0 n := by funext x202; exact ih x202
    show f109_0_s c lf s0 (fun x202 => lpK c env lf 6 fi109 1 2 [] [0, 3] (x109_2_0) n (f109_0_c s0 x202)) x202 = _
    rw [e]; rfl
/-- loop.example/g00285/spec.NameOk -/
def f109_t (c : Orc) (lf : Nat) (lp0 : ByteArray → Int → Option (List T)) (s0 : ByteArray) : Option (List T) :=
  (lp0 s0 0).bind fun r205 =>
  bif asI (nth r205 0) == 0 then
    some [T.b (asB (nth r205 1))]
  else
    (c 77 [T.i .i64 ((asS (nth r205 1)).size : Int), T.i .i64 1, T.i .i64 14]).bind fun r206 =>
    bif asB (nth r206 0) then
      bif !((asS (nth r205 1)).toList == (⟨#[46]⟩ : ByteArray).toList) then
        some [T.b (!((asS (nth r205 1)).toList == (⟨#[46, 46]⟩ : ByteArray).toList))]
      else
        some [T.b false]
    else
      some [T.b false]
def f109 (c : Orc) (lf : Nat) (s0 : ByteArray) : Option (List T) := f109_t c lf (fun (s0 : ByteArray) (x202 : Int) => f109_0 c lf s0 lf x202) s0
theorem f109_raw (c : Orc) (lf : Nat) (s0 : ByteArray) : funK c env lf 6 fi109 [.s s0] = f109_t c lf (fun (s0 : ByteArray) (x202 : Int) => lpK c env lf 6 fi109 1 2 [] [0, 3] (x109_2_0) lf (f109_0_c s0 x202)) s0 := by kernel_rfl
theorem f109_eq (c : Orc) (lf : Nat) (s0 : ByteArray) : funK c env lf 6 fi109 [.s s0] = f109 c lf s0 := by
  refine (f109_raw c lf s0).trans ?_
  have e0 : (fun (s0 : ByteArray) (x202 : Int) => lpK c env lf 6 fi109 1 2 [] [0, 3] (x109_2_0) lf (f109_0_c s0 x202)) = (fun (s0 : ByteArray) (x202 : Int) => f109_0 c lf s0 lf x202) := by funext s0 x202; exact f109_0_eq c lf s0 lf x202
  rw [e0]; rfl
/-- loop.example/g00285/spec.l3Ents, the loop at region 2. -/
def f87_0_s (c : Orc) (lf : Nat) (l0 : List T) (L : Int → Option (List T)) (x215 : Int) : Option (List T) :=
  bif iLt x215 (l0.length : Int) then
    bif inR x215 l0.length then
    (c 109 [T.s (asS (T.cell (l0.getD x215.toNat T.u) 0))]).bind fun r216 =>
    bif !(asB (nth r216 0)) then
      some [T.i .i64 0, T.b false]
    else
      bif inR x215 l0.length then
      (c 77 [T.i .i64 (asI (T.cell (l0.getD x215.toNat T.u) 1)), T.i .i64 2, T.i .i64 1000]).bind fun r217 =>
      bif !(asB (nth r217 0)) then
        some [T.i .i64 0, T.b false]
      else
        bif iLt 0 x215 then
          bif inR (IntKind.wrap .i64 (x215 - 1)) l0.length then
          bif inR x215 l0.length then
          bif !(Op.bytesLess (asS (T.cell (l0.getD ((IntKind.wrap .i64 (x215 - 1)).toNat) T.u) 0)).toList (asS (T.cell (l0.getD x215.toNat T.u) 0)).toList) then
            some [T.i .i64 0, T.b false]
          else
            L (IntKind.wrap .i64 (x215 + 1))
          else none
          else none
        else
          L (IntKind.wrap .i64 (x215 + 1))
      else none
    else none
  else
    some [T.i .i64 1, T.sl l0]
def f87_0_c (l0 : List T) (x215 : Int) : CSt := ⟨[.ro 0 true [.s, .i .i64] l0, .i .i64 x215], [.dead]⟩
theorem f87_0_round (c : Orc) (lf : Nat) (l0 : List T) (L : CSt → Option (List T)) (x215 : Int) :
    roundK c env lf 6 fi87 1 2 [] [0, 3] (x87_2_0) L (f87_0_c l0 x215) = f87_0_s c lf l0 (fun x215 => L (f87_0_c l0 x215)) x215 := by kernel_rfl
def f87_0 (c : Orc) (lf : Nat) (l0 : List T) : Nat → Int → Option (List T)
  | 0 => fun _ => none
  | n + 1 => fun x215 => f87_0_s c lf l0 (f87_0 c lf l0 n) x215
theorem f87_0_u (c : Orc) (lf : Nat) (l0 : List T) (n : Nat) (x215 : Int) : f87_0 c lf l0 (n + 1) x215 = f87_0_s c lf l0 (f87_0 c lf l0 n) x215 := rfl
theorem f87_0_eq (c : Orc) (lf : Nat) (l0 : List T) (n : Nat) (x215 : Int) :
    lpK c env lf 6 fi87 1 2 [] [0, 3] (x87_2_0) n (f87_0_c l0 x215) = f87_0 c lf l0 n x215 := by
  induction n generalizing x215 with
  | zero => rfl
  | succ n ih =>
    refine (f87_0_round c lf l0 _ x215).trans ?_
    have e : (fun x215 => lpK c env lf 6 fi87 1 2 [] [0, 3] (x87_2_0) n (f87_0_c l0 x215)) = f87_0 c lf l0 n := by funext x215; exact ih x215
    show f87_0_s c lf l0 (fun x215 => lpK c env lf 6 fi87 1 2 [] [0, 3] (x87_2_0) n (f87_0_c l0 x215)) x215 = _
    rw [e]; rfl
/-- loop.example/g00285/spec.l3Ents -/
def f87_t (c : Orc) (lf : Nat) (lp0 : List T → Int → Option (List T)) (l0 : List T) : Option (List T) :=
  (lp0 l0 0).bind fun r218 =>
  bif asI (nth r218 0) == 0 then
    some [T.b (asB (nth r218 1))]
  else
    some [T.b (iLe ((asL (nth r218 1)).length : Int) 10)]
def f87 (c : Orc) (lf : Nat) (l0 : List T) : Option (List T) := f87_t c lf (fun (l0 : List T) (x215 : Int) => f87_0 c lf l0 lf x215) l0
theorem f87_raw (c : Orc) (lf : Nat) (l0 : List T) : funK c env lf 6 fi87 [.sl l0] = f87_t c lf (fun (l0 : List T) (x215 : Int) => lpK c env lf 6 fi87 1 2 [] [0, 3] (x87_2_0) lf (f87_0_c l0 x215)) l0 := by kernel_rfl
theorem f87_eq (c : Orc) (lf : Nat) (l0 : List T) : funK c env lf 6 fi87 [.sl l0] = f87 c lf l0 := by
  refine (f87_raw c lf l0).trans ?_
  have e0 : (fun (l0 : List T) (x215 : Int) => lpK c env lf 6 fi87 1 2 [] [0, 3] (x87_2_0) lf (f87_0_c l0 x215)) = (fun (l0 : List T) (x215 : Int) => f87_0 c lf l0 lf x215) := by funext l0 x215; exact f87_0_eq c lf l0 lf x215
  rw [e0]; rfl
/-- loop.example/g00285/spec.l3Attrs, the loop at region 2. -/
def f88_0_s (c : Orc) (lf : Nat) (l0 : List T) (L : Int → Option (List T)) (x227 : Int) : Option (List T) :=
  bif iLt x227 (l0.length : Int) then
    bif inR x227 l0.length then
    (c 109 [T.s (asS (T.cell (l0.getD x227.toNat T.u) 0))]).bind fun r228 =>
    bif !(asB (nth r228 0)) then
      some [T.i .i64 0, T.b false]
    else
      bif inR x227 l0.length then
      (c 77 [T.i .i64 ((asS (T.cell (l0.getD x227.toNat T.u) 1)).size : Int), T.i .i64 1, T.i .i64 16]).bind fun r229 =>
      bif !(asB (nth r229 0)) then
        some [T.i .i64 0, T.b false]
      else
        bif iLt 0 x227 then
          bif inR (IntKind.wrap .i64 (x227 - 1)) l0.length then
          bif inR x227 l0.length then
          bif !(Op.bytesLess (asS (T.cell (l0.getD ((IntKind.wrap .i64 (x227 - 1)).toNat) T.u) 0)).toList (asS (T.cell (l0.getD x227.toNat T.u) 0)).toList) then
            some [T.i .i64 0, T.b false]
          else
            L (IntKind.wrap .i64 (x227 + 1))
          else none
          else none
        else
          L (IntKind.wrap .i64 (x227 + 1))
      else none
    else none
  else
    some [T.i .i64 1, T.sl l0]
def f88_0_c (l0 : List T) (x227 : Int) : CSt := ⟨[.ro 0 true [.s, .s] l0, .i .i64 x227], [.dead]⟩
theorem f88_0_round (c : Orc) (lf : Nat) (l0 : List T) (L : CSt → Option (List T)) (x227 : Int) :
    roundK c env lf 6 fi88 1 2 [] [0, 3] (x88_2_0) L (f88_0_c l0 x227) = f88_0_s c lf l0 (fun x227 => L (f88_0_c l0 x227)) x227 := by kernel_rfl
def f88_0 (c : Orc) (lf : Nat) (l0 : List T) : Nat → Int → Option (List T)
  | 0 => fun _ => none
  | n + 1 => fun x227 => f88_0_s c lf l0 (f88_0 c lf l0 n) x227
theorem f88_0_u (c : Orc) (lf : Nat) (l0 : List T) (n : Nat) (x227 : Int) : f88_0 c lf l0 (n + 1) x227 = f88_0_s c lf l0 (f88_0 c lf l0 n) x227 := rfl
theorem f88_0_eq (c : Orc) (lf : Nat) (l0 : List T) (n : Nat) (x227 : Int) :
    lpK c env lf 6 fi88 1 2 [] [0, 3] (x88_2_0) n (f88_0_c l0 x227) = f88_0 c lf l0 n x227 := by
  induction n generalizing x227 with
  | zero => rfl
  | succ n ih =>
    refine (f88_0_round c lf l0 _ x227).trans ?_
    have e : (fun x227 => lpK c env lf 6 fi88 1 2 [] [0, 3] (x88_2_0) n (f88_0_c l0 x227)) = f88_0 c lf l0 n := by funext x227; exact ih x227
    show f88_0_s c lf l0 (fun x227 => lpK c env lf 6 fi88 1 2 [] [0, 3] (x88_2_0) n (f88_0_c l0 x227)) x227 = _
    rw [e]; rfl
/-- loop.example/g00285/spec.l3Attrs -/
def f88_t (c : Orc) (lf : Nat) (lp0 : List T → Int → Option (List T)) (l0 : List T) : Option (List T) :=
  (lp0 l0 0).bind fun r230 =>
  bif asI (nth r230 0) == 0 then
    some [T.b (asB (nth r230 1))]
  else
    some [T.b (iLe ((asL (nth r230 1)).length : Int) 4)]
def f88 (c : Orc) (lf : Nat) (l0 : List T) : Option (List T) := f88_t c lf (fun (l0 : List T) (x227 : Int) => f88_0 c lf l0 lf x227) l0
theorem f88_raw (c : Orc) (lf : Nat) (l0 : List T) : funK c env lf 6 fi88 [.sl l0] = f88_t c lf (fun (l0 : List T) (x227 : Int) => lpK c env lf 6 fi88 1 2 [] [0, 3] (x88_2_0) lf (f88_0_c l0 x227)) l0 := by kernel_rfl
theorem f88_eq (c : Orc) (lf : Nat) (l0 : List T) : funK c env lf 6 fi88 [.sl l0] = f88 c lf l0 := by
  refine (f88_raw c lf l0).trans ?_
  have e0 : (fun (l0 : List T) (x227 : Int) => lpK c env lf 6 fi88 1 2 [] [0, 3] (x88_2_0) lf (f88_0_c l0 x227)) = (fun (l0 : List T) (x227 : Int) => f88_0 c lf l0 lf x227) := by funext l0 x227; exact f88_0_eq c lf l0 lf x227
  rw [e0]; rfl
/-- loop.example/g00285/spec.InodeOk -/
def f34_t (c : Orc) (lf : Nat) (n0_0 : Int) (n0_1 : Int) (n0_2 : Int) (l0_3 : List T) (l0_4 : List T) (l0_5 : List T) : Option (List T) :=
  (c 77 [T.i .i64 n0_0, T.i .i64 1, T.i .i64 1000]).bind fun r231 =>
  bif !(asB (nth r231 0)) then
    some [T.b false]
  else
    (c 77 [T.i .i64 n0_2, T.i .i64 0, T.i .i64 1000]).bind fun r232 =>
    bif !(asB (nth r232 0)) then
      some [T.b false]
    else
      bif !((n0_2 == 0) == (n0_0 == 1)) then
        some [T.b false]
      else
        bif iLt 100 (l0_3.length : Int) then
          some [T.b false]
        else
          (c 87 [T.sl l0_4]).bind fun r233 =>
          bif !(asB (nth r233 0)) then
            some [T.b false]
          else
            (c 88 [T.sl l0_5]).bind fun r234 =>
            bif !(asB (nth r234 0)) then
              some [T.b false]
            else
              bif n0_1 == 1 then
                some [T.b ((l0_4.length : Int) == 0)]
              else
                bif n0_1 == 2 then
                  bif (l0_3.length : Int) == 0 then
                    some [T.b (iLe n0_2 1)]
                  else
                    some [T.b false]
                else
                  some [T.b false]
def f34 (c : Orc) (lf : Nat) (n0_0 : Int) (n0_1 : Int) (n0_2 : Int) (l0_3 : List T) (l0_4 : List T) (l0_5 : List T) : Option (List T) := f34_t c lf n0_0 n0_1 n0_2 l0_3 l0_4 l0_5
theorem f34_raw (c : Orc) (lf : Nat) (n0_0 : Int) (n0_1 : Int) (n0_2 : Int) (l0_3 : List T) (l0_4 : List T) (l0_5 : List T) : funK c env lf 6 fi34 [.st [.i .i64 n0_0, .i .i64 n0_1, .i .i64 n0_2, .sl l0_3, .sl l0_4, .sl l0_5]] = f34_t c lf n0_0 n0_1 n0_2 l0_3 l0_4 l0_5 := by kernel_rfl
theorem f34_eq (c : Orc) (lf : Nat) (n0_0 : Int) (n0_1 : Int) (n0_2 : Int) (l0_3 : List T) (l0_4 : List T) (l0_5 : List T) : funK c env lf 6 fi34 [.st [.i .i64 n0_0, .i .i64 n0_1, .i .i64 n0_2, .sl l0_3, .sl l0_4, .sl l0_5]] = f34 c lf n0_0 n0_1 n0_2 l0_3 l0_4 l0_5 := by
  refine (f34_raw c lf n0_0 n0_1 n0_2 l0_3 l0_4 l0_5).trans ?_
  rfl
/-- loop.example/g00285/impl.GetNum, the loop at region 6. -/
def f125_0_s (c : Orc) (lf : Nat) (l0 : List T) (n1 : Int) (L : Int → Int → Int → Option (List T)) (x239 : Int) (x240 : Int) (x241 : Int) : Option (List T) :=
  bif iLt x241 3 then
    bif iLt n1 (IntKind.wrap .i64 ((l0.length : Int) - x241)) then
      bif inR (IntKind.wrap .i64 (n1 + x241)) l0.length then
      bif iLe 128 (IntKind.wrap .i64 (asI (l0.getD ((IntKind.wrap .i64 (n1 + x241)).toNat) T.u))) then
        L (IntKind.wrap .i64 (x239 + (IntKind.wrap .i64 (((IntKind.wrap .i64 (asI (l0.getD ((IntKind.wrap .i64 (n1 + x241)).toNat) T.u))).tmod 128) * x240)))) (IntKind.wrap .i64 (x240 * 128)) (IntKind.wrap .i64 (x241 + 1))
      else
        bif iLt 1000000 (IntKind.wrap .i64 (x239 + (IntKind.wrap .i64 (((IntKind.wrap .i64 (asI (l0.getD ((IntKind.wrap .i64 (n1 + x241)).toNat) T.u))).tmod 128) * x240)))) then
          some [T.i .i64 0]
        else
          bif (IntKind.wrap .i64 (asI (l0.getD ((IntKind.wrap .i64 (n1 + x241)).toNat) T.u))) == 0 then
            bif iLt 0 x241 then
              some [T.i .i64 0]
            else
              some [T.i .i64 1, T.i .i64 (IntKind.wrap .i64 (x239 + (IntKind.wrap .i64 (((IntKind.wrap .i64 (asI (l0.getD ((IntKind.wrap .i64 (n1 + x241)).toNat) T.u))).tmod 128) * x240)))), T.i .i64 (IntKind.wrap .i64 ((IntKind.wrap .i64 (n1 + x241)) + 1)), T.b true]
          else
            some [T.i .i64 1, T.i .i64 (IntKind.wrap .i64 (x239 + (IntKind.wrap .i64 (((IntKind.wrap .i64 (asI (l0.getD ((IntKind.wrap .i64 (n1 + x241)).toNat) T.u))).tmod 128) * x240)))), T.i .i64 (IntKind.wrap .i64 ((IntKind.wrap .i64 (n1 + x241)) + 1)), T.b true]
      else none
    else
      some [T.i .i64 0]
  else
    some [T.i .i64 0]
def f125_0_c (l0 : List T) (n1 : Int) (x239 : Int) (x240 : Int) (x241 : Int) : CSt := ⟨[.ro 0 false [.i .u8] l0, .i .i64 n1, .i .i64 x239, .i .i64 x240, .i .i64 x241], [.dead, .dead]⟩
theorem f125_0_round (c : Orc) (lf : Nat) (l0 : List T) (n1 : Int) (L : CSt → Option (List T)) (x239 : Int) (x240 : Int) (x241 : Int) :
    roundK c env lf 6 fi125 2 6 [] [0, 1, 7, 8, 9] (x125_6_0) L (f125_0_c l0 n1 x239 x240 x241) = f125_0_s c lf l0 n1 (fun x239 x240 x241 => L (f125_0_c l0 n1 x239 x240 x241)) x239 x240 x241 := by kernel_rfl
def f125_0 (c : Orc) (lf : Nat) (l0 : List T) (n1 : Int) : Nat → Int → Int → Int → Option (List T)
  | 0 => fun _ _ _ => none
  | n + 1 => fun x239 x240 x241 => f125_0_s c lf l0 n1 (f125_0 c lf l0 n1 n) x239 x240 x241
theorem f125_0_u (c : Orc) (lf : Nat) (l0 : List T) (n1 : Int) (n : Nat) (x239 : Int) (x240 : Int) (x241 : Int) : f125_0 c lf l0 n1 (n + 1) x239 x240 x241 = f125_0_s c lf l0 n1 (f125_0 c lf l0 n1 n) x239 x240 x241 := rfl
theorem f125_0_eq (c : Orc) (lf : Nat) (l0 : List T) (n1 : Int) (n : Nat) (x239 : Int) (x240 : Int) (x241 : Int) :
    lpK c env lf 6 fi125 2 6 [] [0, 1, 7, 8, 9] (x125_6_0) n (f125_0_c l0 n1 x239 x240 x241) = f125_0 c lf l0 n1 n x239 x240 x241 := by
  induction n generalizing x239 x240 x241 with
  | zero => rfl
  | succ n ih =>
    refine (f125_0_round c lf l0 n1 _ x239 x240 x241).trans ?_
    have e : (fun x239 x240 x241 => lpK c env lf 6 fi125 2 6 [] [0, 1, 7, 8, 9] (x125_6_0) n (f125_0_c l0 n1 x239 x240 x241)) = f125_0 c lf l0 n1 n := by funext x239 x240 x241; exact ih x239 x240 x241
    show f125_0_s c lf l0 n1 (fun x239 x240 x241 => lpK c env lf 6 fi125 2 6 [] [0, 1, 7, 8, 9] (x125_6_0) n (f125_0_c l0 n1 x239 x240 x241)) x239 x240 x241 = _
    rw [e]; rfl
/-- loop.example/g00285/impl.GetNum -/
def f125_t (c : Orc) (lf : Nat) (lp0 : List T → Int → Int → Int → Int → Option (List T)) (l0 : List T) (n1 : Int) : Option (List T) :=
  bif iLt n1 0 then
    some [T.i .i64 0, T.i .i64 0, T.b false]
  else
    (lp0 l0 n1 0 1 0).bind fun r242 =>
    bif asI (nth r242 0) == 0 then
      some [T.i .i64 0, T.i .i64 0, T.b false]
    else
      some [T.i .i64 (asI (nth r242 1)), T.i .i64 (asI (nth r242 2)), T.b (asB (nth r242 3))]
def f125 (c : Orc) (lf : Nat) (l0 : List T) (n1 : Int) : Option (List T) := f125_t c lf (fun (l0 : List T) (n1 : Int) (x239 : Int) (x240 : Int) (x241 : Int) => f125_0 c lf l0 n1 lf x239 x240 x241) l0 n1
theorem f125_raw (c : Orc) (lf : Nat) (l0 : List T) (n1 : Int) : funK c env lf 6 fi125 [.sl l0, .i .i64 n1] = f125_t c lf (fun (l0 : List T) (n1 : Int) (x239 : Int) (x240 : Int) (x241 : Int) => lpK c env lf 6 fi125 2 6 [] [0, 1, 7, 8, 9] (x125_6_0) lf (f125_0_c l0 n1 x239 x240 x241)) l0 n1 := by kernel_rfl
theorem f125_eq (c : Orc) (lf : Nat) (l0 : List T) (n1 : Int) : funK c env lf 6 fi125 [.sl l0, .i .i64 n1] = f125 c lf l0 n1 := by
  refine (f125_raw c lf l0 n1).trans ?_
  have e0 : (fun (l0 : List T) (n1 : Int) (x239 : Int) (x240 : Int) (x241 : Int) => lpK c env lf 6 fi125 2 6 [] [0, 1, 7, 8, 9] (x125_6_0) lf (f125_0_c l0 n1 x239 x240 x241)) = (fun (l0 : List T) (n1 : Int) (x239 : Int) (x240 : Int) (x241 : Int) => f125_0 c lf l0 n1 lf x239 x240 x241) := by funext l0 n1 x239 x240 x241; exact f125_0_eq c lf l0 n1 lf x239 x240 x241
  rw [e0]; rfl
/-- (*loop.example/g00285/impl.reader).num -/
def f72_t (c : Orc) (lf : Nat) (l0_0 : List T) (n0_1 : Int) (b0_2 : Bool) : Option (List T) :=
  bif !b0_2 then
    some [T.i .i64 0, T.st [T.sl l0_0, T.i .i64 n0_1, T.b b0_2]]
  else
    (c 125 [T.sl l0_0, T.i .i64 n0_1]).bind fun r243 =>
    some [T.i .i64 (asI (nth r243 0)), T.st [T.sl l0_0, T.i .i64 (asI (nth r243 1)), T.b (asB (nth r243 2))]]
def f72 (c : Orc) (lf : Nat) (l0_0 : List T) (n0_1 : Int) (b0_2 : Bool) : Option (List T) := f72_t c lf l0_0 n0_1 b0_2
theorem f72_raw (c : Orc) (lf : Nat) (l0_0 : List T) (n0_1 : Int) (b0_2 : Bool) : funK c env lf 6 fi72 [.st [.sl l0_0, .i .i64 n0_1, .b b0_2]] = f72_t c lf l0_0 n0_1 b0_2 := by kernel_rfl
theorem f72_eq (c : Orc) (lf : Nat) (l0_0 : List T) (n0_1 : Int) (b0_2 : Bool) : funK c env lf 6 fi72 [.st [.sl l0_0, .i .i64 n0_1, .b b0_2]] = f72 c lf l0_0 n0_1 b0_2 := by
  refine (f72_raw c lf l0_0 n0_1 b0_2).trans ?_
  rfl
/-- loop.example/g00285/impl.GetText -/
def f132_t (c : Orc) (lf : Nat) (l0 : List T) (n1 : Int) : Option (List T) :=
  (c 125 [T.sl l0, T.i .i64 n1]).bind fun r244 =>
  bif !(asB (nth r244 2)) then
    some [T.s (⟨#[]⟩ : ByteArray), T.i .i64 0, T.b false]
  else
    bif iLt (IntKind.wrap .i64 ((l0.length : Int) - (asI (nth r244 1)))) (asI (nth r244 0)) then
      some [T.s (⟨#[]⟩ : ByteArray), T.i .i64 0, T.b false]
    else
      bif iLe 0 (asI (nth r244 1)) && iLe (asI (nth r244 1)) (IntKind.wrap .i64 ((asI (nth r244 1)) + (asI (nth r244 0)))) && iLe (IntKind.wrap .i64 ((asI (nth r244 1)) + (asI (nth r244 0)))) (l0.length : Int) then
      some [T.s (bytesOf ((l0.drop ((asI (nth r244 1)).toNat)).take (((IntKind.wrap .i64 ((asI (nth r244 1)) + (asI (nth r244 0)))).toNat) - ((asI (nth r244 1)).toNat)))), T.i .i64 (IntKind.wrap .i64 ((asI (nth r244 1)) + (asI (nth r244 0)))), T.b true]
      else none
def f132 (c : Orc) (lf : Nat) (l0 : List T) (n1 : Int) : Option (List T) := f132_t c lf l0 n1
theorem f132_raw (c : Orc) (lf : Nat) (l0 : List T) (n1 : Int) : funK c env lf 6 fi132 [.sl l0, .i .i64 n1] = f132_t c lf l0 n1 := by kernel_rfl
theorem f132_eq (c : Orc) (lf : Nat) (l0 : List T) (n1 : Int) : funK c env lf 6 fi132 [.sl l0, .i .i64 n1] = f132 c lf l0 n1 := by
  refine (f132_raw c lf l0 n1).trans ?_
  rfl
/-- (*loop.example/g00285/impl.reader).text -/
def f91_t (c : Orc) (lf : Nat) (l0_0 : List T) (n0_1 : Int) (b0_2 : Bool) : Option (List T) :=
  bif !b0_2 then
    some [T.s (⟨#[]⟩ : ByteArray), T.st [T.sl l0_0, T.i .i64 n0_1, T.b b0_2]]
  else
    (c 132 [T.sl l0_0, T.i .i64 n0_1]).bind fun r245 =>
    some [T.s (asS (nth r245 0)), T.st [T.sl l0_0, T.i .i64 (asI (nth r245 1)), T.b (asB (nth r245 2))]]
def f91 (c : Orc) (lf : Nat) (l0_0 : List T) (n0_1 : Int) (b0_2 : Bool) : Option (List T) := f91_t c lf l0_0 n0_1 b0_2
theorem f91_raw (c : Orc) (lf : Nat) (l0_0 : List T) (n0_1 : Int) (b0_2 : Bool) : funK c env lf 6 fi91 [.st [.sl l0_0, .i .i64 n0_1, .b b0_2]] = f91_t c lf l0_0 n0_1 b0_2 := by kernel_rfl
theorem f91_eq (c : Orc) (lf : Nat) (l0_0 : List T) (n0_1 : Int) (b0_2 : Bool) : funK c env lf 6 fi91 [.st [.sl l0_0, .i .i64 n0_1, .b b0_2]] = f91 c lf l0_0 n0_1 b0_2 := by
  refine (f91_raw c lf l0_0 n0_1 b0_2).trans ?_
  rfl
/-- (*loop.example/g00285/impl.reader).count -/
def f73_t (c : Orc) (lf : Nat) (l0_0 : List T) (n0_1 : Int) (b0_2 : Bool) : Option (List T) :=
  (c 72 [T.st [T.sl l0_0, T.i .i64 n0_1, T.b b0_2]]).bind fun r246 =>
  bif iLt (IntKind.wrap .i64 ((l0_0.length : Int) - (asI (T.cell (nth r246 1) 1)))) (asI (nth r246 0)) then
    some [T.i .i64 0, T.st [T.sl l0_0, T.i .i64 (asI (T.cell (nth r246 1) 1)), T.b false]]
  else
    some [T.i .i64 (asI (nth r246 0)), T.st [T.sl l0_0, T.i .i64 (asI (T.cell (nth r246 1) 1)), T.b (asB (T.cell (nth r246 1) 2))]]
def f73 (c : Orc) (lf : Nat) (l0_0 : List T) (n0_1 : Int) (b0_2 : Bool) : Option (List T) := f73_t c lf l0_0 n0_1 b0_2
theorem f73_raw (c : Orc) (lf : Nat) (l0_0 : List T) (n0_1 : Int) (b0_2 : Bool) : funK c env lf 6 fi73 [.st [.sl l0_0, .i .i64 n0_1, .b b0_2]] = f73_t c lf l0_0 n0_1 b0_2 := by kernel_rfl
theorem f73_eq (c : Orc) (lf : Nat) (l0_0 : List T) (n0_1 : Int) (b0_2 : Bool) : funK c env lf 6 fi73 [.st [.sl l0_0, .i .i64 n0_1, .b b0_2]] = f73 c lf l0_0 n0_1 b0_2 := by
  refine (f73_raw c lf l0_0 n0_1 b0_2).trans ?_
  rfl
/-- (*loop.example/g00285/impl.reader).attrs, the loop at region 3. -/
def f92_0_s (c : Orc) (lf : Nat) (l0_0 : List T) (r257 : List T) (L : Int → Int → Bool → List T → Option (List T)) (x260 : Int) (x261 : Int) (x262 : Bool) (x263 : List T) : Option (List T) :=
  bif iLt x260 (asI (nth r257 0)) then
    (c 91 [T.st [T.sl l0_0, T.i .i64 x261, T.b x262]]).bind fun r264 =>
    (c 91 [T.st [T.sl l0_0, T.i .i64 (asI (T.cell (nth r264 1) 1)), T.b (asB (T.cell (nth r264 1) 2))]]).bind fun r265 =>
    bif nLe (x263.length + ([T.st [T.s (asS (nth r264 0)), T.s (asS (nth r265 0))]] : List T).length) LIM then
    L (IntKind.wrap .i64 (x260 + 1)) (asI (T.cell (nth r265 1) 1)) (asB (T.cell (nth r265 1) 2)) (x263 ++ ([T.st [T.s (asS (nth r264 0)), T.s (asS (nth r265 0))]] : List T))
    else none
  else
    some [T.i .i64 0, T.sl l0_0, T.i .i64 x261, T.b x262, T.sl x263]
def f92_0_c (l0_0 : List T) (r257 : List T) (x260 : Int) (x261 : Int) (x262 : Bool) (x263 : List T) : CSt := ⟨[.bp 0 0, .rf 4 [] 0 none, .i .i64 (asI (nth r257 0)), .i .i64 x260], [.box [.ro 1 false [.i .u8] l0_0, .i .i64 x261, .b x262], .dead, .dead, .dead, .row true [.s, .s] x263 0 false]⟩
theorem f92_0_round (c : Orc) (lf : Nat) (l0_0 : List T) (r257 : List T) (L : CSt → Option (List T)) (x260 : Int) (x261 : Int) (x262 : Bool) (x263 : List T) :
    roundK c env lf 6 fi92 4 3 [] [0, 3, 8, 9] (x92_3_0) L (f92_0_c l0_0 r257 x260 x261 x262 x263) = f92_0_s c lf l0_0 r257 (fun x260 x261 x262 x263 => L (f92_0_c l0_0 r257 x260 x261 x262 x263)) x260 x261 x262 x263 := by kernel_rfl
def f92_0 (c : Orc) (lf : Nat) (l0_0 : List T) (r257 : List T) : Nat → Int → Int → Bool → List T → Option (List T)
  | 0 => fun _ _ _ _ => none
  | n + 1 => fun x260 x261 x262 x263 => f92_0_s c lf l0_0 r257 (f92_0 c lf l0_0 r257 n) x260 x261 x262 x263
theorem f92_0_u (c : Orc) (lf : Nat) (l0_0 : List T) (r257 : List T) (n : Nat) (x260 : Int) (x261 : Int) (x262 : Bool) (x263 : List T) : f92_0 c lf l0_0 r257 (n + 1) x260 x261 x262 x263 = f92_0_s c lf l0_0 r257 (f92_0 c lf l0_0 r257 n) x260 x261 x262 x263 := rfl
theorem f92_0_eq (c : Orc) (lf : Nat) (l0_0 : List T) (r257 : List T) (n : Nat) (x260 : Int) (x261 : Int) (x262 : Bool) (x263 : List T) :
    lpK c env lf 6 fi92 4 3 [] [0, 3, 8, 9] (x92_3_0) n (f92_0_c l0_0 r257 x260 x261 x262 x263) = f92_0 c lf l0_0 r257 n x260 x261 x262 x263 := by
  induction n generalizing x260 x261 x262 x263 with
  | zero => rfl
  | succ n ih =>
    refine (f92_0_round c lf l0_0 r257 _ x260 x261 x262 x263).trans ?_
    have e : (fun x260 x261 x262 x263 => lpK c env lf 6 fi92 4 3 [] [0, 3, 8, 9] (x92_3_0) n (f92_0_c l0_0 r257 x260 x261 x262 x263)) = f92_0 c lf l0_0 r257 n := by funext x260 x261 x262 x263; exact ih x260 x261 x262 x263
    show f92_0_s c lf l0_0 r257 (fun x260 x261 x262 x263 => lpK c env lf 6 fi92 4 3 [] [0, 3, 8, 9] (x92_3_0) n (f92_0_c l0_0 r257 x260 x261 x262 x263)) x260 x261 x262 x263 = _
    rw [e]; rfl
/-- (*loop.example/g00285/impl.reader).attrs -/
def f92_t (c : Orc) (lf : Nat) (lp0 : List T → List T → Int → Int → Bool → List T → Option (List T)) (l0_0 : List T) (n0_1 : Int) (b0_2 : Bool) : Option (List T) :=
  (c 73 [T.st [T.sl l0_0, T.i .i64 n0_1, T.b b0_2]]).bind fun r257 =>
  (lp0 l0_0 r257 0 (asI (T.cell (nth r257 1) 1)) (asB (T.cell (nth r257 1) 2)) ([] : List T)).bind fun r266 =>
  some [T.sl (asL (nth r266 4)), T.st [T.sl (asL (nth r266 1)), T.i .i64 (asI (nth r266 2)), T.b (asB (nth r266 3))]]
def f92 (c : Orc) (lf : Nat) (l0_0 : List T) (n0_1 : Int) (b0_2 : Bool) : Option (List T) := f92_t c lf (fun (l0_0 : List T) (r257 : List T) (x260 : Int) (x261 : Int) (x262 : Bool) (x263 : List T) => f92_0 c lf l0_0 r257 lf x260 x261 x262 x263) l0_0 n0_1 b0_2
theorem f92_raw (c : Orc) (lf : Nat) (l0_0 : List T) (n0_1 : Int) (b0_2 : Bool) : funK c env lf 6 fi92 [.st [.sl l0_0, .i .i64 n0_1, .b b0_2]] = f92_t c lf (fun (l0_0 : List T) (r257 : List T) (x260 : Int) (x261 : Int) (x262 : Bool) (x263 : List T) => lpK c env lf 6 fi92 4 3 [] [0, 3, 8, 9] (x92_3_0) lf (f92_0_c l0_0 r257 x260 x261 x262 x263)) l0_0 n0_1 b0_2 := by kernel_rfl
theorem f92_eq (c : Orc) (lf : Nat) (l0_0 : List T) (n0_1 : Int) (b0_2 : Bool) : funK c env lf 6 fi92 [.st [.sl l0_0, .i .i64 n0_1, .b b0_2]] = f92 c lf l0_0 n0_1 b0_2 := by
  refine (f92_raw c lf l0_0 n0_1 b0_2).trans ?_
  have e0 : (fun (l0_0 : List T) (r257 : List T) (x260 : Int) (x261 : Int) (x262 : Bool) (x263 : List T) => lpK c env lf 6 fi92 4 3 [] [0, 3, 8, 9] (x92_3_0) lf (f92_0_c l0_0 r257 x260 x261 x262 x263)) = (fun (l0_0 : List T) (r257 : List T) (x260 : Int) (x261 : Int) (x262 : Bool) (x263 : List T) => f92_0 c lf l0_0 r257 lf x260 x261 x262 x263) := by funext l0_0 r257 x260 x261 x262 x263; exact f92_0_eq c lf l0_0 r257 lf x260 x261 x262 x263
  rw [e0]; rfl
/-- (*loop.example/g00285/impl.reader).done -/
def f74_t (c : Orc) (lf : Nat) (l0_0 : List T) (n0_1 : Int) (b0_2 : Bool) : Option (List T) :=
  bif b0_2 then
    some [T.b (n0_1 == (l0_0.length : Int)), T.st [T.sl l0_0, T.i .i64 n0_1, T.b b0_2]]
  else
    some [T.b false, T.st [T.sl l0_0, T.i .i64 n0_1, T.b b0_2]]
def f74 (c : Orc) (lf : Nat) (l0_0 : List T) (n0_1 : Int) (b0_2 : Bool) : Option (List T) := f74_t c lf l0_0 n0_1 b0_2
theorem f74_raw (c : Orc) (lf : Nat) (l0_0 : List T) (n0_1 : Int) (b0_2 : Bool) : funK c env lf 6 fi74 [.st [.sl l0_0, .i .i64 n0_1, .b b0_2]] = f74_t c lf l0_0 n0_1 b0_2 := by kernel_rfl
theorem f74_eq (c : Orc) (lf : Nat) (l0_0 : List T) (n0_1 : Int) (b0_2 : Bool) : funK c env lf 6 fi74 [.st [.sl l0_0, .i .i64 n0_1, .b b0_2]] = f74 c lf l0_0 n0_1 b0_2 := by
  refine (f74_raw c lf l0_0 n0_1 b0_2).trans ?_
  rfl
/-- loop.example/g00285/impl.GetInode, the loop at region 8. -/
def f36_0_s (c : Orc) (lf : Nat) (l0 : List T) (r284 : List T) (r285 : List T) (r286 : List T) (r287 : List T) (r288 : List T) (L : Int → Int → Bool → List T → Option (List T)) (x291 : Int) (x292 : Int) (x293 : Bool) (x294 : List T) : Option (List T) :=
  bif iLt x291 (asI (nth r288 0)) then
    (c 91 [T.st [T.sl l0, T.i .i64 x292, T.b x293]]).bind fun r295 =>
    (c 72 [T.st [T.sl l0, T.i .i64 (asI (T.cell (nth r295 1) 1)), T.b (asB (T.cell (nth r295 1) 2))]]).bind fun r296 =>
    bif nLe (x294.length + ([T.st [T.s (asS (nth r295 0)), T.i .i64 (asI (nth r296 0))]] : List T).length) LIM then
    L (IntKind.wrap .i64 (x291 + 1)) (asI (T.cell (nth r296 1) 1)) (asB (T.cell (nth r296 1) 2)) (x294 ++ ([T.st [T.s (asS (nth r295 0)), T.i .i64 (asI (nth r296 0))]] : List T))
    else none
  else
    some [T.i .i64 0, T.i .i64 0, T.i .i64 0, T.i .i64 0, T.sl ([] : List T), T.sl ([] : List T), T.sl ([] : List T), T.sl l0, T.i .i64 x292, T.b x293, T.i .i64 (asI (nth r284 0)), T.i .i64 (asI (nth r285 0)), T.i .i64 (asI (nth r286 0)), T.sl (listOf (asS (nth r287 0))), T.sl x294, T.sl ([] : List T)]
def f36_0_c (l0 : List T) (r284 : List T) (r285 : List T) (r286 : List T) (r287 : List T) (r288 : List T) (x291 : Int) (x292 : Int) (x293 : Bool) (x294 : List T) : CSt := ⟨[.bp 1 0, .bp 5 0, .bp 6 0, .i .i64 (asI (nth r288 0)), .i .i64 x291], [.dead, .box [.i .i64 0, .i .i64 0, .i .i64 0, .rf 2 [] 0 none, .rf 3 [] 0 none, .rf 4 [] 0 none], .row false [.i .u8] ([] : List T) 0 false, .row true [.s, .i .i64] ([] : List T) 0 false, .row true [.s, .s] ([] : List T) 0 false, .box [.ro 0 false [.i .u8] l0, .i .i64 x292, .b x293], .box [.i .i64 (asI (nth r284 0)), .i .i64 (asI (nth r285 0)), .i .i64 (asI (nth r286 0)), .rf 7 [] 0 none, .rf 8 [] 0 none, .rf 9 [] 0 none], .row false [.i .u8] (listOf (asS (nth r287 0))) 0 false, .row true [.s, .i .i64] x294 0 false, .row true [.s, .s] ([] : List T) 0 false]⟩
theorem f36_0_round (c : Orc) (lf : Nat) (l0 : List T) (r284 : List T) (r285 : List T) (r286 : List T) (r287 : List T) (r288 : List T) (L : CSt → Option (List T)) (x291 : Int) (x292 : Int) (x293 : Bool) (x294 : List T) :
    roundK c env lf 6 fi36 1 8 [] [2, 4, 5, 26, 27] (x36_8_0) L (f36_0_c l0 r284 r285 r286 r287 r288 x291 x292 x293 x294) = f36_0_s c lf l0 r284 r285 r286 r287 r288 (fun x291 x292 x293 x294 => L (f36_0_c l0 r284 r285 r286 r287 r288 x291 x292 x293 x294)) x291 x292 x293 x294 := by kernel_rfl
def f36_0 (c : Orc) (lf : Nat) (l0 : List T) (r284 : List T) (r285 : List T) (r286 : List T) (r287 : List T) (r288 : List T) : Nat → Int → Int → Bool → List T → Option (List T)
  | 0 => fun _ _ _ _ => none
  | n + 1 => fun x291 x292 x293 x294 => f36_0_s c lf l0 r284 r285 r286 r287 r288 (f36_0 c lf l0 r284 r285 r286 r287 r288 n) x291 x292 x293 x294
theorem f36_0_u (c : Orc) (lf : Nat) (l0 : List T) (r284 : List T) (r285 : List T) (r286 : List T) (r287 : List T) (r288 : List T) (n : Nat) (x291 : Int) (x292 : Int) (x293 : Bool) (x294 : List T) : f36_0 c lf l0 r284 r285 r286 r287 r288 (n + 1) x291 x292 x293 x294 = f36_0_s c lf l0 r284 r285 r286 r287 r288 (f36_0 c lf l0 r284 r285 r286 r287 r288 n) x291 x292 x293 x294 := rfl
theorem f36_0_eq (c : Orc) (lf : Nat) (l0 : List T) (r284 : List T) (r285 : List T) (r286 : List T) (r287 : List T) (r288 : List T) (n : Nat) (x291 : Int) (x292 : Int) (x293 : Bool) (x294 : List T) :
    lpK c env lf 6 fi36 1 8 [] [2, 4, 5, 26, 27] (x36_8_0) n (f36_0_c l0 r284 r285 r286 r287 r288 x291 x292 x293 x294) = f36_0 c lf l0 r284 r285 r286 r287 r288 n x291 x292 x293 x294 := by
  induction n generalizing x291 x292 x293 x294 with
  | zero => rfl
  | succ n ih =>
    refine (f36_0_round c lf l0 r284 r285 r286 r287 r288 _ x291 x292 x293 x294).trans ?_
    have e : (fun x291 x292 x293 x294 => lpK c env lf 6 fi36 1 8 [] [2, 4, 5, 26, 27] (x36_8_0) n (f36_0_c l0 r284 r285 r286 r287 r288 x291 x292 x293 x294)) = f36_0 c lf l0 r284 r285 r286 r287 r288 n := by funext x291 x292 x293 x294; exact ih x291 x292 x293 x294
    show f36_0_s c lf l0 r284 r285 r286 r287 r288 (fun x291 x292 x293 x294 => lpK c env lf 6 fi36 1 8 [] [2, 4, 5, 26, 27] (x36_8_0) n (f36_0_c l0 r284 r285 r286 r287 r288 x291 x292 x293 x294)) x291 x292 x293 x294 = _
    rw [e]; rfl
/-- loop.example/g00285/impl.GetInode -/
def f36_t (c : Orc) (lf : Nat) (lp0 : List T → List T → List T → List T → List T → List T → Int → Int → Bool → List T → Option (List T)) (l0 : List T) : Option (List T) :=
  (c 72 [T.st [T.sl l0, T.i .i64 0, T.b true]]).bind fun r284 =>
  (c 72 [T.st [T.sl l0, T.i .i64 (asI (T.cell (nth r284 1) 1)), T.b (asB (T.cell (nth r284 1) 2))]]).bind fun r285 =>
  (c 72 [T.st [T.sl l0, T.i .i64 (asI (T.cell (nth r285 1) 1)), T.b (asB (T.cell (nth r285 1) 2))]]).bind fun r286 =>
  (c 91 [T.st [T.sl l0, T.i .i64 (asI (T.cell (nth r286 1) 1)), T.b (asB (T.cell (nth r286 1) 2))]]).bind fun r287 =>
  bif nLe (asS (nth r287 0)).size LIM then
  (c 73 [T.st [T.sl l0, T.i .i64 (asI (T.cell (nth r287 1) 1)), T.b (asB (T.cell (nth r287 1) 2))]]).bind fun r288 =>
  (lp0 l0 r284 r285 r286 r287 r288 0 (asI (T.cell (nth r288 1) 1)) (asB (T.cell (nth r288 1) 2)) ([] : List T)).bind fun r297 =>
  (c 92 [T.st [T.sl (asL (nth r297 7)), T.i .i64 (asI (nth r297 8)), T.b (asB (nth r297 9))]]).bind fun r298 =>
  (c 74 [T.st [T.sl (asL (nth r297 7)), T.i .i64 (asI (T.cell (nth r298 1) 1)), T.b (asB (T.cell (nth r298 1) 2))]]).bind fun r299 =>
  bif !(asB (nth r299 0)) then
    some [T.st [T.i .i64 0, T.i .i64 0, T.i .i64 0, T.sl [], T.sl [], T.sl []], T.b false]
  else
    (c 35 [T.st [T.i .i64 (asI (nth r297 10)), T.i .i64 (asI (nth r297 11)), T.i .i64 (asI (nth r297 12)), T.sl (asL (nth r297 13)), T.sl (asL (nth r297 14)), T.sl (asL (nth r298 0))]]).bind fun r300 =>
    bif !(asB (nth r300 0)) then
      some [T.st [T.i .i64 0, T.i .i64 0, T.i .i64 0, T.sl [], T.sl [], T.sl []], T.b false]
    else
      some [T.st [T.i .i64 (asI (nth r297 10)), T.i .i64 (asI (nth r297 11)), T.i .i64 (asI (nth r297 12)), T.sl (asL (nth r297 13)), T.sl (asL (nth r297 14)), T.sl (asL (nth r298 0))], T.b true]
  else none
def f36 (c : Orc) (lf : Nat) (l0 : List T) : Option (List T) := f36_t c lf (fun (l0 : List T) (r284 : List T) (r285 : List T) (r286 : List T) (r287 : List T) (r288 : List T) (x291 : Int) (x292 : Int) (x293 : Bool) (x294 : List T) => f36_0 c lf l0 r284 r285 r286 r287 r288 lf x291 x292 x293 x294) l0
theorem f36_raw (c : Orc) (lf : Nat) (l0 : List T) : funK c env lf 6 fi36 [.sl l0] = f36_t c lf (fun (l0 : List T) (r284 : List T) (r285 : List T) (r286 : List T) (r287 : List T) (r288 : List T) (x291 : Int) (x292 : Int) (x293 : Bool) (x294 : List T) => lpK c env lf 6 fi36 1 8 [] [2, 4, 5, 26, 27] (x36_8_0) lf (f36_0_c l0 r284 r285 r286 r287 r288 x291 x292 x293 x294)) l0 := by kernel_rfl
theorem f36_eq (c : Orc) (lf : Nat) (l0 : List T) : funK c env lf 6 fi36 [.sl l0] = f36 c lf l0 := by
  refine (f36_raw c lf l0).trans ?_
  have e0 : (fun (l0 : List T) (r284 : List T) (r285 : List T) (r286 : List T) (r287 : List T) (r288 : List T) (x291 : Int) (x292 : Int) (x293 : Bool) (x294 : List T) => lpK c env lf 6 fi36 1 8 [] [2, 4, 5, 26, 27] (x36_8_0) lf (f36_0_c l0 r284 r285 r286 r287 r288 x291 x292 x293 x294)) = (fun (l0 : List T) (r284 : List T) (r285 : List T) (r286 : List T) (r287 : List T) (r288 : List T) (x291 : Int) (x292 : Int) (x293 : Bool) (x294 : List T) => f36_0 c lf l0 r284 r285 r286 r287 r288 lf x291 x292 x293 x294) := by funext l0 r284 r285 r286 r287 r288 x291 x292 x293 x294; exact f36_0_eq c lf l0 r284 r285 r286 r287 r288 lf x291 x292 x293 x294
  rw [e0]; rfl
/-- loop.example/g00285/impl.EntOf, the loop at region 2. -/
def f37_0_s (c : Orc) (lf : Nat) (l0_4 : List T) (s1 : ByteArray) (L : Int → Option (List T)) (x303 : Int) : Option (List T) :=
  bif iLt x303 (l0_4.length : Int) then
    bif inR x303 l0_4.length then
    bif (asS (T.cell (l0_4.getD x303.toNat T.u) 0)).toList == s1.toList then
      some [T.i .i64 0, T.i .i64 (asI (T.cell (l0_4.getD x303.toNat T.u) 1))]
    else
      L (IntKind.wrap .i64 (x303 + 1))
    else none
  else
    some [T.i .i64 1]
def f37_0_c (l0_4 : List T) (s1 : ByteArray) (x303 : Int) : CSt := ⟨[.s s1, .ro 0 true [.s, .i .i64] l0_4, .i .i64 (l0_4.length : Int), .i .i64 x303], [.dead, .dead, .dead, .dead, .dead, .dead, .dead]⟩
theorem f37_0_round (c : Orc) (lf : Nat) (l0_4 : List T) (s1 : ByteArray) (L : CSt → Option (List T)) (x303 : Int) :
    roundK c env lf 6 fi37 7 2 [] [1, 8, 9, 10] (x37_2_0) L (f37_0_c l0_4 s1 x303) = f37_0_s c lf l0_4 s1 (fun x303 => L (f37_0_c l0_4 s1 x303)) x303 := by kernel_rfl
def f37_0 (c : Orc) (lf : Nat) (l0_4 : List T) (s1 : ByteArray) : Nat → Int → Option (List T)
  | 0 => fun _ => none
  | n + 1 => fun x303 => f37_0_s c lf l0_4 s1 (f37_0 c lf l0_4 s1 n) x303
theorem f37_0_u (c : Orc) (lf : Nat) (l0_4 : List T) (s1 : ByteArray) (n : Nat) (x303 : Int) : f37_0 c lf l0_4 s1 (n + 1) x303 = f37_0_s c lf l0_4 s1 (f37_0 c lf l0_4 s1 n) x303 := rfl
theorem f37_0_eq (c : Orc) (lf : Nat) (l0_4 : List T) (s1 : ByteArray) (n : Nat) (x303 : Int) :
    lpK c env lf 6 fi37 7 2 [] [1, 8, 9, 10] (x37_2_0) n (f37_0_c l0_4 s1 x303) = f37_0 c lf l0_4 s1 n x303 := by
  induction n generalizing x303 with
  | zero => rfl
  | succ n ih =>
    refine (f37_0_round c lf l0_4 s1 _ x303).trans ?_
    have e : (fun x303 => lpK c env lf 6 fi37 7 2 [] [1, 8, 9, 10] (x37_2_0) n (f37_0_c l0_4 s1 x303)) = f37_0 c lf l0_4 s1 n := by funext x303; exact ih x303
    show f37_0_s c lf l0_4 s1 (fun x303 => lpK c env lf 6 fi37 7 2 [] [1, 8, 9, 10] (x37_2_0) n (f37_0_c l0_4 s1 x303)) x303 = _
    rw [e]; rfl
/-- loop.example/g00285/impl.EntOf -/
def f37_t (c : Orc) (lf : Nat) (lp0 : List T → ByteArray → Int → Option (List T)) (n0_0 : Int) (n0_1 : Int) (n0_2 : Int) (l0_3 : List T) (l0_4 : List T) (l0_5 : List T) (s1 : ByteArray) : Option (List T) :=
  (lp0 l0_4 s1 0).bind fun r304 =>
  bif asI (nth r304 0) == 0 then
    some [T.i .i64 (asI (nth r304 1))]
  else
    some [T.i .i64 0]
def f37 (c : Orc) (lf : Nat) (n0_0 : Int) (n0_1 : Int) (n0_2 : Int) (l0_3 : List T) (l0_4 : List T) (l0_5 : List T) (s1 : ByteArray) : Option (List T) := f37_t c lf (fun (l0_4 : List T) (s1 : ByteArray) (x303 : Int) => f37_0 c lf l0_4 s1 lf x303) n0_0 n0_1 n0_2 l0_3 l0_4 l0_5 s1
theorem f37_raw (c : Orc) (lf : Nat) (n0_0 : Int) (n0_1 : Int) (n0_2 : Int) (l0_3 : List T) (l0_4 : List T) (l0_5 : List T) (s1 : ByteArray) : funK c env lf 6 fi37 [.st [.i .i64 n0_0, .i .i64 n0_1, .i .i64 n0_2, .sl l0_3, .sl l0_4, .sl l0_5], .s s1] = f37_t c lf (fun (l0_4 : List T) (s1 : ByteArray) (x303 : Int) => lpK c env lf 6 fi37 7 2 [] [1, 8, 9, 10] (x37_2_0) lf (f37_0_c l0_4 s1 x303)) n0_0 n0_1 n0_2 l0_3 l0_4 l0_5 s1 := by kernel_rfl
theorem f37_eq (c : Orc) (lf : Nat) (n0_0 : Int) (n0_1 : Int) (n0_2 : Int) (l0_3 : List T) (l0_4 : List T) (l0_5 : List T) (s1 : ByteArray) : funK c env lf 6 fi37 [.st [.i .i64 n0_0, .i .i64 n0_1, .i .i64 n0_2, .sl l0_3, .sl l0_4, .sl l0_5], .s s1] = f37 c lf n0_0 n0_1 n0_2 l0_3 l0_4 l0_5 s1 := by
  refine (f37_raw c lf n0_0 n0_1 n0_2 l0_3 l0_4 l0_5 s1).trans ?_
  have e0 : (fun (l0_4 : List T) (s1 : ByteArray) (x303 : Int) => lpK c env lf 6 fi37 7 2 [] [1, 8, 9, 10] (x37_2_0) lf (f37_0_c l0_4 s1 x303)) = (fun (l0_4 : List T) (s1 : ByteArray) (x303 : Int) => f37_0 c lf l0_4 s1 lf x303) := by funext l0_4 s1 x303; exact f37_0_eq c lf l0_4 s1 lf x303
  rw [e0]; rfl
/-- slices.Equal[[]byte,byte], the loop at region 4. -/
def f93_0_s (c : Orc) (lf : Nat) (l0 : List T) (l1 : List T) (L : Int → Option (List T)) (x307 : Int) : Option (List T) :=
  bif iLt x307 (l0.length : Int) then
    bif inR x307 l0.length then
    bif inR x307 l1.length then
    bif (asI (l0.getD x307.toNat T.u)) != (asI (l1.getD x307.toNat T.u)) then
      some [T.i .i64 0, T.b false]
    else
      L (IntKind.wrap .i64 (x307 + 1))
    else none
    else none
  else
    some [T.i .i64 1]
def f93_0_c (l0 : List T) (l1 : List T) (x307 : Int) : CSt := ⟨[.ro 0 false [.i .u8] l0, .ro 0 false [.i .u8] l1, .i .i64 (l0.length : Int), .i .i64 x307], [.dead, .dead]⟩
theorem f93_0_round (c : Orc) (lf : Nat) (l0 : List T) (l1 : List T) (L : CSt → Option (List T)) (x307 : Int) :
    roundK c env lf 6 fi93 2 4 [] [0, 1, 12, 13] (x93_4_0) L (f93_0_c l0 l1 x307) = f93_0_s c lf l0 l1 (fun x307 => L (f93_0_c l0 l1 x307)) x307 := by kernel_rfl
def f93_0 (c : Orc) (lf : Nat) (l0 : List T) (l1 : List T) : Nat → Int → Option (List T)
  | 0 => fun _ => none
  | n + 1 => fun x307 => f93_0_s c lf l0 l1 (f93_0 c lf l0 l1 n) x307
theorem f93_0_u (c : Orc) (lf : Nat) (l0 : List T) (l1 : List T) (n : Nat) (x307 : Int) : f93_0 c lf l0 l1 (n + 1) x307 = f93_0_s c lf l0 l1 (f93_0 c lf l0 l1 n) x307 := rfl
theorem f93_0_eq (c : Orc) (lf : Nat) (l0 : List T) (l1 : List T) (n : Nat) (x307 : Int) :
    lpK c env lf 6 fi93 2 4 [] [0, 1, 12, 13] (x93_4_0) n (f93_0_c l0 l1 x307) = f93_0 c lf l0 l1 n x307 := by
  induction n generalizing x307 with
  | zero => rfl
  | succ n ih =>
    refine (f93_0_round c lf l0 l1 _ x307).trans ?_
    have e : (fun x307 => lpK c env lf 6 fi93 2 4 [] [0, 1, 12, 13] (x93_4_0) n (f93_0_c l0 l1 x307)) = f93_0 c lf l0 l1 n := by funext x307; exact ih x307
    show f93_0_s c lf l0 l1 (fun x307 => lpK c env lf 6 fi93 2 4 [] [0, 1, 12, 13] (x93_4_0) n (f93_0_c l0 l1 x307)) x307 = _
    rw [e]; rfl
/-- slices.Equal[[]byte,byte] -/
def f93_t (c : Orc) (lf : Nat) (lp0 : List T → List T → Int → Option (List T)) (l0 : List T) (l1 : List T) : Option (List T) :=
  bif (l0.length : Int) != (l1.length : Int) then
    some [T.b false]
  else
    (lp0 l0 l1 0).bind fun r308 =>
    bif asI (nth r308 0) == 0 then
      some [T.b (asB (nth r308 1))]
    else
      some [T.b true]
def f93 (c : Orc) (lf : Nat) (l0 : List T) (l1 : List T) : Option (List T) := f93_t c lf (fun (l0 : List T) (l1 : List T) (x307 : Int) => f93_0 c lf l0 l1 lf x307) l0 l1
theorem f93_raw (c : Orc) (lf : Nat) (l0 : List T) (l1 : List T) : funK c env lf 6 fi93 [.sl l0, .sl l1] = f93_t c lf (fun (l0 : List T) (l1 : List T) (x307 : Int) => lpK c env lf 6 fi93 2 4 [] [0, 1, 12, 13] (x93_4_0) lf (f93_0_c l0 l1 x307)) l0 l1 := by kernel_rfl
theorem f93_eq (c : Orc) (lf : Nat) (l0 : List T) (l1 : List T) : funK c env lf 6 fi93 [.sl l0, .sl l1] = f93 c lf l0 l1 := by
  refine (f93_raw c lf l0 l1).trans ?_
  have e0 : (fun (l0 : List T) (l1 : List T) (x307 : Int) => lpK c env lf 6 fi93 2 4 [] [0, 1, 12, 13] (x93_4_0) lf (f93_0_c l0 l1 x307)) = (fun (l0 : List T) (l1 : List T) (x307 : Int) => f93_0 c lf l0 l1 lf x307) := by funext l0 l1 x307; exact f93_0_eq c lf l0 l1 lf x307
  rw [e0]; rfl
/-- slices.Equal[[]loop.example/g00285/impl.Ent,loop.example/g00285/impl.Ent], the loop at region 4. -/
def f94_0_s (c : Orc) (lf : Nat) (l0 : List T) (l1 : List T) (L : Int → Option (List T)) (x311 : Int) : Option (List T) :=
  bif iLt x311 (l0.length : Int) then
    bif inR x311 l0.length then
    bif inR x311 l1.length then
    bif !(((asS (T.cell (l0.getD x311.toNat T.u) 0)) == (asS (T.cell (l1.getD x311.toNat T.u) 0))) && (((asI (T.cell (l0.getD x311.toNat T.u) 1)) == (asI (T.cell (l1.getD x311.toNat T.u) 1))) && (true))) then
      some [T.i .i64 0, T.b false]
    else
      L (IntKind.wrap .i64 (x311 + 1))
    else none
    else none
  else
    some [T.i .i64 1]
def f94_0_c (l0 : List T) (l1 : List T) (x311 : Int) : CSt := ⟨[.ro 0 true [.s, .i .i64] l0, .ro 0 true [.s, .i .i64] l1, .i .i64 (l0.length : Int), .i .i64 x311], [.dead, .dead]⟩
theorem f94_0_round (c : Orc) (lf : Nat) (l0 : List T) (l1 : List T) (L : CSt → Option (List T)) (x311 : Int) :
    roundK c env lf 6 fi94 2 4 [] [0, 1, 12, 13] (x94_4_0) L (f94_0_c l0 l1 x311) = f94_0_s c lf l0 l1 (fun x311 => L (f94_0_c l0 l1 x311)) x311 := by kernel_rfl
def f94_0 (c : Orc) (lf : Nat) (l0 : List T) (l1 : List T) : Nat → Int → Option (List T)
  | 0 => fun _ => none
  | n + 1 => fun x311 => f94_0_s c lf l0 l1 (f94_0 c lf l0 l1 n) x311
theorem f94_0_u (c : Orc) (lf : Nat) (l0 : List T) (l1 : List T) (n : Nat) (x311 : Int) : f94_0 c lf l0 l1 (n + 1) x311 = f94_0_s c lf l0 l1 (f94_0 c lf l0 l1 n) x311 := rfl
theorem f94_0_eq (c : Orc) (lf : Nat) (l0 : List T) (l1 : List T) (n : Nat) (x311 : Int) :
    lpK c env lf 6 fi94 2 4 [] [0, 1, 12, 13] (x94_4_0) n (f94_0_c l0 l1 x311) = f94_0 c lf l0 l1 n x311 := by
  induction n generalizing x311 with
  | zero => rfl
  | succ n ih =>
    refine (f94_0_round c lf l0 l1 _ x311).trans ?_
    have e : (fun x311 => lpK c env lf 6 fi94 2 4 [] [0, 1, 12, 13] (x94_4_0) n (f94_0_c l0 l1 x311)) = f94_0 c lf l0 l1 n := by funext x311; exact ih x311
    show f94_0_s c lf l0 l1 (fun x311 => lpK c env lf 6 fi94 2 4 [] [0, 1, 12, 13] (x94_4_0) n (f94_0_c l0 l1 x311)) x311 = _
    rw [e]; rfl
/-- slices.Equal[[]loop.example/g00285/impl.Ent,loop.example/g00285/impl.Ent] -/
def f94_t (c : Orc) (lf : Nat) (lp0 : List T → List T → Int → Option (List T)) (l0 : List T) (l1 : List T) : Option (List T) :=
  bif (l0.length : Int) != (l1.length : Int) then
    some [T.b false]
  else
    (lp0 l0 l1 0).bind fun r312 =>
    bif asI (nth r312 0) == 0 then
      some [T.b (asB (nth r312 1))]
    else
      some [T.b true]
def f94 (c : Orc) (lf : Nat) (l0 : List T) (l1 : List T) : Option (List T) := f94_t c lf (fun (l0 : List T) (l1 : List T) (x311 : Int) => f94_0 c lf l0 l1 lf x311) l0 l1
theorem f94_raw (c : Orc) (lf : Nat) (l0 : List T) (l1 : List T) : funK c env lf 6 fi94 [.sl l0, .sl l1] = f94_t c lf (fun (l0 : List T) (l1 : List T) (x311 : Int) => lpK c env lf 6 fi94 2 4 [] [0, 1, 12, 13] (x94_4_0) lf (f94_0_c l0 l1 x311)) l0 l1 := by kernel_rfl
theorem f94_eq (c : Orc) (lf : Nat) (l0 : List T) (l1 : List T) : funK c env lf 6 fi94 [.sl l0, .sl l1] = f94 c lf l0 l1 := by
  refine (f94_raw c lf l0 l1).trans ?_
  have e0 : (fun (l0 : List T) (l1 : List T) (x311 : Int) => lpK c env lf 6 fi94 2 4 [] [0, 1, 12, 13] (x94_4_0) lf (f94_0_c l0 l1 x311)) = (fun (l0 : List T) (l1 : List T) (x311 : Int) => f94_0 c lf l0 l1 lf x311) := by funext l0 l1 x311; exact f94_0_eq c lf l0 l1 lf x311
  rw [e0]; rfl
/-- slices.Equal[[]loop.example/g00285/impl.Attr,loop.example/g00285/impl.Attr], the loop at region 4. -/
def f95_0_s (c : Orc) (lf : Nat) (l0 : List T) (l1 : List T) (L : Int → Option (List T)) (x315 : Int) : Option (List T) :=
  bif iLt x315 (l0.length : Int) then
    bif inR x315 l0.length then
    bif inR x315 l1.length then
    bif !(((asS (T.cell (l0.getD x315.toNat T.u) 0)) == (asS (T.cell (l1.getD x315.toNat T.u) 0))) && (((asS (T.cell (l0.getD x315.toNat T.u) 1)) == (asS (T.cell (l1.getD x315.toNat T.u) 1))) && (true))) then
      some [T.i .i64 0, T.b false]
    else
      L (IntKind.wrap .i64 (x315 + 1))
    else none
    else none
  else
    some [T.i .i64 1]
def f95_0_c (l0 : List T) (l1 : List T) (x315 : Int) : CSt := ⟨[.ro 0 true [.s, .s] l0, .ro 0 true [.s, .s] l1, .i .i64 (l0.length : Int), .i .i64 x315], [.dead, .dead]⟩
theorem f95_0_round (c : Orc) (lf : Nat) (l0 : List T) (l1 : List T) (L : CSt → Option (List T)) (x315 : Int) :
    roundK c env lf 6 fi95 2 4 [] [0, 1, 12, 13] (x95_4_0) L (f95_0_c l0 l1 x315) = f95_0_s c lf l0 l1 (fun x315 => L (f95_0_c l0 l1 x315)) x315 := by kernel_rfl
def f95_0 (c : Orc) (lf : Nat) (l0 : List T) (l1 : List T) : Nat → Int → Option (List T)
  | 0 => fun _ => none
  | n + 1 => fun x315 => f95_0_s c lf l0 l1 (f95_0 c lf l0 l1 n) x315
theorem f95_0_u (c : Orc) (lf : Nat) (l0 : List T) (l1 : List T) (n : Nat) (x315 : Int) : f95_0 c lf l0 l1 (n + 1) x315 = f95_0_s c lf l0 l1 (f95_0 c lf l0 l1 n) x315 := rfl
theorem f95_0_eq (c : Orc) (lf : Nat) (l0 : List T) (l1 : List T) (n : Nat) (x315 : Int) :
    lpK c env lf 6 fi95 2 4 [] [0, 1, 12, 13] (x95_4_0) n (f95_0_c l0 l1 x315) = f95_0 c lf l0 l1 n x315 := by
  induction n generalizing x315 with
  | zero => rfl
  | succ n ih =>
    refine (f95_0_round c lf l0 l1 _ x315).trans ?_
    have e : (fun x315 => lpK c env lf 6 fi95 2 4 [] [0, 1, 12, 13] (x95_4_0) n (f95_0_c l0 l1 x315)) = f95_0 c lf l0 l1 n := by funext x315; exact ih x315
    show f95_0_s c lf l0 l1 (fun x315 => lpK c env lf 6 fi95 2 4 [] [0, 1, 12, 13] (x95_4_0) n (f95_0_c l0 l1 x315)) x315 = _
    rw [e]; rfl
/-- slices.Equal[[]loop.example/g00285/impl.Attr,loop.example/g00285/impl.Attr] -/
def f95_t (c : Orc) (lf : Nat) (lp0 : List T → List T → Int → Option (List T)) (l0 : List T) (l1 : List T) : Option (List T) :=
  bif (l0.length : Int) != (l1.length : Int) then
    some [T.b false]
  else
    (lp0 l0 l1 0).bind fun r316 =>
    bif asI (nth r316 0) == 0 then
      some [T.b (asB (nth r316 1))]
    else
      some [T.b true]
def f95 (c : Orc) (lf : Nat) (l0 : List T) (l1 : List T) : Option (List T) := f95_t c lf (fun (l0 : List T) (l1 : List T) (x315 : Int) => f95_0 c lf l0 l1 lf x315) l0 l1
theorem f95_raw (c : Orc) (lf : Nat) (l0 : List T) (l1 : List T) : funK c env lf 6 fi95 [.sl l0, .sl l1] = f95_t c lf (fun (l0 : List T) (l1 : List T) (x315 : Int) => lpK c env lf 6 fi95 2 4 [] [0, 1, 12, 13] (x95_4_0) lf (f95_0_c l0 l1 x315)) l0 l1 := by kernel_rfl
theorem f95_eq (c : Orc) (lf : Nat) (l0 : List T) (l1 : List T) : funK c env lf 6 fi95 [.sl l0, .sl l1] = f95 c lf l0 l1 := by
  refine (f95_raw c lf l0 l1).trans ?_
  have e0 : (fun (l0 : List T) (l1 : List T) (x315 : Int) => lpK c env lf 6 fi95 2 4 [] [0, 1, 12, 13] (x95_4_0) lf (f95_0_c l0 l1 x315)) = (fun (l0 : List T) (l1 : List T) (x315 : Int) => f95_0 c lf l0 l1 lf x315) := by funext l0 l1 x315; exact f95_0_eq c lf l0 l1 lf x315
  rw [e0]; rfl
/-- loop.example/g00285/impl.SameInode -/
def f38_t (c : Orc) (lf : Nat) (n0_0 : Int) (n0_1 : Int) (n0_2 : Int) (l0_3 : List T) (l0_4 : List T) (l0_5 : List T) (n1_0 : Int) (n1_1 : Int) (n1_2 : Int) (l1_3 : List T) (l1_4 : List T) (l1_5 : List T) : Option (List T) :=
  bif n0_0 == n1_0 then
    bif n0_1 == n1_1 then
      bif n0_2 == n1_2 then
        (c 93 [T.sl l0_3, T.sl l1_3]).bind fun r317 =>
        bif asB (nth r317 0) then
          (c 94 [T.sl l0_4, T.sl l1_4]).bind fun r318 =>
          bif asB (nth r318 0) then
            (c 95 [T.sl l0_5, T.sl l1_5]).bind fun r319 =>
            some [T.b (asB (nth r319 0))]
          else
            some [T.b false]
        else
          some [T.b false]
      else
        some [T.b false]
    else
      some [T.b false]
  else
    some [T.b false]
def f38 (c : Orc) (lf : Nat) (n0_0 : Int) (n0_1 : Int) (n0_2 : Int) (l0_3 : List T) (l0_4 : List T) (l0_5 : List T) (n1_0 : Int) (n1_1 : Int) (n1_2 : Int) (l1_3 : List T) (l1_4 : List T) (l1_5 : List T) : Option (List T) := f38_t c lf n0_0 n0_1 n0_2 l0_3 l0_4 l0_5 n1_0 n1_1 n1_2 l1_3 l1_4 l1_5
theorem f38_raw (c : Orc) (lf : Nat) (n0_0 : Int) (n0_1 : Int) (n0_2 : Int) (l0_3 : List T) (l0_4 : List T) (l0_5 : List T) (n1_0 : Int) (n1_1 : Int) (n1_2 : Int) (l1_3 : List T) (l1_4 : List T) (l1_5 : List T) : funK c env lf 6 fi38 [.st [.i .i64 n0_0, .i .i64 n0_1, .i .i64 n0_2, .sl l0_3, .sl l0_4, .sl l0_5], .st [.i .i64 n1_0, .i .i64 n1_1, .i .i64 n1_2, .sl l1_3, .sl l1_4, .sl l1_5]] = f38_t c lf n0_0 n0_1 n0_2 l0_3 l0_4 l0_5 n1_0 n1_1 n1_2 l1_3 l1_4 l1_5 := by kernel_rfl
theorem f38_eq (c : Orc) (lf : Nat) (n0_0 : Int) (n0_1 : Int) (n0_2 : Int) (l0_3 : List T) (l0_4 : List T) (l0_5 : List T) (n1_0 : Int) (n1_1 : Int) (n1_2 : Int) (l1_3 : List T) (l1_4 : List T) (l1_5 : List T) : funK c env lf 6 fi38 [.st [.i .i64 n0_0, .i .i64 n0_1, .i .i64 n0_2, .sl l0_3, .sl l0_4, .sl l0_5], .st [.i .i64 n1_0, .i .i64 n1_1, .i .i64 n1_2, .sl l1_3, .sl l1_4, .sl l1_5]] = f38 c lf n0_0 n0_1 n0_2 l0_3 l0_4 l0_5 n1_0 n1_1 n1_2 l1_3 l1_4 l1_5 := by
  refine (f38_raw c lf n0_0 n0_1 n0_2 l0_3 l0_4 l0_5 n1_0 n1_1 n1_2 l1_3 l1_4 l1_5).trans ?_
  rfl
/-- loop.example/g00285/laws.FnInodes, the loop at region 9. -/
def f5_0_s (c : Orc) (lf : Nat) (r334 : List T) (r335 : List T) (r338 : List T) (L : Int → Option (List T)) (x340 : Int) : Option (List T) :=
  bif iLt x340 ((asL (T.cell (nth r334 0) 4)).length : Int) then
    bif inR x340 ((asL (T.cell (nth r334 0) 4)).length) then
    (c 37 [T.st [T.i .i64 (asI (T.cell (nth r334 0) 0)), T.i .i64 (asI (T.cell (nth r334 0) 1)), T.i .i64 (asI (T.cell (nth r334 0) 2)), T.sl (asL (T.cell (nth r334 0) 3)), T.sl (asL (T.cell (nth r334 0) 4)), T.sl (asL (T.cell (nth r334 0) 5))], T.s (asS (T.cell ((asL (T.cell (nth r334 0) 4)).getD x340.toNat T.u) 0))]).bind fun r341 =>
    bif inR x340 ((asL (T.cell (nth r334 0) 4)).length) then
    bif (asI (nth r341 0)) != (asI (T.cell ((asL (T.cell (nth r334 0) 4)).getD x340.toNat T.u) 1)) then
      some [T.i .i64 0, T.b false]
    else
      L (IntKind.wrap .i64 (x340 + 1))
    else none
    else none
  else
    some [T.i .i64 1, T.b (asB (nth r338 1)), T.i .i64 (asI (T.cell (nth r334 0) 0)), T.i .i64 (asI (T.cell (nth r334 0) 1)), T.i .i64 (asI (T.cell (nth r334 0) 2)), T.sl (asL (T.cell (nth r334 0) 3)), T.sl (asL (T.cell (nth r334 0) 4)), T.sl (asL (T.cell (nth r334 0) 5)), T.sl (asL (nth r335 0)), T.i .i64 (asI (T.cell (nth r338 0) 0)), T.i .i64 (asI (T.cell (nth r338 0) 1)), T.i .i64 (asI (T.cell (nth r338 0) 2)), T.sl (asL (T.cell (nth r338 0) 3)), T.sl (asL (T.cell (nth r338 0) 4)), T.sl (asL (T.cell (nth r338 0) 5))]
def f5_0_c (r334 : List T) (r335 : List T) (r338 : List T) (x340 : Int) : CSt := ⟨[.bp 1 0, .rf 5 [] 0 none, .bp 6 0, .b (asB (nth r338 1)), .i .i64 x340], [.dead, .box [.i .i64 (asI (T.cell (nth r334 0) 0)), .i .i64 (asI (T.cell (nth r334 0) 1)), .i .i64 (asI (T.cell (nth r334 0) 2)), .rf 2 [] 0 none, .rf 3 [] 0 none, .rf 4 [] 0 none], .row false [.i .u8] (asL (T.cell (nth r334 0) 3)) 0 false, .row true [.s, .i .i64] (asL (T.cell (nth r334 0) 4)) 0 false, .row true [.s, .s] (asL (T.cell (nth r334 0) 5)) 0 false, .row false [.i .u8] (asL (nth r335 0)) 0 false, .box [.i .i64 (asI (T.cell (nth r338 0) 0)), .i .i64 (asI (T.cell (nth r338 0) 1)), .i .i64 (asI (T.cell (nth r338 0) 2)), .rf 7 [] 0 none, .rf 8 [] 0 none, .rf 9 [] 0 none], .row false [.i .u8] (asL (T.cell (nth r338 0) 3)) 0 false, .row true [.s, .i .i64] (asL (T.cell (nth r338 0) 4)) 0 false, .row true [.s, .s] (asL (T.cell (nth r338 0) 5)) 0 false]⟩
theorem f5_0_round (c : Orc) (lf : Nat) (r334 : List T) (r335 : List T) (r338 : List T) (L : CSt → Option (List T)) (x340 : Int) :
    roundK c env lf 6 fi5 1 9 [] [3, 4, 5, 6, 7] (x5_9_0) L (f5_0_c r334 r335 r338 x340) = f5_0_s c lf r334 r335 r338 (fun x340 => L (f5_0_c r334 r335 r338 x340)) x340 := by kernel_rfl
def f5_0 (c : Orc) (lf : Nat) (r334 : List T) (r335 : List T) (r338 : List T) : Nat → Int → Option (List T)
  | 0 => fun _ => none
  | n + 1 => fun x340 => f5_0_s c lf r334 r335 r338 (f5_0 c lf r334 r335 r338 n) x340
theorem f5_0_u (c : Orc) (lf : Nat) (r334 : List T) (r335 : List T) (r338 : List T) (n : Nat) (x340 : Int) : f5_0 c lf r334 r335 r338 (n + 1) x340 = f5_0_s c lf r334 r335 r338 (f5_0 c lf r334 r335 r338 n) x340 := rfl
theorem f5_0_eq (c : Orc) (lf : Nat) (r334 : List T) (r335 : List T) (r338 : List T) (n : Nat) (x340 : Int) :
    lpK c env lf 6 fi5 1 9 [] [3, 4, 5, 6, 7] (x5_9_0) n (f5_0_c r334 r335 r338 x340) = f5_0 c lf r334 r335 r338 n x340 := by
  induction n generalizing x340 with
  | zero => rfl
  | succ n ih =>
    refine (f5_0_round c lf r334 r335 r338 _ x340).trans ?_
    have e : (fun x340 => lpK c env lf 6 fi5 1 9 [] [3, 4, 5, 6, 7] (x5_9_0) n (f5_0_c r334 r335 r338 x340)) = f5_0 c lf r334 r335 r338 n := by funext x340; exact ih x340
    show f5_0_s c lf r334 r335 r338 (fun x340 => lpK c env lf 6 fi5 1 9 [] [3, 4, 5, 6, 7] (x5_9_0) n (f5_0_c r334 r335 r338 x340)) x340 = _
    rw [e]; rfl
/-- loop.example/g00285/laws.FnInodes -/
def f5_t (c : Orc) (lf : Nat) (lp0 : List T → List T → List T → Int → Option (List T)) (l0 : List T) : Option (List T) :=
  (c 13 [T.sl l0]).bind fun r333 =>
  bif asB (nth r333 0) then
    some [T.b true]
  else
    (c 32 [T.sl l0]).bind fun r334 =>
    (c 33 [T.st [T.i .i64 (asI (T.cell (nth r334 0) 0)), T.i .i64 (asI (T.cell (nth r334 0) 1)), T.i .i64 (asI (T.cell (nth r334 0) 2)), T.sl (asL (T.cell (nth r334 0) 3)), T.sl (asL (T.cell (nth r334 0) 4)), T.sl (asL (T.cell (nth r334 0) 5))]]).bind fun r335 =>
    (c 34 [T.st [T.i .i64 (asI (T.cell (nth r334 0) 0)), T.i .i64 (asI (T.cell (nth r334 0) 1)), T.i .i64 (asI (T.cell (nth r334 0) 2)), T.sl (asL (T.cell (nth r334 0) 3)), T.sl (asL (T.cell (nth r334 0) 4)), T.sl (asL (T.cell (nth r334 0) 5))]]).bind fun r336 =>
    bif !(asB (nth r336 0)) then
      bif ((asL (nth r335 0)).length : Int) == 0 then
        (c 35 [T.st [T.i .i64 (asI (T.cell (nth r334 0) 0)), T.i .i64 (asI (T.cell (nth r334 0) 1)), T.i .i64 (asI (T.cell (nth r334 0) 2)), T.sl (asL (T.cell (nth r334 0) 3)), T.sl (asL (T.cell (nth r334 0) 4)), T.sl (asL (T.cell (nth r334 0) 5))]]).bind fun r337 =>
        some [T.b (!(asB (nth r337 0)))]
      else
        some [T.b false]
    else
      (c 36 [T.sl (asL (nth r335 0))]).bind fun r338 =>
      (lp0 r334 r335 r338 0).bind fun r342 =>
      bif asI (nth r342 0) == 0 then
        some [T.b (asB (nth r342 1))]
      else
        bif asB (nth r342 1) then
          (c 38 [T.st [T.i .i64 (asI (nth r342 2)), T.i .i64 (asI (nth r342 3)), T.i .i64 (asI (nth r342 4)), T.sl (asL (nth r342 5)), T.sl (asL (nth r342 6)), T.sl (asL (nth r342 7))], T.st [T.i .i64 (asI (nth r342 9)), T.i .i64 (asI (nth r342 10)), T.i .i64 (asI (nth r342 11)), T.sl (asL (nth r342 12)), T.sl (asL (nth r342 13)), T.sl (asL (nth r342 14))]]).bind fun r343 =>
          bif asB (nth r343 0) then
            (c 35 [T.st [T.i .i64 (asI (nth r342 2)), T.i .i64 (asI (nth r342 3)), T.i .i64 (asI (nth r342 4)), T.sl (asL (nth r342 5)), T.sl (asL (nth r342 6)), T.sl (asL (nth r342 7))]]).bind fun r344 =>
            bif asB (nth r344 0) then
              bif iLe ((asL (nth r342 8)).length : Int) 380 then
                (c 37 [T.st [T.i .i64 (asI (nth r342 2)), T.i .i64 (asI (nth r342 3)), T.i .i64 (asI (nth r342 4)), T.sl (asL (nth r342 5)), T.sl (asL (nth r342 6)), T.sl (asL (nth r342 7))], T.s (⟨#[122, 122]⟩ : ByteArray)]).bind fun r345 =>
                some [T.b ((asI (nth r345 0)) == 0)]
              else
                some [T.b false]
            else
              some [T.b false]
          else
            some [T.b false]
        else
          some [T.b false]
def f5 (c : Orc) (lf : Nat) (l0 : List T) : Option (List T) := f5_t c lf (fun (r334 : List T) (r335 : List T) (r338 : List T) (x340 : Int) => f5_0 c lf r334 r335 r338 lf x340) l0
theorem f5_raw (c : Orc) (lf : Nat) (l0 : List T) : funK c env lf 6 fi5 [.sl l0] = f5_t c lf (fun (r334 : List T) (r335 : List T) (r338 : List T) (x340 : Int) => lpK c env lf 6 fi5 1 9 [] [3, 4, 5, 6, 7] (x5_9_0) lf (f5_0_c r334 r335 r338 x340)) l0 := by kernel_rfl
theorem f5_eq (c : Orc) (lf : Nat) (l0 : List T) : funK c env lf 6 fi5 [.sl l0] = f5 c lf l0 := by
  refine (f5_raw c lf l0).trans ?_
  have e0 : (fun (r334 : List T) (r335 : List T) (r338 : List T) (x340 : Int) => lpK c env lf 6 fi5 1 9 [] [3, 4, 5, 6, 7] (x5_9_0) lf (f5_0_c r334 r335 r338 x340)) = (fun (r334 : List T) (r335 : List T) (r338 : List T) (x340 : Int) => f5_0 c lf r334 r335 r338 lf x340) := by funext r334 r335 r338 x340; exact f5_0_eq c lf r334 r335 r338 lf x340
  rw [e0]; rfl
end Go.Proofs.Ytockabaoaneplaa.T
