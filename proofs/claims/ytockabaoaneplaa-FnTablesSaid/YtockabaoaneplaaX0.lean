/- What functions of the law FnTables come to, in trees; no condition. -/
import Derived.Test.YtockabaoaneplaaRows
import Derived.Test.YtockabaoaneplaaV4
import Derived.KernelRfl
set_option linter.unusedVariables false
set_option linter.constructorNameAsVariable false
set_option linter.unusedSimpArgs false
set_option linter.unnecessarySimpa false
namespace Go.Proofs.Ytockabaoaneplaa.T
open Go Go.Proofs.YtockabaoaneplaaV
def tyTab : List (Nat × Ti) := [
  (3, ⟨false, [.i .i64], .o⟩),
  (4, ⟨false, [.b], .o⟩),
  (5, ⟨false, [.i .u8], .o⟩),
  (9, ⟨false, [.s], .o⟩),
  (22, ⟨false, [.sl false [.i .u8]], .sl 5⟩),
  (42, ⟨false, [.sl true [.i .i64, .s, .b, .i .i64, .i .i64]], .sl 91⟩),
  (44, ⟨true, [.i .i64, .sl true [.i .i64, .s, .b, .i .i64, .i .i64]], .st [(0, 3), (1, 42)]⟩),
  (91, ⟨true, [.i .i64, .s, .b, .i .i64, .i .i64], .st [(0, 3), (1, 9), (2, 4), (3, 3), (4, 3)]⟩),
  (101, ⟨false, [.o], .o⟩),
  (107, ⟨false, [.sl false [.i .i64]], .sl 3⟩),
  (108, ⟨false, [.o], .o⟩),
  (110, ⟨true, [.sl false [.i .u8], .i .i64, .b], .st [(0, 22), (1, 3), (2, 4)]⟩),
  (113, ⟨false, [.o], .o⟩),
  (115, ⟨true, [.sl false [.i .u8], .i .i64, .b], .st [(0, 22), (1, 3), (2, 4)]⟩),
  (143, ⟨false, [.o], .o⟩),
  (153, ⟨true, [.sl false [.i .u8], .i .i64, .i .i64], .st [(0, 22), (1, 3), (2, 3)]⟩),
  (159, ⟨false, [.i .u64], .o⟩),
  (164, ⟨false, [.sl false [.s]], .sl 9⟩)]
noncomputable def fi13 : Fi := ⟨Try.f13, [], false, [.ro (.sl false [.i .u8])], [.v (.b)]⟩
def x65_3_0 : List (Ex × List Nat × CSt) := [((.ex 0), [0, 3], ⟨[.ro 0 false [.i .u8] [], .i .i64 0], [.dead]⟩)]
noncomputable def fi65 : Fi := ⟨Try.f65, [⟨3, [0, 3, 4], [], [(⟨[.ro 0 false [.i .u8] [], .i .i64 0, .i .i64 0], [.dead]⟩, x65_3_0)]⟩], false, [.ro (.sl false [.i .u8])], [.bx [.ro (.sl false [.i .u8]), .v (.i .i64), .v (.i .i64)]]⟩
noncomputable def fi124 : Fi := ⟨Try.f124, [], false, [.bx [.ro (.sl false [.i .u8]), .v (.i .i64), .v (.i .i64)]], [.v (.i .i64)]⟩
noncomputable def fi70 : Fi := ⟨Try.f70, [], false, [.bx [.ro (.sl false [.i .u8]), .v (.i .i64), .v (.i .i64)], .v (.i .i64)], [.v (.i .i64)]⟩
noncomputable def fi118 : Fi := ⟨Try.f118, [], false, [.bx [.ro (.sl false [.i .u8]), .v (.i .i64), .v (.i .i64)], .v (.i .i64)], [.v (.b)]⟩
noncomputable def fi71 : Fi := ⟨Try.f71, [], false, [.bx [.ro (.sl false [.i .u8]), .v (.i .i64), .v (.i .i64)], .ro (.sl false [.i .i64])], [.v (.i .i64)]⟩
def x105_4_0 : List (Ex × List Nat × CSt) := [((.ex 0), [2, 3], ⟨[.bp 4 0, .bp 6 0], [.box [.ro 1 false [.i .u8] [], .i .i64 0, .i .i64 0], .dead, .dead, .dead, .box [.i .i64 0, .rf 5 [] 0 none], .row true [.i .i64, .s, .b, .i .i64, .i .i64] [] 0 false, .box [.i .i64 0, .rf 7 [] 0 none], .row true [.i .i64, .s, .b, .i .i64, .i .i64] [] 0 false]⟩)]
noncomputable def fi105 : Fi := ⟨Try.f105, [⟨4, [0, 2, 3, 4, 5], [], [(⟨[.bp 0 0, .bp 4 0, .bp 6 0, .rf 8 [] 0 none, .i .i64 0], [.box [.ro 1 false [.i .u8] [], .i .i64 0, .i .i64 0], .dead, .dead, .dead, .box [.i .i64 0, .rf 5 [] 0 none], .row true [.i .i64, .s, .b, .i .i64, .i .i64] [] 0 false, .box [.i .i64 0, .rf 7 [] 0 none], .row true [.i .i64, .s, .b, .i .i64, .i .i64] [] 0 false, .row false [.s] [] 0 false]⟩, x105_4_0)]⟩], false, [.bx [.ro (.sl false [.i .u8]), .v (.i .i64), .v (.i .i64)]], [.ag [.v (.i .i64), .ow (.sl true [.i .i64, .s, .b, .i .i64, .i .i64])]]⟩
noncomputable def fi131 : Fi := ⟨Try.f131, [], false, [.bx [.ro (.sl false [.i .u8]), .v (.i .i64), .v (.i .i64)], .ro (.sl false [.s])], [.v (.s)]⟩
noncomputable def fi104 : Fi := ⟨Try.f104, [], false, [.bx [.ro (.sl false [.i .u8]), .v (.i .i64), .v (.i .i64)]], [.ag [.v (.i .i64), .ow (.sl true [.i .i64, .s, .b, .i .i64, .i .i64])]]⟩
noncomputable def fi50 : Fi := ⟨Try.f50, [], false, [.ro (.sl false [.i .u8])], [.ag [.v (.i .i64), .ow (.sl true [.i .i64, .s, .b, .i .i64, .i .i64])]]⟩
def x90_2_0 : List (Ex × List Nat × CSt) := [(.ret, [2], ⟨[.b false], [.dead]⟩), ((.ex 0), [0], ⟨[.s (⟨#[]⟩ : ByteArray)], [.dead]⟩)]
noncomputable def fi90 : Fi := ⟨Try.f90, [⟨2, [0, 6, 7], [], [(⟨[.s (⟨#[]⟩ : ByteArray), .i .i64 0, .i .i64 0], [.dead]⟩, x90_2_0)]⟩], false, [.v (.s)], [.v (.b)]⟩
noncomputable def fi76 : Fi := ⟨Try.f76, [], false, [.v (.i .i64), .v (.i .i64), .v (.i .i64)], [.v (.b)]⟩
noncomputable def fi106 : Fi := ⟨Try.f106, [], false, [.v (.i .i64)], [.v (.b)]⟩
noncomputable def fi108 : Fi := ⟨Try.f108, [], true, [], []⟩
def x140_2_0 : List (Ex × List Nat × CSt) := [(.ret, [4], ⟨[.i .i64 0], [.box [.i .i64 0, .s (⟨#[]⟩ : ByteArray), .b false, .i .i64 0, .i .i64 0]]⟩), ((.ex 0), [], ⟨[], [.box [.i .i64 0, .s (⟨#[]⟩ : ByteArray), .b false, .i .i64 0, .i .i64 0]]⟩)]
noncomputable def fi140 : Fi := ⟨Try.f140, [⟨2, [0, 1, 7, 8], [], [(⟨[.ro 0 true [.i .i64, .s, .b, .i .i64, .i .i64] [], .fn 108 [.bp 0 0], .i .i64 0, .i .i64 0], [.box [.i .i64 0, .s (⟨#[]⟩ : ByteArray), .b false, .i .i64 0, .i .i64 0]]⟩, x140_2_0)]⟩], true, [], []⟩
noncomputable def fi107 : Fi := ⟨Try.f107, [], true, [], []⟩
def x52_2_0 : List (Ex × List Nat × CSt) := [(.ret, [2], ⟨[.b false], [.dead, .dead]⟩), ((.ex 0), [1], ⟨[.bp 2 0], [.dead, .dead, .box [.i .i64 0, .ro 0 true [.i .i64, .s, .b, .i .i64, .i .i64] []]]⟩)]
noncomputable def fi52 : Fi := ⟨Try.f52, [⟨2, [1, 6, 7, 8], [], [(⟨[.bp 2 0, .ro 0 true [.i .i64, .s, .b, .i .i64, .i .i64] [], .i .i64 0, .i .i64 0], [.dead, .dead, .box [.i .i64 0, .ro 0 true [.i .i64, .s, .b, .i .i64, .i .i64] []]]⟩, x52_2_0)]⟩], false, [.ag [.v (.i .i64), .ro (.sl true [.i .i64, .s, .b, .i .i64, .i .i64])]], [.v (.b)]⟩
noncomputable def fi123 : Fi := ⟨Try.f123, [], false, [.ro (.sl false [.i .u8])], [.ow (.sl false [.i .u8])]⟩
def x67_3_0 : List (Ex × List Nat × CSt) := [((.ex 0), [1, 5], ⟨[.i .i64 0, .rf 2 [] 0 none], [.dead, .dead, .row false [.i .u8] [] 0 false]⟩)]
noncomputable def fi67 : Fi := ⟨Try.f67, [⟨3, [1, 5], [], [(⟨[.i .i64 0, .rf 2 [] 0 none], [.dead, .dead, .row false [.i .u8] [] 0 false]⟩, x67_3_0)]⟩], false, [.ro (.sl false [.i .u8]), .v (.i .i64)], [.ow (.sl false [.i .u8])]⟩
noncomputable def fi82 : Fi := ⟨Try.f82, [], false, [.ro (.sl false [.i .u8]), .v (.s)], [.ow (.sl false [.i .u8])]⟩
def x26_5_0 : List (Ex × List Nat × CSt) := [((.ex 0), [3], ⟨[.rf 2 [] 0 none], [.dead, .dead, .row false [.i .u8] [] 0 false]⟩)]
noncomputable def fi26 : Fi := ⟨Try.f26, [⟨5, [3, 18, 19, 20], [], [(⟨[.rf 2 [] 0 none, .ro 0 true [.i .i64, .s, .b, .i .i64, .i .i64] [], .i .i64 0, .i .i64 0], [.dead, .dead, .row false [.i .u8] [] 0 false]⟩, x26_5_0)]⟩], false, [.ag [.v (.i .i64), .ro (.sl true [.i .i64, .s, .b, .i .i64, .i .i64])]], [.ow (.sl false [.i .u8])]⟩
noncomputable def fi77 : Fi := ⟨Try.f77, [], false, [.v (.i .i64), .v (.i .i64), .v (.i .i64)], [.v (.b)]⟩
def x109_2_0 : List (Ex × List Nat × CSt) := [(.ret, [2], ⟨[.b false], [.dead]⟩), ((.ex 0), [0], ⟨[.s (⟨#[]⟩ : ByteArray)], [.dead]⟩)]
noncomputable def fi109 : Fi := ⟨Try.f109, [⟨2, [0, 3], [], [(⟨[.s (⟨#[]⟩ : ByteArray), .i .i64 0], [.dead]⟩, x109_2_0)]⟩], false, [.v (.s)], [.v (.b)]⟩
def x53_2_0 : List (Ex × List Nat × CSt) := [(.ret, [2], ⟨[.b false], [.dead, .dead]⟩), ((.ex 0), [1], ⟨[.bp 2 0], [.dead, .dead, .box [.i .i64 0, .ro 0 true [.i .i64, .s, .b, .i .i64, .i .i64] []]]⟩)]
def x53_8_0 : List (Ex × List Nat × CSt) := [((.ex 2), [1, 3], ⟨[.bp 2 0, .i .i64 0], [.dead, .dead, .box [.i .i64 0, .ro 0 true [.i .i64, .s, .b, .i .i64, .i .i64] []]]⟩), (.ret, [2], ⟨[.b false], [.dead, .dead]⟩)]
noncomputable def fi53 : Fi := ⟨Try.f53, [⟨2, [1, 3], [], [(⟨[.bp 2 0, .i .i64 0], [.dead, .dead, .box [.i .i64 0, .ro 0 true [.i .i64, .s, .b, .i .i64, .i .i64] []]]⟩, x53_2_0)]⟩, ⟨8, [1, 3, 4, 5], [], [(⟨[.bp 2 0, .i .i64 0, .bp 3 0, .i .i64 0], [.dead, .dead, .box [.i .i64 0, .ro 0 true [.i .i64, .s, .b, .i .i64, .i .i64] []], .box [.i .i64 0, .s (⟨#[]⟩ : ByteArray), .b false, .i .i64 0, .i .i64 0]]⟩, x53_8_0)]⟩], false, [.ag [.v (.i .i64), .ro (.sl true [.i .i64, .s, .b, .i .i64, .i .i64])]], [.v (.b)]⟩
def x79_6_0 : List (Ex × List Nat × CSt) := [((.ex 0), [1, 5], ⟨[.i .i64 0, .rf 2 [] 0 none], [.dead, .dead, .row false [.i .u8] [] 0 false]⟩)]
noncomputable def fi79 : Fi := ⟨Try.f79, [⟨6, [1, 5], [], [(⟨[.i .i64 0, .rf 2 [] 0 none], [.dead, .dead, .row false [.i .u8] [] 0 false]⟩, x79_6_0)]⟩], false, [.ro (.sl false [.i .u8]), .v (.i .i64)], [.ow (.sl false [.i .u8])]⟩
noncomputable def fi80 : Fi := ⟨Try.f80, [], false, [.ro (.sl false [.i .u8]), .v (.s)], [.ow (.sl false [.i .u8])]⟩
def x24_5_0 : List (Ex × List Nat × CSt) := [((.ex 0), [3], ⟨[.rf 2 [] 0 none], [.dead, .dead, .row false [.i .u8] [] 0 false]⟩)]
noncomputable def fi24 : Fi := ⟨Try.f24, [⟨5, [1, 3, 4], [], [(⟨[.bp 2 0, .rf 3 [] 0 none, .i .i64 0], [.dead, .dead, .box [.i .i64 0, .ro 0 true [.i .i64, .s, .b, .i .i64, .i .i64] []], .row false [.i .u8] [] 0 false]⟩, x24_5_0)]⟩], false, [.ag [.v (.i .i64), .ro (.sl true [.i .i64, .s, .b, .i .i64, .i .i64])]], [.ow (.sl false [.i .u8])]⟩
noncomputable def fi51 : Fi := ⟨Try.f51, [], false, [.ro (.sl false [.i .u8])], [.ow (.sl false [.i .u8])]⟩
def x125_6_0 : List (Ex × List Nat × CSt) := [((.ex 0), [], ⟨[], [.dead, .dead]⟩), (.ret, [4, 5, 6], ⟨[.i .i64 0, .i .i64 0, .b false], [.dead, .dead]⟩)]
noncomputable def fi125 : Fi := ⟨Try.f125, [⟨6, [0, 1, 7, 8, 9], [], [(⟨[.ro 0 false [.i .u8] [], .i .i64 0, .i .i64 0, .i .i64 0, .i .i64 0], [.dead, .dead]⟩, x125_6_0)]⟩], false, [.ro (.sl false [.i .u8]), .v (.i .i64)], [.v (.i .i64), .v (.i .i64), .v (.b)]⟩
noncomputable def fi72 : Fi := ⟨Try.f72, [], false, [.bx [.ro (.sl false [.i .u8]), .v (.i .i64), .v (.b)]], [.v (.i .i64)]⟩
noncomputable def fi73 : Fi := ⟨Try.f73, [], false, [.bx [.ro (.sl false [.i .u8]), .v (.i .i64), .v (.b)]], [.v (.i .i64)]⟩
noncomputable def fi132 : Fi := ⟨Try.f132, [], false, [.ro (.sl false [.i .u8]), .v (.i .i64)], [.v (.s), .v (.i .i64), .v (.b)]⟩
noncomputable def fi91 : Fi := ⟨Try.f91, [], false, [.bx [.ro (.sl false [.i .u8]), .v (.i .i64), .v (.b)]], [.v (.s)]⟩
noncomputable def fi102 : Fi := ⟨Try.f102, [], false, [.bx [.ro (.sl false [.i .u8]), .v (.i .i64), .v (.b)]], [.v (.b)]⟩
noncomputable def fi74 : Fi := ⟨Try.f74, [], false, [.bx [.ro (.sl false [.i .u8]), .v (.i .i64), .v (.b)]], [.v (.b)]⟩
def x46_4_0 : List (Ex × List Nat × CSt) := [((.ex 0), [2, 4, 5], ⟨[.bp 1 0, .bp 3 0, .bp 4 0], [.dead, .box [.i .i64 0, .rf 2 [] 0 none], .row true [.i .i64, .s, .b, .i .i64, .i .i64] [] 0 false, .box [.ro 0 false [.i .u8] [], .i .i64 0, .b false], .box [.i .i64 0, .rf 5 [] 0 none], .row true [.i .i64, .s, .b, .i .i64, .i .i64] [] 0 false]⟩)]
noncomputable def fi46 : Fi := ⟨Try.f46, [⟨4, [2, 4, 5, 14, 15], [], [(⟨[.bp 1 0, .bp 3 0, .bp 4 0, .i .i64 0, .i .i64 0], [.dead, .box [.i .i64 0, .rf 2 [] 0 none], .row true [.i .i64, .s, .b, .i .i64, .i .i64] [] 0 false, .box [.ro 0 false [.i .u8] [], .i .i64 0, .b false], .box [.i .i64 0, .rf 5 [] 0 none], .row true [.i .i64, .s, .b, .i .i64, .i .i64] [] 0 false]⟩, x46_4_0)]⟩], false, [.ro (.sl false [.i .u8])], [.ag [.v (.i .i64), .ow (.sl true [.i .i64, .s, .b, .i .i64, .i .i64])], .v (.b)]⟩
def x126_3_0 : List (Ex × List Nat × CSt) := [(.ret, [4, 5, 6], ⟨[.i .i64 0, .i .i64 0, .b false], [.dead, .dead]⟩), ((.ex 0), [], ⟨[], [.dead, .dead]⟩)]
noncomputable def fi126 : Fi := ⟨Try.f126, [⟨3, [0, 1, 7, 8], [], [(⟨[.ro 0 false [.i .u8] [], .i .i64 0, .i .i64 0, .i .i64 0], [.dead, .dead]⟩, x126_3_0)]⟩], false, [.ro (.sl false [.i .u8]), .v (.i .i64)], [.v (.i .i64), .v (.i .i64), .v (.b)]⟩
noncomputable def fi75 : Fi := ⟨Try.f75, [], false, [.bx [.ro (.sl false [.i .u8]), .v (.i .i64), .v (.b)]], [.v (.i .i64)]⟩
noncomputable def fi139 : Fi := ⟨Try.f139, [], false, [.ro (.sl false [.i .u8]), .v (.i .i64)], [.v (.s), .v (.i .i64), .v (.b)]⟩
noncomputable def fi101 : Fi := ⟨Try.f101, [], false, [.bx [.ro (.sl false [.i .u8]), .v (.i .i64), .v (.b)]], [.v (.s)]⟩
def x44_5_0 : List (Ex × List Nat × CSt) := [((.ex 0), [0, 2, 4, 5, 6], ⟨[.ro 0 false [.i .u8] [], .bp 1 0, .bp 3 0, .bp 4 0, .i .i64 0], [.dead, .box [.i .i64 0, .rf 2 [] 0 none], .row true [.i .i64, .s, .b, .i .i64, .i .i64] [] 0 false, .box [.ro 0 false [.i .u8] [], .i .i64 0, .b false], .box [.i .i64 0, .rf 5 [] 0 none], .row true [.i .i64, .s, .b, .i .i64, .i .i64] [] 0 false]⟩)]
noncomputable def fi44 : Fi := ⟨Try.f44, [⟨5, [0, 2, 4, 5, 6, 7], [], [(⟨[.ro 0 false [.i .u8] [], .bp 1 0, .bp 3 0, .bp 4 0, .i .i64 0, .i .i64 0], [.dead, .box [.i .i64 0, .rf 2 [] 0 none], .row true [.i .i64, .s, .b, .i .i64, .i .i64] [] 0 false, .box [.ro 0 false [.i .u8] [], .i .i64 0, .b false], .box [.i .i64 0, .rf 5 [] 0 none], .row true [.i .i64, .s, .b, .i .i64, .i .i64] [] 0 false]⟩, x44_5_0)]⟩], false, [.ro (.sl false [.i .u8])], [.ag [.v (.i .i64), .ow (.sl true [.i .i64, .s, .b, .i .i64, .i .i64])], .v (.b)]⟩
def x20_4_0 : List (Ex × List Nat × CSt) := [(.ret, [4], ⟨[.b false], [.dead, .dead]⟩), ((.ex 0), [], ⟨[], [.dead, .dead]⟩)]
noncomputable def fi20 : Fi := ⟨Try.f20, [⟨4, [0, 1, 5], [], [(⟨[.ro 0 false [.i .u8] [], .ro 0 false [.i .u8] [], .i .i64 0], [.dead, .dead]⟩, x20_4_0)]⟩], false, [.ro (.sl false [.i .u8]), .ro (.sl false [.i .u8])], [.v (.b)]⟩
def x9_16_0 : List (Ex × List Nat × CSt) := [(.ret, [2], ⟨[.b false], [.dead]⟩), ((.ex 0), [3], ⟨[.bp 1 0], [.dead, .box [.i .i64 0, .rf 2 [] 0 none], .row true [.i .i64, .s, .b, .i .i64, .i .i64] [] 0 false]⟩)]
noncomputable def fi9 : Fi := ⟨Try.f9, [⟨16, [3, 10, 12], [], [(⟨[.bp 1 0, .bp 3 0, .i .i64 0], [.dead, .box [.i .i64 0, .rf 2 [] 0 none], .row true [.i .i64, .s, .b, .i .i64, .i .i64] [] 0 false, .box [.i .i64 0, .rf 4 [] 0 none], .row true [.i .i64, .s, .b, .i .i64, .i .i64] [] 0 false]⟩, x9_16_0)]⟩], false, [.ro (.sl false [.i .u8])], [.v (.b)]⟩
noncomputable def fiTab : List (Nat × Fi) := [(13, fi13), (65, fi65), (124, fi124), (70, fi70), (118, fi118), (71, fi71), (105, fi105), (131, fi131), (104, fi104), (50, fi50), (90, fi90), (76, fi76), (106, fi106), (108, fi108), (140, fi140), (107, fi107), (52, fi52), (123, fi123), (67, fi67), (82, fi82), (26, fi26), (77, fi77), (109, fi109), (53, fi53), (79, fi79), (80, fi80), (24, fi24), (51, fi51), (125, fi125), (72, fi72), (73, fi73), (132, fi132), (91, fi91), (102, fi102), (74, fi74), (46, fi46), (126, fi126), (75, fi75), (139, fi139), (101, fi101), (44, fi44), (20, fi20), (9, fi9)]
-- EXT 123 clone 22 5
def X : Nat → Option (List T → Option (List T)) := lookN [(123, cloneF)]
noncomputable def env : Env := ⟨lookN fiTab, lookN tyTab⟩
-- FUNCTIONS
/-- loop.example/g00285/laws.big -/
def f13_t (c : Orc) (lf : Nat) (l0 : List T) : Option (List T) :=
  some [T.b (iLt 1048576 (l0.length : Int))]
def f13 (c : Orc) (lf : Nat) (l0 : List T) : Option (List T) := f13_t c lf l0
theorem f13_raw (c : Orc) (lf : Nat) (l0 : List T) : funK c env lf 6 fi13 [.sl l0] = f13_t c lf l0 := by kernel_rfl
theorem f13_eq (c : Orc) (lf : Nat) (l0 : List T) : funK c env lf 6 fi13 [.sl l0] = f13 c lf l0 := by
  refine (f13_raw c lf l0).trans ?_
  rfl
/-- loop.example/g00285/spec.l1New, the loop at region 3. -/
def f65_0_s (c : Orc) (lf : Nat) (l0 : List T) (L : Int → Int → Option (List T)) (x7 : Int) (x8 : Int) : Option (List T) :=
  bif iLt x8 (l0.length : Int) then
    bif iLt x8 4000 then
      bif inR x8 l0.length then
      L (intBits .and .i64 (IntKind.wrap .i64 ((IntKind.wrap .i64 ((IntKind.wrap .i64 (x7 * 137)) + (IntKind.wrap .i64 (asI (l0.getD x8.toNat T.u))))) + 11)) 1073741823) (IntKind.wrap .i64 (x8 + 1))
      else none
    else
      some [T.i .i64 0, T.sl l0, T.i .i64 x7]
  else
    some [T.i .i64 0, T.sl l0, T.i .i64 x7]
def f65_0_c (l0 : List T) (x7 : Int) (x8 : Int) : CSt := ⟨[.ro 0 false [.i .u8] l0, .i .i64 x7, .i .i64 x8], [.dead]⟩
theorem f65_0_round (c : Orc) (lf : Nat) (l0 : List T) (L : CSt → Option (List T)) (x7 : Int) (x8 : Int) :
    roundK c env lf 6 fi65 1 3 [] [0, 3, 4] (x65_3_0) L (f65_0_c l0 x7 x8) = f65_0_s c lf l0 (fun x7 x8 => L (f65_0_c l0 x7 x8)) x7 x8 := by kernel_rfl
def f65_0 (c : Orc) (lf : Nat) (l0 : List T) : Nat → Int → Int → Option (List T)
  | 0 => fun _ _ => none
  | n + 1 => fun x7 x8 => f65_0_s c lf l0 (f65_0 c lf l0 n) x7 x8
theorem f65_0_u (c : Orc) (lf : Nat) (l0 : List T) (n : Nat) (x7 : Int) (x8 : Int) : f65_0 c lf l0 (n + 1) x7 x8 = f65_0_s c lf l0 (f65_0 c lf l0 n) x7 x8 := rfl
theorem f65_0_eq (c : Orc) (lf : Nat) (l0 : List T) (n : Nat) (x7 : Int) (x8 : Int) :
    lpK c env lf 6 fi65 1 3 [] [0, 3, 4] (x65_3_0) n (f65_0_c l0 x7 x8) = f65_0 c lf l0 n x7 x8 := by
  induction n generalizing x7 x8 with
  | zero => rfl
  | succ n ih =>
    refine (f65_0_round c lf l0 _ x7 x8).trans ?_
    have e : (fun x7 x8 => lpK c env lf 6 fi65 1 3 [] [0, 3, 4] (x65_3_0) n (f65_0_c l0 x7 x8)) = f65_0 c lf l0 n := by funext x7 x8; exact ih x7 x8
    show f65_0_s c lf l0 (fun x7 x8 => lpK c env lf 6 fi65 1 3 [] [0, 3, 4] (x65_3_0) n (f65_0_c l0 x7 x8)) x7 x8 = _
    rw [e]; rfl
/-- loop.example/g00285/spec.l1New -/
def f65_t (c : Orc) (lf : Nat) (lp0 : List T → Int → Int → Option (List T)) (l0 : List T) : Option (List T) :=
  (lp0 l0 (IntKind.wrap .i64 (351351 + (l0.length : Int))) 0).bind fun r9 =>
  some [T.st [T.sl (asL (nth r9 1)), T.i .i64 0, T.i .i64 (asI (nth r9 2))]]
def f65 (c : Orc) (lf : Nat) (l0 : List T) : Option (List T) := f65_t c lf (fun (l0 : List T) (x7 : Int) (x8 : Int) => f65_0 c lf l0 lf x7 x8) l0
theorem f65_raw (c : Orc) (lf : Nat) (l0 : List T) : funK c env lf 6 fi65 [.sl l0] = f65_t c lf (fun (l0 : List T) (x7 : Int) (x8 : Int) => lpK c env lf 6 fi65 1 3 [] [0, 3, 4] (x65_3_0) lf (f65_0_c l0 x7 x8)) l0 := by kernel_rfl
theorem f65_eq (c : Orc) (lf : Nat) (l0 : List T) : funK c env lf 6 fi65 [.sl l0] = f65 c lf l0 := by
  refine (f65_raw c lf l0).trans ?_
  have e0 : (fun (l0 : List T) (x7 : Int) (x8 : Int) => lpK c env lf 6 fi65 1 3 [] [0, 3, 4] (x65_3_0) lf (f65_0_c l0 x7 x8)) = (fun (l0 : List T) (x7 : Int) (x8 : Int) => f65_0 c lf l0 lf x7 x8) := by funext l0 x7 x8; exact f65_0_eq c lf l0 lf x7 x8
  rw [e0]; rfl
/-- loop.example/g00285/spec.l1Byte -/
def f124_t (c : Orc) (lf : Nat) (l0_0 : List T) (n0_1 : Int) (n0_2 : Int) : Option (List T) :=
  bif iLt n0_1 (l0_0.length : Int) then
    bif inR n0_1 l0_0.length then
    some [T.i .i64 (intBits .and .i64 (IntKind.wrap .i64 ((intBits .and .i64 (intBits .xor .i64 (shiftI .shr .i64 (IntKind.wrap .i64 ((IntKind.wrap .i64 (n0_2 * 6364136223846793005)) + 1442695040888963407)) 33) (shiftI .shr .i64 (IntKind.wrap .i64 ((IntKind.wrap .i64 (n0_2 * 6364136223846793005)) + 1442695040888963407)) 47)) 255) + (IntKind.wrap .i64 (asI (l0_0.getD n0_1.toNat T.u))))) 255), T.st [T.sl l0_0, T.i .i64 (IntKind.wrap .i64 (n0_1 + 1)), T.i .i64 (IntKind.wrap .i64 ((IntKind.wrap .i64 (n0_2 * 6364136223846793005)) + 1442695040888963407))]]
    else none
  else
    some [T.i .i64 (intBits .and .i64 (intBits .xor .i64 (shiftI .shr .i64 (IntKind.wrap .i64 ((IntKind.wrap .i64 (n0_2 * 6364136223846793005)) + 1442695040888963407)) 33) (shiftI .shr .i64 (IntKind.wrap .i64 ((IntKind.wrap .i64 (n0_2 * 6364136223846793005)) + 1442695040888963407)) 47)) 255), T.st [T.sl l0_0, T.i .i64 n0_1, T.i .i64 (IntKind.wrap .i64 ((IntKind.wrap .i64 (n0_2 * 6364136223846793005)) + 1442695040888963407))]]
def f124 (c : Orc) (lf : Nat) (l0_0 : List T) (n0_1 : Int) (n0_2 : Int) : Option (List T) := f124_t c lf l0_0 n0_1 n0_2
theorem f124_raw (c : Orc) (lf : Nat) (l0_0 : List T) (n0_1 : Int) (n0_2 : Int) : funK c env lf 6 fi124 [.st [.sl l0_0, .i .i64 n0_1, .i .i64 n0_2]] = f124_t c lf l0_0 n0_1 n0_2 := by kernel_rfl
theorem f124_eq (c : Orc) (lf : Nat) (l0_0 : List T) (n0_1 : Int) (n0_2 : Int) : funK c env lf 6 fi124 [.st [.sl l0_0, .i .i64 n0_1, .i .i64 n0_2]] = f124 c lf l0_0 n0_1 n0_2 := by
  refine (f124_raw c lf l0_0 n0_1 n0_2).trans ?_
  rfl
/-- loop.example/g00285/spec.l1Below -/
def f70_t (c : Orc) (lf : Nat) (l0_0 : List T) (n0_1 : Int) (n0_2 : Int) (n1 : Int) : Option (List T) :=
  bif iLe n1 0 then
    some [T.i .i64 0, T.st [T.sl l0_0, T.i .i64 n0_1, T.i .i64 n0_2]]
  else
    bif iLe n1 256 then
      (c 124 [T.st [T.sl l0_0, T.i .i64 n0_1, T.i .i64 n0_2]]).bind fun r10 =>
      bif n1 != 0 then
      some [T.i .i64 ((asI (nth r10 0)).tmod n1), T.st [T.sl l0_0, T.i .i64 (asI (T.cell (nth r10 1) 1)), T.i .i64 (asI (T.cell (nth r10 1) 2))]]
      else none
    else
      (c 124 [T.st [T.sl l0_0, T.i .i64 n0_1, T.i .i64 n0_2]]).bind fun r11 =>
      (c 124 [T.st [T.sl l0_0, T.i .i64 (asI (T.cell (nth r11 1) 1)), T.i .i64 (asI (T.cell (nth r11 1) 2))]]).bind fun r12 =>
      (c 124 [T.st [T.sl l0_0, T.i .i64 (asI (T.cell (nth r12 1) 1)), T.i .i64 (asI (T.cell (nth r12 1) 2))]]).bind fun r13 =>
      bif n1 != 0 then
      some [T.i .i64 ((IntKind.wrap .i64 ((IntKind.wrap .i64 ((IntKind.wrap .i64 ((asI (nth r11 0)) * 65536)) + (IntKind.wrap .i64 ((asI (nth r12 0)) * 256)))) + (asI (nth r13 0)))).tmod n1), T.st [T.sl l0_0, T.i .i64 (asI (T.cell (nth r13 1) 1)), T.i .i64 (asI (T.cell (nth r13 1) 2))]]
      else none
def f70 (c : Orc) (lf : Nat) (l0_0 : List T) (n0_1 : Int) (n0_2 : Int) (n1 : Int) : Option (List T) := f70_t c lf l0_0 n0_1 n0_2 n1
theorem f70_raw (c : Orc) (lf : Nat) (l0_0 : List T) (n0_1 : Int) (n0_2 : Int) (n1 : Int) : funK c env lf 6 fi70 [.st [.sl l0_0, .i .i64 n0_1, .i .i64 n0_2], .i .i64 n1] = f70_t c lf l0_0 n0_1 n0_2 n1 := by kernel_rfl
theorem f70_eq (c : Orc) (lf : Nat) (l0_0 : List T) (n0_1 : Int) (n0_2 : Int) (n1 : Int) : funK c env lf 6 fi70 [.st [.sl l0_0, .i .i64 n0_1, .i .i64 n0_2], .i .i64 n1] = f70 c lf l0_0 n0_1 n0_2 n1 := by
  refine (f70_raw c lf l0_0 n0_1 n0_2 n1).trans ?_
  rfl
/-- loop.example/g00285/spec.l1Once -/
def f118_t (c : Orc) (lf : Nat) (l0_0 : List T) (n0_1 : Int) (n0_2 : Int) (n1 : Int) : Option (List T) :=
  (c 70 [T.st [T.sl l0_0, T.i .i64 n0_1, T.i .i64 n0_2], T.i .i64 n1]).bind fun r14 =>
  some [T.b ((asI (nth r14 0)) == 0), T.st [T.sl l0_0, T.i .i64 (asI (T.cell (nth r14 1) 1)), T.i .i64 (asI (T.cell (nth r14 1) 2))]]
def f118 (c : Orc) (lf : Nat) (l0_0 : List T) (n0_1 : Int) (n0_2 : Int) (n1 : Int) : Option (List T) := f118_t c lf l0_0 n0_1 n0_2 n1
theorem f118_raw (c : Orc) (lf : Nat) (l0_0 : List T) (n0_1 : Int) (n0_2 : Int) (n1 : Int) : funK c env lf 6 fi118 [.st [.sl l0_0, .i .i64 n0_1, .i .i64 n0_2], .i .i64 n1] = f118_t c lf l0_0 n0_1 n0_2 n1 := by kernel_rfl
theorem f118_eq (c : Orc) (lf : Nat) (l0_0 : List T) (n0_1 : Int) (n0_2 : Int) (n1 : Int) : funK c env lf 6 fi118 [.st [.sl l0_0, .i .i64 n0_1, .i .i64 n0_2], .i .i64 n1] = f118 c lf l0_0 n0_1 n0_2 n1 := by
  refine (f118_raw c lf l0_0 n0_1 n0_2 n1).trans ?_
  rfl
/-- loop.example/g00285/spec.l1Int -/
def f71_t (c : Orc) (lf : Nat) (l0_0 : List T) (n0_1 : Int) (n0_2 : Int) (l1 : List T) : Option (List T) :=
  (c 70 [T.st [T.sl l0_0, T.i .i64 n0_1, T.i .i64 n0_2], T.i .i64 (l1.length : Int)]).bind fun r15 =>
  bif inR (asI (nth r15 0)) l1.length then
  some [T.i .i64 (asI (l1.getD ((asI (nth r15 0)).toNat) T.u)), T.st [T.sl l0_0, T.i .i64 (asI (T.cell (nth r15 1) 1)), T.i .i64 (asI (T.cell (nth r15 1) 2))]]
  else none
def f71 (c : Orc) (lf : Nat) (l0_0 : List T) (n0_1 : Int) (n0_2 : Int) (l1 : List T) : Option (List T) := f71_t c lf l0_0 n0_1 n0_2 l1
theorem f71_raw (c : Orc) (lf : Nat) (l0_0 : List T) (n0_1 : Int) (n0_2 : Int) (l1 : List T) : funK c env lf 6 fi71 [.st [.sl l0_0, .i .i64 n0_1, .i .i64 n0_2], .sl l1] = f71_t c lf l0_0 n0_1 n0_2 l1 := by kernel_rfl
theorem f71_eq (c : Orc) (lf : Nat) (l0_0 : List T) (n0_1 : Int) (n0_2 : Int) (l1 : List T) : funK c env lf 6 fi71 [.st [.sl l0_0, .i .i64 n0_1, .i .i64 n0_2], .sl l1] = f71 c lf l0_0 n0_1 n0_2 l1 := by
  refine (f71_raw c lf l0_0 n0_1 n0_2 l1).trans ?_
  rfl
/-- loop.example/g00285/spec.l15Draw, the loop at region 4. -/
def f105_0_s (c : Orc) (lf : Nat) (l0_0 : List T) (L : Int → Int → Int → List T → Option (List T)) (x33 : Int) (x34 : Int) (x35 : Int) (x36 : List T) : Option (List T) :=
  (c 70 [T.st [T.sl l0_0, T.i .i64 x34, T.i .i64 x35], T.i .i64 4]).bind fun r37 =>
  bif iLt x33 (asI (nth r37 0)) then
    bif iLt x33 3 then
      bif inR x33 (([T.s (⟨#[109, 97, 105, 110]⟩ : ByteArray), T.s (⟨#[115, 110, 97, 112]⟩ : ByteArray), T.s (⟨#[119, 111, 114, 107]⟩ : ByteArray)] : List T).length) then
      (c 118 [T.st [T.sl l0_0, T.i .i64 (asI (T.cell (nth r37 1) 1)), T.i .i64 (asI (T.cell (nth r37 1) 2))], T.i .i64 2]).bind fun r38 =>
      (c 71 [T.st [T.sl l0_0, T.i .i64 (asI (T.cell (nth r38 1) 1)), T.i .i64 (asI (T.cell (nth r38 1) 2))], T.sl ([T.i .i64 32, T.i .i64 500, T.i .i64 4000] : List T)]).bind fun r39 =>
      (c 71 [T.st [T.sl l0_0, T.i .i64 (asI (T.cell (nth r39 1) 1)), T.i .i64 (asI (T.cell (nth r39 1) 2))], T.sl ([T.i .i64 0, T.i .i64 9, T.i .i64 191] : List T)]).bind fun r40 =>
      bif nLe (x36.length + ([T.st [T.i .i64 (IntKind.wrap .i64 (1 + (IntKind.wrap .i64 (2 * x33)))), T.s (asS (([T.s (⟨#[109, 97, 105, 110]⟩ : ByteArray), T.s (⟨#[115, 110, 97, 112]⟩ : ByteArray), T.s (⟨#[119, 111, 114, 107]⟩ : ByteArray)] : List T).getD x33.toNat T.u)), T.b (asB (nth r38 0)), T.i .i64 (asI (nth r39 0)), T.i .i64 (asI (nth r40 0))]] : List T).length) LIM then
      L (IntKind.wrap .i64 (x33 + 1)) (asI (T.cell (nth r40 1) 1)) (asI (T.cell (nth r40 1) 2)) (x36 ++ ([T.st [T.i .i64 (IntKind.wrap .i64 (1 + (IntKind.wrap .i64 (2 * x33)))), T.s (asS (([T.s (⟨#[109, 97, 105, 110]⟩ : ByteArray), T.s (⟨#[115, 110, 97, 112]⟩ : ByteArray), T.s (⟨#[119, 111, 114, 107]⟩ : ByteArray)] : List T).getD x33.toNat T.u)), T.b (asB (nth r38 0)), T.i .i64 (asI (nth r39 0)), T.i .i64 (asI (nth r40 0))]] : List T))
      else none
      else none
    else
      some [T.i .i64 0, T.sl l0_0, T.i .i64 (asI (T.cell (nth r37 1) 1)), T.i .i64 (asI (T.cell (nth r37 1) 2)), T.i .i64 0, T.sl ([] : List T), T.i .i64 9, T.sl x36]
  else
    some [T.i .i64 0, T.sl l0_0, T.i .i64 (asI (T.cell (nth r37 1) 1)), T.i .i64 (asI (T.cell (nth r37 1) 2)), T.i .i64 0, T.sl ([] : List T), T.i .i64 9, T.sl x36]
def f105_0_c (l0_0 : List T) (x33 : Int) (x34 : Int) (x35 : Int) (x36 : List T) : CSt := ⟨[.bp 0 0, .bp 4 0, .bp 6 0, .rf 8 [] 0 none, .i .i64 x33], [.box [.ro 1 false [.i .u8] l0_0, .i .i64 x34, .i .i64 x35], .dead, .dead, .dead, .box [.i .i64 0, .rf 5 [] 0 none], .row true [.i .i64, .s, .b, .i .i64, .i .i64] ([] : List T) 0 false, .box [.i .i64 9, .rf 7 [] 0 none], .row true [.i .i64, .s, .b, .i .i64, .i .i64] x36 0 false, .row false [.s] ([T.s (⟨#[109, 97, 105, 110]⟩ : ByteArray), T.s (⟨#[115, 110, 97, 112]⟩ : ByteArray), T.s (⟨#[119, 111, 114, 107]⟩ : ByteArray)] : List T) 0 false]⟩
theorem f105_0_round (c : Orc) (lf : Nat) (l0_0 : List T) (L : CSt → Option (List T)) (x33 : Int) (x34 : Int) (x35 : Int) (x36 : List T) :
    roundK c env lf 6 fi105 4 4 [] [0, 2, 3, 4, 5] (x105_4_0) L (f105_0_c l0_0 x33 x34 x35 x36) = f105_0_s c lf l0_0 (fun x33 x34 x35 x36 => L (f105_0_c l0_0 x33 x34 x35 x36)) x33 x34 x35 x36 := by kernel_rfl
def f105_0 (c : Orc) (lf : Nat) (l0_0 : List T) : Nat → Int → Int → Int → List T → Option (List T)
  | 0 => fun _ _ _ _ => none
  | n + 1 => fun x33 x34 x35 x36 => f105_0_s c lf l0_0 (f105_0 c lf l0_0 n) x33 x34 x35 x36
theorem f105_0_u (c : Orc) (lf : Nat) (l0_0 : List T) (n : Nat) (x33 : Int) (x34 : Int) (x35 : Int) (x36 : List T) : f105_0 c lf l0_0 (n + 1) x33 x34 x35 x36 = f105_0_s c lf l0_0 (f105_0 c lf l0_0 n) x33 x34 x35 x36 := rfl
theorem f105_0_eq (c : Orc) (lf : Nat) (l0_0 : List T) (n : Nat) (x33 : Int) (x34 : Int) (x35 : Int) (x36 : List T) :
    lpK c env lf 6 fi105 4 4 [] [0, 2, 3, 4, 5] (x105_4_0) n (f105_0_c l0_0 x33 x34 x35 x36) = f105_0 c lf l0_0 n x33 x34 x35 x36 := by
  induction n generalizing x33 x34 x35 x36 with
  | zero => rfl
  | succ n ih =>
    refine (f105_0_round c lf l0_0 _ x33 x34 x35 x36).trans ?_
    have e : (fun x33 x34 x35 x36 => lpK c env lf 6 fi105 4 4 [] [0, 2, 3, 4, 5] (x105_4_0) n (f105_0_c l0_0 x33 x34 x35 x36)) = f105_0 c lf l0_0 n := by funext x33 x34 x35 x36; exact ih x33 x34 x35 x36
    show f105_0_s c lf l0_0 (fun x33 x34 x35 x36 => lpK c env lf 6 fi105 4 4 [] [0, 2, 3, 4, 5] (x105_4_0) n (f105_0_c l0_0 x33 x34 x35 x36)) x33 x34 x35 x36 = _
    rw [e]; rfl
/-- loop.example/g00285/spec.l15Draw -/
def f105_t (c : Orc) (lf : Nat) (lp0 : List T → Int → Int → Int → List T → Option (List T)) (l0_0 : List T) (n0_1 : Int) (n0_2 : Int) : Option (List T) :=
  (lp0 l0_0 0 n0_1 n0_2 ([] : List T)).bind fun r41 =>
  some [T.st [T.i .i64 (asI (nth r41 6)), T.sl (asL (nth r41 7))], T.st [T.sl (asL (nth r41 1)), T.i .i64 (asI (nth r41 2)), T.i .i64 (asI (nth r41 3))]]
def f105 (c : Orc) (lf : Nat) (l0_0 : List T) (n0_1 : Int) (n0_2 : Int) : Option (List T) := f105_t c lf (fun (l0_0 : List T) (x33 : Int) (x34 : Int) (x35 : Int) (x36 : List T) => f105_0 c lf l0_0 lf x33 x34 x35 x36) l0_0 n0_1 n0_2
theorem f105_raw (c : Orc) (lf : Nat) (l0_0 : List T) (n0_1 : Int) (n0_2 : Int) : funK c env lf 6 fi105 [.st [.sl l0_0, .i .i64 n0_1, .i .i64 n0_2]] = f105_t c lf (fun (l0_0 : List T) (x33 : Int) (x34 : Int) (x35 : Int) (x36 : List T) => lpK c env lf 6 fi105 4 4 [] [0, 2, 3, 4, 5] (x105_4_0) lf (f105_0_c l0_0 x33 x34 x35 x36)) l0_0 n0_1 n0_2 := by kernel_rfl
theorem f105_eq (c : Orc) (lf : Nat) (l0_0 : List T) (n0_1 : Int) (n0_2 : Int) : funK c env lf 6 fi105 [.st [.sl l0_0, .i .i64 n0_1, .i .i64 n0_2]] = f105 c lf l0_0 n0_1 n0_2 := by
  refine (f105_raw c lf l0_0 n0_1 n0_2).trans ?_
  have e0 : (fun (l0_0 : List T) (x33 : Int) (x34 : Int) (x35 : Int) (x36 : List T) => lpK c env lf 6 fi105 4 4 [] [0, 2, 3, 4, 5] (x105_4_0) lf (f105_0_c l0_0 x33 x34 x35 x36)) = (fun (l0_0 : List T) (x33 : Int) (x34 : Int) (x35 : Int) (x36 : List T) => f105_0 c lf l0_0 lf x33 x34 x35 x36) := by funext l0_0 x33 x34 x35 x36; exact f105_0_eq c lf l0_0 lf x33 x34 x35 x36
  rw [e0]; rfl
/-- loop.example/g00285/spec.l1Str -/
def f131_t (c : Orc) (lf : Nat) (l0_0 : List T) (n0_1 : Int) (n0_2 : Int) (l1 : List T) : Option (List T) :=
  (c 70 [T.st [T.sl l0_0, T.i .i64 n0_1, T.i .i64 n0_2], T.i .i64 (l1.length : Int)]).bind fun r42 =>
  bif inR (asI (nth r42 0)) l1.length then
  some [T.s (asS (l1.getD ((asI (nth r42 0)).toNat) T.u)), T.st [T.sl l0_0, T.i .i64 (asI (T.cell (nth r42 1) 1)), T.i .i64 (asI (T.cell (nth r42 1) 2))]]
  else none
def f131 (c : Orc) (lf : Nat) (l0_0 : List T) (n0_1 : Int) (n0_2 : Int) (l1 : List T) : Option (List T) := f131_t c lf l0_0 n0_1 n0_2 l1
theorem f131_raw (c : Orc) (lf : Nat) (l0_0 : List T) (n0_1 : Int) (n0_2 : Int) (l1 : List T) : funK c env lf 6 fi131 [.st [.sl l0_0, .i .i64 n0_1, .i .i64 n0_2], .sl l1] = f131_t c lf l0_0 n0_1 n0_2 l1 := by kernel_rfl
theorem f131_eq (c : Orc) (lf : Nat) (l0_0 : List T) (n0_1 : Int) (n0_2 : Int) (l1 : List T) : funK c env lf 6 fi131 [.st [.sl l0_0, .i .i64 n0_1, .i .i64 n0_2], .sl l1] = f131 c lf l0_0 n0_1 n0_2 l1 := by
  refine (f131_raw c lf l0_0 n0_1 n0_2 l1).trans ?_
  rfl
/-- loop.example/g00285/spec.l15Any -/
def f104_t (c : Orc) (lf : Nat) (l0_0 : List T) (n0_1 : Int) (n0_2 : Int) : Option (List T) :=
  (c 105 [T.st [T.sl l0_0, T.i .i64 n0_1, T.i .i64 n0_2]]).bind fun r43 =>
  (c 70 [T.st [T.sl l0_0, T.i .i64 (asI (T.cell (nth r43 1) 1)), T.i .i64 (asI (T.cell (nth r43 1) 2))], T.i .i64 8]).bind fun r44 =>
  bif (asI (nth r44 0)) == 0 then
    (c 71 [T.st [T.sl l0_0, T.i .i64 (asI (T.cell (nth r44 1) 1)), T.i .i64 (asI (T.cell (nth r44 1) 2))], T.sl ([T.i .i64 0, T.i .i64 1, T.i .i64 99, T.i .i64 100] : List T)]).bind fun r45 =>
    some [T.st [T.i .i64 (asI (nth r45 0)), T.sl (asL (T.cell (nth r43 0) 1))], T.st [T.sl l0_0, T.i .i64 (asI (T.cell (nth r45 1) 1)), T.i .i64 (asI (T.cell (nth r45 1) 2))]]
  else
    bif (asI (nth r44 0)) == 1 then
      (c 71 [T.st [T.sl l0_0, T.i .i64 (asI (T.cell (nth r44 1) 1)), T.i .i64 (asI (T.cell (nth r44 1) 2))], T.sl ([T.i .i64 0, T.i .i64 3, T.i .i64 8, T.i .i64 9] : List T)]).bind fun r46 =>
      (c 131 [T.st [T.sl l0_0, T.i .i64 (asI (T.cell (nth r46 1) 1)), T.i .i64 (asI (T.cell (nth r46 1) 2))], T.sl ([T.s (⟨#[109, 97, 105, 110]⟩ : ByteArray), T.s (⟨#[120]⟩ : ByteArray), T.s (⟨#[]⟩ : ByteArray)] : List T)]).bind fun r47 =>
      (c 71 [T.st [T.sl l0_0, T.i .i64 (asI (T.cell (nth r47 1) 1)), T.i .i64 (asI (T.cell (nth r47 1) 2))], T.sl ([T.i .i64 31, T.i .i64 32, T.i .i64 4001] : List T)]).bind fun r48 =>
      (c 71 [T.st [T.sl l0_0, T.i .i64 (asI (T.cell (nth r48 1) 1)), T.i .i64 (asI (T.cell (nth r48 1) 2))], T.sl ([T.i .i64 (-1), T.i .i64 0, T.i .i64 192] : List T)]).bind fun r49 =>
      bif nLe ((asL (T.cell (nth r43 0) 1)).length + ([T.st [T.i .i64 (asI (nth r46 0)), T.s (asS (nth r47 0)), T.b false, T.i .i64 (asI (nth r48 0)), T.i .i64 (asI (nth r49 0))]] : List T).length) LIM then
      some [T.st [T.i .i64 (asI (T.cell (nth r43 0) 0)), T.sl ((asL (T.cell (nth r43 0) 1)) ++ ([T.st [T.i .i64 (asI (nth r46 0)), T.s (asS (nth r47 0)), T.b false, T.i .i64 (asI (nth r48 0)), T.i .i64 (asI (nth r49 0))]] : List T))], T.st [T.sl l0_0, T.i .i64 (asI (T.cell (nth r49 1) 1)), T.i .i64 (asI (T.cell (nth r49 1) 2))]]
      else none
    else
      some [T.st [T.i .i64 (asI (T.cell (nth r43 0) 0)), T.sl (asL (T.cell (nth r43 0) 1))], T.st [T.sl l0_0, T.i .i64 (asI (T.cell (nth r44 1) 1)), T.i .i64 (asI (T.cell (nth r44 1) 2))]]
def f104 (c : Orc) (lf : Nat) (l0_0 : List T) (n0_1 : Int) (n0_2 : Int) : Option (List T) := f104_t c lf l0_0 n0_1 n0_2
theorem f104_raw (c : Orc) (lf : Nat) (l0_0 : List T) (n0_1 : Int) (n0_2 : Int) : funK c env lf 6 fi104 [.st [.sl l0_0, .i .i64 n0_1, .i .i64 n0_2]] = f104_t c lf l0_0 n0_1 n0_2 := by kernel_rfl
theorem f104_eq (c : Orc) (lf : Nat) (l0_0 : List T) (n0_1 : Int) (n0_2 : Int) : funK c env lf 6 fi104 [.st [.sl l0_0, .i .i64 n0_1, .i .i64 n0_2]] = f104 c lf l0_0 n0_1 n0_2 := by
  refine (f104_raw c lf l0_0 n0_1 n0_2).trans ?_
  rfl
/-- loop.example/g00285/spec.DrawPutTable -/
def f50_t (c : Orc) (lf : Nat) (l0 : List T) : Option (List T) :=
  (c 65 [T.sl l0]).bind fun r50 =>
  (c 104 [T.st [T.sl (asL (T.cell (nth r50 0) 0)), T.i .i64 (asI (T.cell (nth r50 0) 1)), T.i .i64 (asI (T.cell (nth r50 0) 2))]]).bind fun r51 =>
  some [T.st [T.i .i64 (asI (T.cell (nth r51 0) 0)), T.sl (asL (T.cell (nth r51 0) 1))]]
def f50 (c : Orc) (lf : Nat) (l0 : List T) : Option (List T) := f50_t c lf l0
theorem f50_raw (c : Orc) (lf : Nat) (l0 : List T) : funK c env lf 6 fi50 [.sl l0] = f50_t c lf l0 := by kernel_rfl
theorem f50_eq (c : Orc) (lf : Nat) (l0 : List T) : funK c env lf 6 fi50 [.sl l0] = f50 c lf l0 := by
  refine (f50_raw c lf l0).trans ?_
  rfl
/-- loop.example/g00285/impl.NameOk, the loop at region 2. -/
def f90_0_s (c : Orc) (lf : Nat) (s0 : ByteArray) (L : Int → Option (List T)) (x54 : Int) : Option (List T) :=
  bif iLt x54 (s0.size : Int) then
    bif inR x54 s0.size then
    bif iLt (byteAt s0 x54) 97 then
      bif iLt (byteAt s0 x54) 48 then
        bif (byteAt s0 x54) != 95 then
          bif (byteAt s0 x54) != 45 then
            bif (byteAt s0 x54) != 46 then
              some [T.i .i64 0, T.b false]
            else
              L (IntKind.wrap .i64 (x54 + 1))
          else
            L (IntKind.wrap .i64 (x54 + 1))
        else
          L (IntKind.wrap .i64 (x54 + 1))
      else
        bif iLt 57 (byteAt s0 x54) then
          bif (byteAt s0 x54) != 95 then
            bif (byteAt s0 x54) != 45 then
              bif (byteAt s0 x54) != 46 then
                some [T.i .i64 0, T.b false]
              else
                L (IntKind.wrap .i64 (x54 + 1))
            else
              L (IntKind.wrap .i64 (x54 + 1))
          else
            L (IntKind.wrap .i64 (x54 + 1))
        else
          L (IntKind.wrap .i64 (x54 + 1))
    else
      bif iLt 122 (byteAt s0 x54) then
        bif iLt (byteAt s0 x54) 48 then
          bif (byteAt s0 x54) != 95 then
            bif (byteAt s0 x54) != 45 then
              bif (byteAt s0 x54) != 46 then
                some [T.i .i64 0, T.b false]
              else
                L (IntKind.wrap .i64 (x54 + 1))
            else
              L (IntKind.wrap .i64 (x54 + 1))
          else
            L (IntKind.wrap .i64 (x54 + 1))
        else
          bif iLt 57 (byteAt s0 x54) then
            bif (byteAt s0 x54) != 95 then
              bif (byteAt s0 x54) != 45 then
                bif (byteAt s0 x54) != 46 then
                  some [T.i .i64 0, T.b false]
                else
                  L (IntKind.wrap .i64 (x54 + 1))
              else
                L (IntKind.wrap .i64 (x54 + 1))
            else
              L (IntKind.wrap .i64 (x54 + 1))
          else
            L (IntKind.wrap .i64 (x54 + 1))
      else
        L (IntKind.wrap .i64 (x54 + 1))
    else none
  else
    some [T.i .i64 1, T.s s0]
def f90_0_c (s0 : ByteArray) (x54 : Int) : CSt := ⟨[.s s0, .i .i64 (s0.size : Int), .i .i64 x54], [.dead]⟩
theorem f90_0_round (c : Orc) (lf : Nat) (s0 : ByteArray) (L : CSt → Option (List T)) (x54 : Int) :
    roundK c env lf 6 fi90 1 2 [] [0, 6, 7] (x90_2_0) L (f90_0_c s0 x54) = f90_0_s c lf s0 (fun x54 => L (f90_0_c s0 x54)) x54 := by kernel_rfl
def f90_0 (c : Orc) (lf : Nat) (s0 : ByteArray) : Nat → Int → Option (List T)
  | 0 => fun _ => none
  | n + 1 => fun x54 => f90_0_s c lf s0 (f90_0 c lf s0 n) x54
theorem f90_0_u (c : Orc) (lf : Nat) (s0 : ByteArray) (n : Nat) (x54 : Int) : f90_0 c lf s0 (n + 1) x54 = f90_0_s c lf s0 (f90_0 c lf s0 n) x54 := rfl
theorem f90_0_eq (c : Orc) (lf : Nat) (s0 : ByteArray) (n : Nat) (x54 : Int) :
    lpK c env lf 6 fi90 1 2 [] [0, 6, 7] (x90_2_0) n (f90_0_c s0 x54) = f90_0 c lf s0 n x54 := by
  induction n generalizing x54 with
  | zero => rfl
  | succ n ih =>
    refine (f90_0_round c lf s0 _ x54).trans ?_
    have e : (fun x54 => lpK c env lf 6 fi90 1 2 [] [0, 6, 7] (x90_2_0) n (f90_0_c s0 x54)) = f90_0 c lf s0 n := by funext x54; exact ih x54
    show f90_0_s c lf s0 (fun x54 => lpK c env lf 6 fi90 1 2 [] [0, 6, 7] (x90_2_0) n (f90_0_c s0 x54)) x54 = _
    rw [e]; rfl
/-- loop.example/g00285/impl.NameOk -/
def f90_t (c : Orc) (lf : Nat) (lp0 : ByteArray → Int → Option (List T)) (s0 : ByteArray) : Option (List T) :=
  (lp0 s0 0).bind fun r55 =>
  bif asI (nth r55 0) == 0 then
    some [T.b (asB (nth r55 1))]
  else
    bif iLe 1 ((asS (nth r55 1)).size : Int) then
      bif iLe ((asS (nth r55 1)).size : Int) 14 then
        bif !((asS (nth r55 1)).toList == (⟨#[46]⟩ : ByteArray).toList) then
          some [T.b (!((asS (nth r55 1)).toList == (⟨#[46, 46]⟩ : ByteArray).toList))]
        else
          some [T.b false]
      else
        some [T.b false]
    else
      some [T.b false]
def f90 (c : Orc) (lf : Nat) (s0 : ByteArray) : Option (List T) := f90_t c lf (fun (s0 : ByteArray) (x54 : Int) => f90_0 c lf s0 lf x54) s0
theorem f90_raw (c : Orc) (lf : Nat) (s0 : ByteArray) : funK c env lf 6 fi90 [.s s0] = f90_t c lf (fun (s0 : ByteArray) (x54 : Int) => lpK c env lf 6 fi90 1 2 [] [0, 6, 7] (x90_2_0) lf (f90_0_c s0 x54)) s0 := by kernel_rfl
theorem f90_eq (c : Orc) (lf : Nat) (s0 : ByteArray) : funK c env lf 6 fi90 [.s s0] = f90 c lf s0 := by
  refine (f90_raw c lf s0).trans ?_
  have e0 : (fun (s0 : ByteArray) (x54 : Int) => lpK c env lf 6 fi90 1 2 [] [0, 6, 7] (x90_2_0) lf (f90_0_c s0 x54)) = (fun (s0 : ByteArray) (x54 : Int) => f90_0 c lf s0 lf x54) := by funext s0 x54; exact f90_0_eq c lf s0 lf x54
  rw [e0]; rfl
/-- loop.example/g00285/impl.from -/
def f76_t (c : Orc) (lf : Nat) (n0 : Int) (n1 : Int) (n2 : Int) : Option (List T) :=
  bif iLe n1 n0 then
    some [T.b (iLe n0 n2)]
  else
    some [T.b false]
def f76 (c : Orc) (lf : Nat) (n0 : Int) (n1 : Int) (n2 : Int) : Option (List T) := f76_t c lf n0 n1 n2
theorem f76_raw (c : Orc) (lf : Nat) (n0 : Int) (n1 : Int) (n2 : Int) : funK c env lf 6 fi76 [.i .i64 n0, .i .i64 n1, .i .i64 n2] = f76_t c lf n0 n1 n2 := by kernel_rfl
theorem f76_eq (c : Orc) (lf : Nat) (n0 : Int) (n1 : Int) (n2 : Int) : funK c env lf 6 fi76 [.i .i64 n0, .i .i64 n1, .i .i64 n2] = f76 c lf n0 n1 n2 := by
  refine (f76_raw c lf n0 n1 n2).trans ?_
  rfl
/-- loop.example/g00285/impl.isLimit -/
def f106_t (c : Orc) (lf : Nat) (n0 : Int) : Option (List T) :=
  (c 76 [T.i .i64 n0, T.i .i64 32, T.i .i64 4000]).bind fun r56 =>
  some [T.b (asB (nth r56 0))]
def f106 (c : Orc) (lf : Nat) (n0 : Int) : Option (List T) := f106_t c lf n0
theorem f106_raw (c : Orc) (lf : Nat) (n0 : Int) : funK c env lf 6 fi106 [.i .i64 n0] = f106_t c lf n0 := by kernel_rfl
theorem f106_eq (c : Orc) (lf : Nat) (n0 : Int) : funK c env lf 6 fi106 [.i .i64 n0] = f106 c lf n0 := by
  refine (f106_raw c lf n0).trans ?_
  rfl
/-- slices.IndexFunc[[]loop.example/g00285/impl.Row,loop.example/g00285/impl.Row], the loop at region 2. -/
def f52_1_s (c : Orc) (lf : Nat) (l0_1 : List T) (x80 : Int) (L : Int → Option (List T)) (x84 : Int) : Option (List T) :=
  bif iLt x84 ((l0_1.take x80.toNat).length : Int) then
    bif inR x84 ((l0_1.take x80.toNat).length) then
    bif (asS (T.cell ((l0_1.take x80.toNat).getD x84.toNat T.u) 1)).toList == (asS (T.cell (l0_1.getD x80.toNat T.u) 1)).toList then
      some [T.i .i64 0, T.i .i64 x84, T.i .i64 (asI (T.cell (l0_1.getD x80.toNat T.u) 0)), T.s (asS (T.cell (l0_1.getD x80.toNat T.u) 1)), T.b (asB (T.cell (l0_1.getD x80.toNat T.u) 2)), T.i .i64 (asI (T.cell (l0_1.getD x80.toNat T.u) 3)), T.i .i64 (asI (T.cell (l0_1.getD x80.toNat T.u) 4))]
    else
      L (IntKind.wrap .i64 (x84 + 1))
    else none
  else
    some [T.i .i64 1, T.i .i64 (asI (T.cell (l0_1.getD x80.toNat T.u) 0)), T.s (asS (T.cell (l0_1.getD x80.toNat T.u) 1)), T.b (asB (T.cell (l0_1.getD x80.toNat T.u) 2)), T.i .i64 (asI (T.cell (l0_1.getD x80.toNat T.u) 3)), T.i .i64 (asI (T.cell (l0_1.getD x80.toNat T.u) 4))]
def f52_1_c (l0_1 : List T) (x80 : Int) (x84 : Int) : CSt := ⟨[.ro 0 true [.i .i64, .s, .b, .i .i64, .i .i64] (l0_1.take x80.toNat), .fn 108 [.bp 0 0], .i .i64 ((l0_1.take x80.toNat).length : Int), .i .i64 x84], [.box [.i .i64 (asI (T.cell (l0_1.getD x80.toNat T.u) 0)), .s (asS (T.cell (l0_1.getD x80.toNat T.u) 1)), .b (asB (T.cell (l0_1.getD x80.toNat T.u) 2)), .i .i64 (asI (T.cell (l0_1.getD x80.toNat T.u) 3)), .i .i64 (asI (T.cell (l0_1.getD x80.toNat T.u) 4))]]⟩
theorem f52_1_round (c : Orc) (lf : Nat) (l0_1 : List T) (x80 : Int) (L : CSt → Option (List T)) (x84 : Int) :
    roundK c env lf 4 fi140 1 2 [] [0, 1, 7, 8] (x140_2_0) L (f52_1_c l0_1 x80 x84) = f52_1_s c lf l0_1 x80 (fun x84 => L (f52_1_c l0_1 x80 x84)) x84 := by kernel_rfl
def f52_1 (c : Orc) (lf : Nat) (l0_1 : List T) (x80 : Int) : Nat → Int → Option (List T)
  | 0 => fun _ => none
  | n + 1 => fun x84 => f52_1_s c lf l0_1 x80 (f52_1 c lf l0_1 x80 n) x84
theorem f52_1_u (c : Orc) (lf : Nat) (l0_1 : List T) (x80 : Int) (n : Nat) (x84 : Int) : f52_1 c lf l0_1 x80 (n + 1) x84 = f52_1_s c lf l0_1 x80 (f52_1 c lf l0_1 x80 n) x84 := rfl
theorem f52_1_eq (c : Orc) (lf : Nat) (l0_1 : List T) (x80 : Int) (n : Nat) (x84 : Int) :
    lpK c env lf 4 fi140 1 2 [] [0, 1, 7, 8] (x140_2_0) n (f52_1_c l0_1 x80 x84) = f52_1 c lf l0_1 x80 n x84 := by
  induction n generalizing x84 with
  | zero => rfl
  | succ n ih =>
    refine (f52_1_round c lf l0_1 x80 _ x84).trans ?_
    have e : (fun x84 => lpK c env lf 4 fi140 1 2 [] [0, 1, 7, 8] (x140_2_0) n (f52_1_c l0_1 x80 x84)) = f52_1 c lf l0_1 x80 n := by funext x84; exact ih x84
    show f52_1_s c lf l0_1 x80 (fun x84 => lpK c env lf 4 fi140 1 2 [] [0, 1, 7, 8] (x140_2_0) n (f52_1_c l0_1 x80 x84)) x84 = _
    rw [e]; rfl
/-- slices.IndexFunc[[]loop.example/g00285/impl.Row,loop.example/g00285/impl.Row], the loop at region 2. -/
def f52_2_s (c : Orc) (lf : Nat) (l0_1 : List T) (x80 : Int) (L : Int → Option (List T)) (x89 : Int) : Option (List T) :=
  bif iLt x89 ((l0_1.take x80.toNat).length : Int) then
    bif inR x89 ((l0_1.take x80.toNat).length) then
    bif (asS (T.cell ((l0_1.take x80.toNat).getD x89.toNat T.u) 1)).toList == (asS (T.cell (l0_1.getD x80.toNat T.u) 1)).toList then
      some [T.i .i64 0, T.i .i64 x89, T.i .i64 (asI (T.cell (l0_1.getD x80.toNat T.u) 0)), T.s (asS (T.cell (l0_1.getD x80.toNat T.u) 1)), T.b (asB (T.cell (l0_1.getD x80.toNat T.u) 2)), T.i .i64 (asI (T.cell (l0_1.getD x80.toNat T.u) 3)), T.i .i64 (asI (T.cell (l0_1.getD x80.toNat T.u) 4))]
    else
      L (IntKind.wrap .i64 (x89 + 1))
    else none
  else
    some [T.i .i64 1, T.i .i64 (asI (T.cell (l0_1.getD x80.toNat T.u) 0)), T.s (asS (T.cell (l0_1.getD x80.toNat T.u) 1)), T.b (asB (T.cell (l0_1.getD x80.toNat T.u) 2)), T.i .i64 (asI (T.cell (l0_1.getD x80.toNat T.u) 3)), T.i .i64 (asI (T.cell (l0_1.getD x80.toNat T.u) 4))]
def f52_2_c (l0_1 : List T) (x80 : Int) (x89 : Int) : CSt := ⟨[.ro 0 true [.i .i64, .s, .b, .i .i64, .i .i64] (l0_1.take x80.toNat), .fn 108 [.bp 0 0], .i .i64 ((l0_1.take x80.toNat).length : Int), .i .i64 x89], [.box [.i .i64 (asI (T.cell (l0_1.getD x80.toNat T.u) 0)), .s (asS (T.cell (l0_1.getD x80.toNat T.u) 1)), .b (asB (T.cell (l0_1.getD x80.toNat T.u) 2)), .i .i64 (asI (T.cell (l0_1.getD x80.toNat T.u) 3)), .i .i64 (asI (T.cell (l0_1.getD x80.toNat T.u) 4))]]⟩
theorem f52_2_round (c : Orc) (lf : Nat) (l0_1 : List T) (x80 : Int) (L : CSt → Option (List T)) (x89 : Int) :
    roundK c env lf 4 fi140 1 2 [] [0, 1, 7, 8] (x140_2_0) L (f52_2_c l0_1 x80 x89) = f52_2_s c lf l0_1 x80 (fun x89 => L (f52_2_c l0_1 x80 x89)) x89 := by kernel_rfl
def f52_2 (c : Orc) (lf : Nat) (l0_1 : List T) (x80 : Int) : Nat → Int → Option (List T)
  | 0 => fun _ => none
  | n + 1 => fun x89 => f52_2_s c lf l0_1 x80 (f52_2 c lf l0_1 x80 n) x89
theorem f52_2_u (c : Orc) (lf : Nat) (l0_1 : List T) (x80 : Int) (n : Nat) (x89 : Int) : f52_2 c lf l0_1 x80 (n + 1) x89 = f52_2_s c lf l0_1 x80 (f52_2 c lf l0_1 x80 n) x89 := rfl
theorem f52_2_eq (c : Orc) (lf : Nat) (l0_1 : List T) (x80 : Int) (n : Nat) (x89 : Int) :
    lpK c env lf 4 fi140 1 2 [] [0, 1, 7, 8] (x140_2_0) n (f52_2_c l0_1 x80 x89) = f52_2 c lf l0_1 x80 n x89 := by
  induction n generalizing x89 with
  | zero => rfl
  | succ n ih =>
    refine (f52_2_round c lf l0_1 x80 _ x89).trans ?_
    have e : (fun x89 => lpK c env lf 4 fi140 1 2 [] [0, 1, 7, 8] (x140_2_0) n (f52_2_c l0_1 x80 x89)) = f52_2 c lf l0_1 x80 n := by funext x89; exact ih x89
    show f52_2_s c lf l0_1 x80 (fun x89 => lpK c env lf 4 fi140 1 2 [] [0, 1, 7, 8] (x140_2_0) n (f52_2_c l0_1 x80 x89)) x89 = _
    rw [e]; rfl
/-- loop.example/g00285/impl.TableOk, the loop at region 2. -/
def f52_0_s (c : Orc) (lf : Nat) (l0_1 : List T) (n0_0 : Int) (L : Int → Option (List T)) (lp0 : List T → Int → Int → Option (List T)) (lp1 : List T → Int → Int → Option (List T)) (x80 : Int) : Option (List T) :=
  bif iLt x80 (l0_1.length : Int) then
    bif inR x80 l0_1.length then
    bif iLt (asI (T.cell (l0_1.getD x80.toNat T.u) 0)) 1 then
      some [T.i .i64 0, T.b false]
    else
      bif iLe n0_0 (asI (T.cell (l0_1.getD x80.toNat T.u) 0)) then
        some [T.i .i64 0, T.b false]
      else
        bif iLt 0 x80 then
          bif inR (IntKind.wrap .i64 (x80 - 1)) l0_1.length then
          bif iLe (asI (T.cell (l0_1.getD x80.toNat T.u) 0)) (asI (T.cell (l0_1.getD ((IntKind.wrap .i64 (x80 - 1)).toNat) T.u) 0)) then
            some [T.i .i64 0, T.b false]
          else
            (c 90 [T.s (asS (T.cell (l0_1.getD x80.toNat T.u) 1))]).bind fun r81 =>
            bif !(asB (nth r81 0)) then
              some [T.i .i64 0, T.b false]
            else
              (c 106 [T.i .i64 (asI (T.cell (l0_1.getD x80.toNat T.u) 3))]).bind fun r82 =>
              bif !(asB (nth r82 0)) then
                some [T.i .i64 0, T.b false]
              else
                (c 76 [T.i .i64 (asI (T.cell (l0_1.getD x80.toNat T.u) 4)), T.i .i64 0, T.i .i64 191]).bind fun r83 =>
                bif !(asB (nth r83 0)) then
                  some [T.i .i64 0, T.b false]
                else
                  bif iLe 0 x80 && iLe x80 (l0_1.length : Int) then
                  (lp0 l0_1 x80 0).bind fun r85 =>
                  bif asI (nth r85 0) == 0 then
                    bif iLe 0 (asI (nth r85 1)) then
                      some [T.i .i64 0, T.b false]
                    else
                      L (IntKind.wrap .i64 (x80 + 1))
                  else
                    L (IntKind.wrap .i64 (x80 + 1))
                  else none
          else none
        else
          (c 90 [T.s (asS (T.cell (l0_1.getD x80.toNat T.u) 1))]).bind fun r86 =>
          bif !(asB (nth r86 0)) then
            some [T.i .i64 0, T.b false]
          else
            (c 106 [T.i .i64 (asI (T.cell (l0_1.getD x80.toNat T.u) 3))]).bind fun r87 =>
            bif !(asB (nth r87 0)) then
              some [T.i .i64 0, T.b false]
            else
              (c 76 [T.i .i64 (asI (T.cell (l0_1.getD x80.toNat T.u) 4)), T.i .i64 0, T.i .i64 191]).bind fun r88 =>
              bif !(asB (nth r88 0)) then
                some [T.i .i64 0, T.b false]
              else
                bif iLe 0 x80 && iLe x80 (l0_1.length : Int) then
                (lp1 l0_1 x80 0).bind fun r90 =>
                bif asI (nth r90 0) == 0 then
                  bif iLe 0 (asI (nth r90 1)) then
                    some [T.i .i64 0, T.b false]
                  else
                    L (IntKind.wrap .i64 (x80 + 1))
                else
                  L (IntKind.wrap .i64 (x80 + 1))
                else none
    else none
  else
    some [T.i .i64 1, T.i .i64 n0_0, T.sl l0_1]
def f52_0_c (l0_1 : List T) (n0_0 : Int) (x80 : Int) : CSt := ⟨[.bp 2 0, .ro 0 true [.i .i64, .s, .b, .i .i64, .i .i64] l0_1, .i .i64 (l0_1.length : Int), .i .i64 x80], [.dead, .dead, .box [.i .i64 n0_0, .ro 0 true [.i .i64, .s, .b, .i .i64, .i .i64] l0_1]]⟩
theorem f52_0_round (c : Orc) (lf : Nat) (l0_1 : List T) (n0_0 : Int) (L : CSt → Option (List T)) (x80 : Int) :
    roundK c env lf 6 fi52 2 2 [] [1, 6, 7, 8] (x52_2_0) L (f52_0_c l0_1 n0_0 x80) = f52_0_s c lf l0_1 n0_0 (fun x80 => L (f52_0_c l0_1 n0_0 x80)) (fun (l0_1 : List T) (x80 : Int) (x84 : Int) => lpK c env lf 4 fi140 1 2 [] [0, 1, 7, 8] (x140_2_0) lf (f52_1_c l0_1 x80 x84)) (fun (l0_1 : List T) (x80 : Int) (x89 : Int) => lpK c env lf 4 fi140 1 2 [] [0, 1, 7, 8] (x140_2_0) lf (f52_2_c l0_1 x80 x89)) x80 := by kernel_rfl
def f52_0 (c : Orc) (lf : Nat) (l0_1 : List T) (n0_0 : Int) : Nat → Int → Option (List T)
  | 0 => fun _ => none
  | n + 1 => fun x80 => f52_0_s c lf l0_1 n0_0 (f52_0 c lf l0_1 n0_0 n) (fun (l0_1 : List T) (x80 : Int) (x84 : Int) => f52_1 c lf l0_1 x80 lf x84) (fun (l0_1 : List T) (x80 : Int) (x89 : Int) => f52_2 c lf l0_1 x80 lf x89) x80
theorem f52_0_u (c : Orc) (lf : Nat) (l0_1 : List T) (n0_0 : Int) (n : Nat) (x80 : Int) : f52_0 c lf l0_1 n0_0 (n + 1) x80 = f52_0_s c lf l0_1 n0_0 (f52_0 c lf l0_1 n0_0 n) (fun (l0_1 : List T) (x80 : Int) (x84 : Int) => f52_1 c lf l0_1 x80 lf x84) (fun (l0_1 : List T) (x80 : Int) (x89 : Int) => f52_2 c lf l0_1 x80 lf x89) x80 := rfl
theorem f52_0_eq (c : Orc) (lf : Nat) (l0_1 : List T) (n0_0 : Int) (n : Nat) (x80 : Int) :
    lpK c env lf 6 fi52 2 2 [] [1, 6, 7, 8] (x52_2_0) n (f52_0_c l0_1 n0_0 x80) = f52_0 c lf l0_1 n0_0 n x80 := by
  induction n generalizing x80 with
  | zero => rfl
  | succ n ih =>
    refine (f52_0_round c lf l0_1 n0_0 _ x80).trans ?_
    have e : (fun x80 => lpK c env lf 6 fi52 2 2 [] [1, 6, 7, 8] (x52_2_0) n (f52_0_c l0_1 n0_0 x80)) = f52_0 c lf l0_1 n0_0 n := by funext x80; exact ih x80
    have e0 : (fun (l0_1 : List T) (x80 : Int) (x84 : Int) => lpK c env lf 4 fi140 1 2 [] [0, 1, 7, 8] (x140_2_0) lf (f52_1_c l0_1 x80 x84)) = (fun (l0_1 : List T) (x80 : Int) (x84 : Int) => f52_1 c lf l0_1 x80 lf x84) := by funext l0_1 x80 x84; exact f52_1_eq c lf l0_1 x80 lf x84
    have e1 : (fun (l0_1 : List T) (x80 : Int) (x89 : Int) => lpK c env lf 4 fi140 1 2 [] [0, 1, 7, 8] (x140_2_0) lf (f52_2_c l0_1 x80 x89)) = (fun (l0_1 : List T) (x80 : Int) (x89 : Int) => f52_2 c lf l0_1 x80 lf x89) := by funext l0_1 x80 x89; exact f52_2_eq c lf l0_1 x80 lf x89
    show f52_0_s c lf l0_1 n0_0 (fun x80 => lpK c env lf 6 fi52 2 2 [] [1, 6, 7, 8] (x52_2_0) n (f52_0_c l0_1 n0_0 x80)) (fun (l0_1 : List T) (x80 : Int) (x84 : Int) => lpK c env lf 4 fi140 1 2 [] [0, 1, 7, 8] (x140_2_0) lf (f52_1_c l0_1 x80 x84)) (fun (l0_1 : List T) (x80 : Int) (x89 : Int) => lpK c env lf 4 fi140 1 2 [] [0, 1, 7, 8] (x140_2_0) lf (f52_2_c l0_1 x80 x89)) x80 = _
    rw [e, e0, e1]; rfl
/-- loop.example/g00285/impl.TableOk -/
def f52_t (c : Orc) (lf : Nat) (lp0 : List T → Int → Int → Option (List T)) (n0_0 : Int) (l0_1 : List T) : Option (List T) :=
  (lp0 l0_1 n0_0 0).bind fun r91 =>
  bif asI (nth r91 0) == 0 then
    some [T.b (asB (nth r91 1))]
  else
    (c 76 [T.i .i64 (asI (nth r91 1)), T.i .i64 1, T.i .i64 99]).bind fun r92 =>
    bif asB (nth r92 0) then
      some [T.b (iLe ((asL (nth r91 2)).length : Int) 6)]
    else
      some [T.b false]
def f52 (c : Orc) (lf : Nat) (n0_0 : Int) (l0_1 : List T) : Option (List T) := f52_t c lf (fun (l0_1 : List T) (n0_0 : Int) (x80 : Int) => f52_0 c lf l0_1 n0_0 lf x80) n0_0 l0_1
theorem f52_raw (c : Orc) (lf : Nat) (n0_0 : Int) (l0_1 : List T) : funK c env lf 6 fi52 [.st [.i .i64 n0_0, .sl l0_1]] = f52_t c lf (fun (l0_1 : List T) (n0_0 : Int) (x80 : Int) => lpK c env lf 6 fi52 2 2 [] [1, 6, 7, 8] (x52_2_0) lf (f52_0_c l0_1 n0_0 x80)) n0_0 l0_1 := by kernel_rfl
theorem f52_eq (c : Orc) (lf : Nat) (n0_0 : Int) (l0_1 : List T) : funK c env lf 6 fi52 [.st [.i .i64 n0_0, .sl l0_1]] = f52 c lf n0_0 l0_1 := by
  refine (f52_raw c lf n0_0 l0_1).trans ?_
  have e0 : (fun (l0_1 : List T) (n0_0 : Int) (x80 : Int) => lpK c env lf 6 fi52 2 2 [] [1, 6, 7, 8] (x52_2_0) lf (f52_0_c l0_1 n0_0 x80)) = (fun (l0_1 : List T) (n0_0 : Int) (x80 : Int) => f52_0 c lf l0_1 n0_0 lf x80) := by funext l0_1 n0_0 x80; exact f52_0_eq c lf l0_1 n0_0 lf x80
  rw [e0]; rfl
/-- loop.example/g00285/impl.PutNum, the loop at region 3. -/
def f67_0_s (c : Orc) (lf : Nat) (L : Int → List T → Option (List T)) (x98 : Int) (x99 : List T) : Option (List T) :=
  bif iLe 128 x98 then
    bif nLe (x99.length + ([T.i .u8 (IntKind.wrap .u8 (IntKind.wrap .i64 ((x98.tmod 128) + 128)))] : List T).length) LIM then
    L (IntKind.wrap .i64 (x98.tdiv 128)) (x99 ++ ([T.i .u8 (IntKind.wrap .u8 (IntKind.wrap .i64 ((x98.tmod 128) + 128)))] : List T))
    else none
  else
    some [T.i .i64 0, T.i .i64 x98, T.sl x99]
def f67_0_c (x98 : Int) (x99 : List T) : CSt := ⟨[.i .i64 x98, .rf 2 [] 0 none], [.dead, .dead, .row false [.i .u8] x99 0 false]⟩
theorem f67_0_round (c : Orc) (lf : Nat) (L : CSt → Option (List T)) (x98 : Int) (x99 : List T) :
    roundK c env lf 6 fi67 2 3 [] [1, 5] (x67_3_0) L (f67_0_c x98 x99) = f67_0_s c lf (fun x98 x99 => L (f67_0_c x98 x99)) x98 x99 := by kernel_rfl
def f67_0 (c : Orc) (lf : Nat) : Nat → Int → List T → Option (List T)
  | 0 => fun _ _ => none
  | n + 1 => fun x98 x99 => f67_0_s c lf (f67_0 c lf n) x98 x99
theorem f67_0_u (c : Orc) (lf : Nat) (n : Nat) (x98 : Int) (x99 : List T) : f67_0 c lf (n + 1) x98 x99 = f67_0_s c lf (f67_0 c lf n) x98 x99 := rfl
theorem f67_0_eq (c : Orc) (lf : Nat) (n : Nat) (x98 : Int) (x99 : List T) :
    lpK c env lf 6 fi67 2 3 [] [1, 5] (x67_3_0) n (f67_0_c x98 x99) = f67_0 c lf n x98 x99 := by
  induction n generalizing x98 x99 with
  | zero => rfl
  | succ n ih =>
    refine (f67_0_round c lf _ x98 x99).trans ?_
    have e : (fun x98 x99 => lpK c env lf 6 fi67 2 3 [] [1, 5] (x67_3_0) n (f67_0_c x98 x99)) = f67_0 c lf n := by funext x98 x99; exact ih x98 x99
    show f67_0_s c lf (fun x98 x99 => lpK c env lf 6 fi67 2 3 [] [1, 5] (x67_3_0) n (f67_0_c x98 x99)) x98 x99 = _
    rw [e]; rfl
/-- loop.example/g00285/impl.PutNum -/
def f67_t (c : Orc) (lf : Nat) (lp0 : Int → List T → Option (List T)) (l0 : List T) (n1 : Int) : Option (List T) :=
  (c 123 [T.sl l0]).bind fun r97 =>
  (lp0 (imax 0 (imin n1 1000000)) (asL (nth r97 0))).bind fun r100 =>
  bif nLe ((asL (nth r100 2)).length + ([T.i .u8 (IntKind.wrap .u8 (asI (nth r100 1)))] : List T).length) LIM then
  some [T.sl ((asL (nth r100 2)) ++ ([T.i .u8 (IntKind.wrap .u8 (asI (nth r100 1)))] : List T))]
  else none
def f67 (c : Orc) (lf : Nat) (l0 : List T) (n1 : Int) : Option (List T) := f67_t c lf (fun (x98 : Int) (x99 : List T) => f67_0 c lf lf x98 x99) l0 n1
theorem f67_raw (c : Orc) (lf : Nat) (l0 : List T) (n1 : Int) : funK c env lf 6 fi67 [.sl l0, .i .i64 n1] = f67_t c lf (fun (x98 : Int) (x99 : List T) => lpK c env lf 6 fi67 2 3 [] [1, 5] (x67_3_0) lf (f67_0_c x98 x99)) l0 n1 := by kernel_rfl
theorem f67_eq (c : Orc) (lf : Nat) (l0 : List T) (n1 : Int) : funK c env lf 6 fi67 [.sl l0, .i .i64 n1] = f67 c lf l0 n1 := by
  refine (f67_raw c lf l0 n1).trans ?_
  have e0 : (fun (x98 : Int) (x99 : List T) => lpK c env lf 6 fi67 2 3 [] [1, 5] (x67_3_0) lf (f67_0_c x98 x99)) = (fun (x98 : Int) (x99 : List T) => f67_0 c lf lf x98 x99) := by funext x98 x99; exact f67_0_eq c lf lf x98 x99
  rw [e0]; rfl
/-- loop.example/g00285/impl.PutText -/
def f82_t (c : Orc) (lf : Nat) (l0 : List T) (s1 : ByteArray) : Option (List T) :=
  (c 67 [T.sl l0, T.i .i64 (s1.size : Int)]).bind fun r101 =>
  bif nLe ((asL (nth r101 0)).length + (listOf s1).length) LIM then
  some [T.sl ((asL (nth r101 0)) ++ (listOf s1))]
  else none
def f82 (c : Orc) (lf : Nat) (l0 : List T) (s1 : ByteArray) : Option (List T) := f82_t c lf l0 s1
theorem f82_raw (c : Orc) (lf : Nat) (l0 : List T) (s1 : ByteArray) : funK c env lf 6 fi82 [.sl l0, .s s1] = f82_t c lf l0 s1 := by kernel_rfl
theorem f82_eq (c : Orc) (lf : Nat) (l0 : List T) (s1 : ByteArray) : funK c env lf 6 fi82 [.sl l0, .s s1] = f82 c lf l0 s1 := by
  refine (f82_raw c lf l0 s1).trans ?_
  rfl
/-- loop.example/g00285/impl.PutTable, the loop at region 5. -/
def f26_0_s (c : Orc) (lf : Nat) (l0_1 : List T) (L : Int → List T → Option (List T)) (x135 : Int) (x136 : List T) : Option (List T) :=
  bif iLt x135 (l0_1.length : Int) then
    bif inR x135 l0_1.length then
    (c 67 [T.sl x136, T.i .i64 (asI (T.cell (l0_1.getD x135.toNat T.u) 0))]).bind fun r137 =>
    (c 82 [T.sl (asL (nth r137 0)), T.s (asS (T.cell (l0_1.getD x135.toNat T.u) 1))]).bind fun r138 =>
    bif asB (T.cell (l0_1.getD x135.toNat T.u) 2) then
      (c 67 [T.sl (asL (nth r138 0)), T.i .i64 1]).bind fun r139 =>
      (c 67 [T.sl (asL (nth r139 0)), T.i .i64 (asI (T.cell (l0_1.getD x135.toNat T.u) 3))]).bind fun r140 =>
      (c 67 [T.sl (asL (nth r140 0)), T.i .i64 (asI (T.cell (l0_1.getD x135.toNat T.u) 4))]).bind fun r141 =>
      L (IntKind.wrap .i64 (x135 + 1)) (asL (nth r141 0))
    else
      (c 67 [T.sl (asL (nth r138 0)), T.i .i64 0]).bind fun r142 =>
      (c 67 [T.sl (asL (nth r142 0)), T.i .i64 (asI (T.cell (l0_1.getD x135.toNat T.u) 3))]).bind fun r143 =>
      (c 67 [T.sl (asL (nth r143 0)), T.i .i64 (asI (T.cell (l0_1.getD x135.toNat T.u) 4))]).bind fun r144 =>
      L (IntKind.wrap .i64 (x135 + 1)) (asL (nth r144 0))
    else none
  else
    some [T.i .i64 0, T.sl x136]
def f26_0_c (l0_1 : List T) (x135 : Int) (x136 : List T) : CSt := ⟨[.rf 2 [] 0 none, .ro 0 true [.i .i64, .s, .b, .i .i64, .i .i64] l0_1, .i .i64 (l0_1.length : Int), .i .i64 x135], [.dead, .dead, .row false [.i .u8] x136 0 false]⟩
theorem f26_0_round (c : Orc) (lf : Nat) (l0_1 : List T) (L : CSt → Option (List T)) (x135 : Int) (x136 : List T) :
    roundK c env lf 6 fi26 2 5 [] [3, 18, 19, 20] (x26_5_0) L (f26_0_c l0_1 x135 x136) = f26_0_s c lf l0_1 (fun x135 x136 => L (f26_0_c l0_1 x135 x136)) x135 x136 := by kernel_rfl
def f26_0 (c : Orc) (lf : Nat) (l0_1 : List T) : Nat → Int → List T → Option (List T)
  | 0 => fun _ _ => none
  | n + 1 => fun x135 x136 => f26_0_s c lf l0_1 (f26_0 c lf l0_1 n) x135 x136
theorem f26_0_u (c : Orc) (lf : Nat) (l0_1 : List T) (n : Nat) (x135 : Int) (x136 : List T) : f26_0 c lf l0_1 (n + 1) x135 x136 = f26_0_s c lf l0_1 (f26_0 c lf l0_1 n) x135 x136 := rfl
theorem f26_0_eq (c : Orc) (lf : Nat) (l0_1 : List T) (n : Nat) (x135 : Int) (x136 : List T) :
    lpK c env lf 6 fi26 2 5 [] [3, 18, 19, 20] (x26_5_0) n (f26_0_c l0_1 x135 x136) = f26_0 c lf l0_1 n x135 x136 := by
  induction n generalizing x135 x136 with
  | zero => rfl
  | succ n ih =>
    refine (f26_0_round c lf l0_1 _ x135 x136).trans ?_
    have e : (fun x135 x136 => lpK c env lf 6 fi26 2 5 [] [3, 18, 19, 20] (x26_5_0) n (f26_0_c l0_1 x135 x136)) = f26_0 c lf l0_1 n := by funext x135 x136; exact ih x135 x136
    show f26_0_s c lf l0_1 (fun x135 x136 => lpK c env lf 6 fi26 2 5 [] [3, 18, 19, 20] (x26_5_0) n (f26_0_c l0_1 x135 x136)) x135 x136 = _
    rw [e]; rfl
/-- loop.example/g00285/impl.PutTable -/
def f26_t (c : Orc) (lf : Nat) (lp0 : List T → Int → List T → Option (List T)) (n0_0 : Int) (l0_1 : List T) : Option (List T) :=
  (c 52 [T.st [T.i .i64 n0_0, T.sl l0_1]]).bind fun r124 =>
  bif !(asB (nth r124 0)) then
    some [T.sl []]
  else
    (c 67 [T.sl ([] : List T), T.i .i64 n0_0]).bind fun r125 =>
    (c 67 [T.sl (asL (nth r125 0)), T.i .i64 (l0_1.length : Int)]).bind fun r126 =>
    (lp0 l0_1 0 (asL (nth r126 0))).bind fun r145 =>
    some [T.sl (asL (nth r145 1))]
def f26 (c : Orc) (lf : Nat) (n0_0 : Int) (l0_1 : List T) : Option (List T) := f26_t c lf (fun (l0_1 : List T) (x135 : Int) (x136 : List T) => f26_0 c lf l0_1 lf x135 x136) n0_0 l0_1
theorem f26_raw (c : Orc) (lf : Nat) (n0_0 : Int) (l0_1 : List T) : funK c env lf 6 fi26 [.st [.i .i64 n0_0, .sl l0_1]] = f26_t c lf (fun (l0_1 : List T) (x135 : Int) (x136 : List T) => lpK c env lf 6 fi26 2 5 [] [3, 18, 19, 20] (x26_5_0) lf (f26_0_c l0_1 x135 x136)) n0_0 l0_1 := by kernel_rfl
theorem f26_eq (c : Orc) (lf : Nat) (n0_0 : Int) (l0_1 : List T) : funK c env lf 6 fi26 [.st [.i .i64 n0_0, .sl l0_1]] = f26 c lf n0_0 l0_1 := by
  refine (f26_raw c lf n0_0 l0_1).trans ?_
  have e0 : (fun (l0_1 : List T) (x135 : Int) (x136 : List T) => lpK c env lf 6 fi26 2 5 [] [3, 18, 19, 20] (x26_5_0) lf (f26_0_c l0_1 x135 x136)) = (fun (l0_1 : List T) (x135 : Int) (x136 : List T) => f26_0 c lf l0_1 lf x135 x136) := by funext l0_1 x135 x136; exact f26_0_eq c lf l0_1 lf x135 x136
  rw [e0]; rfl
/-- loop.example/g00285/spec.l1In -/
def f77_t (c : Orc) (lf : Nat) (n0 : Int) (n1 : Int) (n2 : Int) : Option (List T) :=
  bif iLe n1 n0 then
    some [T.b (iLe n0 n2)]
  else
    some [T.b false]
def f77 (c : Orc) (lf : Nat) (n0 : Int) (n1 : Int) (n2 : Int) : Option (List T) := f77_t c lf n0 n1 n2
theorem f77_raw (c : Orc) (lf : Nat) (n0 : Int) (n1 : Int) (n2 : Int) : funK c env lf 6 fi77 [.i .i64 n0, .i .i64 n1, .i .i64 n2] = f77_t c lf n0 n1 n2 := by kernel_rfl
theorem f77_eq (c : Orc) (lf : Nat) (n0 : Int) (n1 : Int) (n2 : Int) : funK c env lf 6 fi77 [.i .i64 n0, .i .i64 n1, .i .i64 n2] = f77 c lf n0 n1 n2 := by
  refine (f77_raw c lf n0 n1 n2).trans ?_
  rfl
/-- loop.example/g00285/spec.NameOk, the loop at region 2. -/
def f109_0_s (c : Orc) (lf : Nat) (s0 : ByteArray) (L : Int → Option (List T)) (x155 : Int) : Option (List T) :=
  bif iLt x155 (s0.size : Int) then
    bif inR x155 s0.size then
    (c 77 [T.i .i64 (IntKind.wrap .i64 (byteAt s0 x155)), T.i .i64 97, T.i .i64 122]).bind fun r156 =>
    bif !(asB (nth r156 0)) then
      (c 77 [T.i .i64 (IntKind.wrap .i64 (byteAt s0 x155)), T.i .i64 48, T.i .i64 57]).bind fun r157 =>
      bif !(asB (nth r157 0)) then
        bif (IntKind.wrap .i64 (byteAt s0 x155)) != 95 then
          bif (IntKind.wrap .i64 (byteAt s0 x155)) != 45 then
            bif (IntKind.wrap .i64 (byteAt s0 x155)) != 46 then
              some [T.i .i64 0, T.b false]
            else
              L (IntKind.wrap .i64 (x155 + 1))
          else
            L (IntKind.wrap .i64 (x155 + 1))
        else
          L (IntKind.wrap .i64 (x155 + 1))
      else
        L (IntKind.wrap .i64 (x155 + 1))
    else
      L (IntKind.wrap .i64 (x155 + 1))
    else none
  else
    some [T.i .i64 1, T.s s0]
def f109_0_c (s0 : ByteArray) (x155 : Int) : CSt := ⟨[.s s0, .i .i64 x155], [.dead]⟩
theorem f109_0_round (c : Orc) (lf : Nat) (s0 : ByteArray) (L : CSt → Option (List T)) (x155 : Int) :
    roundK c env lf 6 fi109 1 2 [] [0, 3] (x109_2_0) L (f109_0_c s0 x155) = f109_0_s c lf s0 (fun x155 => L (f109_0_c s0 x155)) x155 := by kernel_rfl
def f109_0 (c : Orc) (lf : Nat) (s0 : ByteArray) : Nat → Int → Option (List T)
  | 0 => fun _ => none
  | n + 1 => fun x155 => f109_0_s c lf s0 (f109_0 c lf s0 n) x155
theorem f109_0_u (c : Orc) (lf : Nat) (s0 : ByteArray) (n : Nat) (x155 : Int) : f109_0 c lf s0 (n + 1) x155 = f109_0_s c lf s0 (f109_0 c lf s0 n) x155 := rfl
theorem f109_0_eq (c : Orc) (lf : Nat) (s0 : ByteArray) (n : Nat) (x155 : Int) :
    lpK c env lf 6 fi109 1 2 [] [0, 3] (x109_2_0) n (f109_0_c s0 x155) = f109_0 c lf s0 n x155 := by
  induction n generalizing x155 with
  | zero => rfl
  | succ n ih =>
    refine (f109_0_round c lf s0 _ x155).trans ?_
    have e : (fun x155 => lpK c env lf 6 fi109 1 2 [] [0, 3] (x109_2_0) n (f109_0_c s0 x155)) = f109_0 c lf s0 n := by funext x155; exact ih x155
    show f109_0_s c lf s0 (fun x155 => lpK c env lf 6 fi109 1 2 [] [0, 3] (x109_2_0) n (f109_0_c s0 x155)) x155 = _
    rw [e]; rfl
/-- loop.example/g00285/spec.NameOk -/
def f109_t (c : Orc) (lf : Nat) (lp0 : ByteArray → Int → Option (List T)) (s0 : ByteArray) : Option (List T) :=
  (lp0 s0 0).bind fun r158 =>
  bif asI (nth r158 0) == 0 then
    some [T.b (asB (nth r158 1))]
  else
    (c 77 [T.i .i64 ((asS (nth r158 1)).size : Int), T.i .i64 1, T.i .i64 14]).bind fun r159 =>
    bif asB (nth r159 0) then
      bif !((asS (nth r158 1)).toList == (⟨#[46]⟩ : ByteArray).toList) then
        some [T.b (!((asS (nth r158 1)).toList == (⟨#[46, 46]⟩ : ByteArray).toList))]
      else
        some [T.b false]
    else
      some [T.b false]
def f109 (c : Orc) (lf : Nat) (s0 : ByteArray) : Option (List T) := f109_t c lf (fun (s0 : ByteArray) (x155 : Int) => f109_0 c lf s0 lf x155) s0
theorem f109_raw (c : Orc) (lf : Nat) (s0 : ByteArray) : funK c env lf 6 fi109 [.s s0] = f109_t c lf (fun (s0 : ByteArray) (x155 : Int) => lpK c env lf 6 fi109 1 2 [] [0, 3] (x109_2_0) lf (f109_0_c s0 x155)) s0 := by kernel_rfl
theorem f109_eq (c : Orc) (lf : Nat) (s0 : ByteArray) : funK c env lf 6 fi109 [.s s0] = f109 c lf s0 := by
  refine (f109_raw c lf s0).trans ?_
  have e0 : (fun (s0 : ByteArray) (x155 : Int) => lpK c env lf 6 fi109 1 2 [] [0, 3] (x109_2_0) lf (f109_0_c s0 x155)) = (fun (s0 : ByteArray) (x155 : Int) => f109_0 c lf s0 lf x155) := by funext s0 x155; exact f109_0_eq c lf s0 lf x155
  rw [e0]; rfl
/-- loop.example/g00285/spec.TableOk, the loop at region 8. -/
def f53_1_s (c : Orc) (lf : Nat) (x180 : Int) (x181 : Int) (x182 : List T) (L : Int → Option (List T)) (x186 : Int) : Option (List T) :=
  bif iLt x186 x180 then
    bif inR x186 x182.length then
    bif (asS (T.cell (x182.getD x186.toNat T.u) 1)).toList == (asS (T.cell (x182.getD x180.toNat T.u) 1)).toList then
      some [T.i .i64 1, T.b false]
    else
      L (IntKind.wrap .i64 (x186 + 1))
    else none
  else
    some [T.i .i64 0, T.i .i64 x180, T.i .i64 x181, T.sl x182]
def f53_1_c (x180 : Int) (x181 : Int) (x182 : List T) (x186 : Int) : CSt := ⟨[.bp 2 0, .i .i64 x180, .bp 3 0, .i .i64 x186], [.dead, .dead, .box [.i .i64 x181, .ro 0 true [.i .i64, .s, .b, .i .i64, .i .i64] x182], .box [.i .i64 (asI (T.cell (x182.getD x180.toNat T.u) 0)), .s (asS (T.cell (x182.getD x180.toNat T.u) 1)), .b (asB (T.cell (x182.getD x180.toNat T.u) 2)), .i .i64 (asI (T.cell (x182.getD x180.toNat T.u) 3)), .i .i64 (asI (T.cell (x182.getD x180.toNat T.u) 4))]]⟩
theorem f53_1_round (c : Orc) (lf : Nat) (x180 : Int) (x181 : Int) (x182 : List T) (L : CSt → Option (List T)) (x186 : Int) :
    roundK c env lf 6 fi53 2 8 [] [1, 3, 4, 5] (x53_8_0) L (f53_1_c x180 x181 x182 x186) = f53_1_s c lf x180 x181 x182 (fun x186 => L (f53_1_c x180 x181 x182 x186)) x186 := by kernel_rfl
def f53_1 (c : Orc) (lf : Nat) (x180 : Int) (x181 : Int) (x182 : List T) : Nat → Int → Option (List T)
  | 0 => fun _ => none
  | n + 1 => fun x186 => f53_1_s c lf x180 x181 x182 (f53_1 c lf x180 x181 x182 n) x186
theorem f53_1_u (c : Orc) (lf : Nat) (x180 : Int) (x181 : Int) (x182 : List T) (n : Nat) (x186 : Int) : f53_1 c lf x180 x181 x182 (n + 1) x186 = f53_1_s c lf x180 x181 x182 (f53_1 c lf x180 x181 x182 n) x186 := rfl
theorem f53_1_eq (c : Orc) (lf : Nat) (x180 : Int) (x181 : Int) (x182 : List T) (n : Nat) (x186 : Int) :
    lpK c env lf 6 fi53 2 8 [] [1, 3, 4, 5] (x53_8_0) n (f53_1_c x180 x181 x182 x186) = f53_1 c lf x180 x181 x182 n x186 := by
  induction n generalizing x186 with
  | zero => rfl
  | succ n ih =>
    refine (f53_1_round c lf x180 x181 x182 _ x186).trans ?_
    have e : (fun x186 => lpK c env lf 6 fi53 2 8 [] [1, 3, 4, 5] (x53_8_0) n (f53_1_c x180 x181 x182 x186)) = f53_1 c lf x180 x181 x182 n := by funext x186; exact ih x186
    show f53_1_s c lf x180 x181 x182 (fun x186 => lpK c env lf 6 fi53 2 8 [] [1, 3, 4, 5] (x53_8_0) n (f53_1_c x180 x181 x182 x186)) x186 = _
    rw [e]; rfl
/-- loop.example/g00285/spec.TableOk, the loop at region 8. -/
def f53_2_s (c : Orc) (lf : Nat) (x180 : Int) (x181 : Int) (x182 : List T) (L : Int → Option (List T)) (x188 : Int) : Option (List T) :=
  bif iLt x188 x180 then
    bif inR x188 x182.length then
    bif (asS (T.cell (x182.getD x188.toNat T.u) 1)).toList == (asS (T.cell (x182.getD x180.toNat T.u) 1)).toList then
      some [T.i .i64 1, T.b false]
    else
      L (IntKind.wrap .i64 (x188 + 1))
    else none
  else
    some [T.i .i64 0, T.i .i64 x180, T.i .i64 x181, T.sl x182]
def f53_2_c (x180 : Int) (x181 : Int) (x182 : List T) (x188 : Int) : CSt := ⟨[.bp 2 0, .i .i64 x180, .bp 3 0, .i .i64 x188], [.dead, .dead, .box [.i .i64 x181, .ro 0 true [.i .i64, .s, .b, .i .i64, .i .i64] x182], .box [.i .i64 (asI (T.cell (x182.getD x180.toNat T.u) 0)), .s (asS (T.cell (x182.getD x180.toNat T.u) 1)), .b (asB (T.cell (x182.getD x180.toNat T.u) 2)), .i .i64 (asI (T.cell (x182.getD x180.toNat T.u) 3)), .i .i64 (asI (T.cell (x182.getD x180.toNat T.u) 4))]]⟩
theorem f53_2_round (c : Orc) (lf : Nat) (x180 : Int) (x181 : Int) (x182 : List T) (L : CSt → Option (List T)) (x188 : Int) :
    roundK c env lf 6 fi53 2 8 [] [1, 3, 4, 5] (x53_8_0) L (f53_2_c x180 x181 x182 x188) = f53_2_s c lf x180 x181 x182 (fun x188 => L (f53_2_c x180 x181 x182 x188)) x188 := by kernel_rfl
def f53_2 (c : Orc) (lf : Nat) (x180 : Int) (x181 : Int) (x182 : List T) : Nat → Int → Option (List T)
  | 0 => fun _ => none
  | n + 1 => fun x188 => f53_2_s c lf x180 x181 x182 (f53_2 c lf x180 x181 x182 n) x188
theorem f53_2_u (c : Orc) (lf : Nat) (x180 : Int) (x181 : Int) (x182 : List T) (n : Nat) (x188 : Int) : f53_2 c lf x180 x181 x182 (n + 1) x188 = f53_2_s c lf x180 x181 x182 (f53_2 c lf x180 x181 x182 n) x188 := rfl
theorem f53_2_eq (c : Orc) (lf : Nat) (x180 : Int) (x181 : Int) (x182 : List T) (n : Nat) (x188 : Int) :
    lpK c env lf 6 fi53 2 8 [] [1, 3, 4, 5] (x53_8_0) n (f53_2_c x180 x181 x182 x188) = f53_2 c lf x180 x181 x182 n x188 := by
  induction n generalizing x188 with
  | zero => rfl
  | succ n ih =>
    refine (f53_2_round c lf x180 x181 x182 _ x188).trans ?_
    have e : (fun x188 => lpK c env lf 6 fi53 2 8 [] [1, 3, 4, 5] (x53_8_0) n (f53_2_c x180 x181 x182 x188)) = f53_2 c lf x180 x181 x182 n := by funext x188; exact ih x188
    show f53_2_s c lf x180 x181 x182 (fun x188 => lpK c env lf 6 fi53 2 8 [] [1, 3, 4, 5] (x53_8_0) n (f53_2_c x180 x181 x182 x188)) x188 = _
    rw [e]; rfl
/-- loop.example/g00285/spec.TableOk, the loop at region 2. -/
def f53_0_s (c : Orc) (lf : Nat) (L : Int → Int → List T → Option (List T)) (lp0 : Int → Int → List T → Int → Option (List T)) (lp1 : Int → Int → List T → Int → Option (List T)) (x180 : Int) (x181 : Int) (x182 : List T) : Option (List T) :=
  bif iLt x180 (x182.length : Int) then
    bif inR x180 x182.length then
    bif iLt (asI (T.cell (x182.getD x180.toNat T.u) 0)) 1 then
      some [T.i .i64 0, T.b false]
    else
      bif iLe x181 (asI (T.cell (x182.getD x180.toNat T.u) 0)) then
        some [T.i .i64 0, T.b false]
      else
        (c 109 [T.s (asS (T.cell (x182.getD x180.toNat T.u) 1))]).bind fun r183 =>
        bif !(asB (nth r183 0)) then
          some [T.i .i64 0, T.b false]
        else
          (c 77 [T.i .i64 (asI (T.cell (x182.getD x180.toNat T.u) 3)), T.i .i64 32, T.i .i64 4000]).bind fun r184 =>
          bif !(asB (nth r184 0)) then
            some [T.i .i64 0, T.b false]
          else
            (c 77 [T.i .i64 (asI (T.cell (x182.getD x180.toNat T.u) 4)), T.i .i64 0, T.i .i64 191]).bind fun r185 =>
            bif !(asB (nth r185 0)) then
              some [T.i .i64 0, T.b false]
            else
              bif iLt 0 x180 then
                bif inR (IntKind.wrap .i64 (x180 - 1)) x182.length then
                bif iLe (asI (T.cell (x182.getD x180.toNat T.u) 0)) (asI (T.cell (x182.getD ((IntKind.wrap .i64 (x180 - 1)).toNat) T.u) 0)) then
                  some [T.i .i64 0, T.b false]
                else
                  (lp0 x180 x181 x182 0).bind fun r187 =>
                  bif asI (nth r187 0) == 0 then
                    L (IntKind.wrap .i64 ((asI (nth r187 1)) + 1)) (asI (nth r187 2)) (asL (nth r187 3))
                  else
                    some [T.i .i64 0, T.b (asB (nth r187 1))]
                else none
              else
                (lp1 x180 x181 x182 0).bind fun r189 =>
                bif asI (nth r189 0) == 0 then
                  L (IntKind.wrap .i64 ((asI (nth r189 1)) + 1)) (asI (nth r189 2)) (asL (nth r189 3))
                else
                  some [T.i .i64 0, T.b (asB (nth r189 1))]
    else none
  else
    some [T.i .i64 1, T.i .i64 x181, T.sl x182]
def f53_0_c (x180 : Int) (x181 : Int) (x182 : List T) : CSt := ⟨[.bp 2 0, .i .i64 x180], [.dead, .dead, .box [.i .i64 x181, .ro 0 true [.i .i64, .s, .b, .i .i64, .i .i64] x182]]⟩
theorem f53_0_round (c : Orc) (lf : Nat) (L : CSt → Option (List T)) (x180 : Int) (x181 : Int) (x182 : List T) :
    roundK c env lf 6 fi53 2 2 [] [1, 3] (x53_2_0) L (f53_0_c x180 x181 x182) = f53_0_s c lf (fun x180 x181 x182 => L (f53_0_c x180 x181 x182)) (fun (x180 : Int) (x181 : Int) (x182 : List T) (x186 : Int) => lpK c env lf 6 fi53 2 8 [] [1, 3, 4, 5] (x53_8_0) lf (f53_1_c x180 x181 x182 x186)) (fun (x180 : Int) (x181 : Int) (x182 : List T) (x188 : Int) => lpK c env lf 6 fi53 2 8 [] [1, 3, 4, 5] (x53_8_0) lf (f53_2_c x180 x181 x182 x188)) x180 x181 x182 := by kernel_rfl
def f53_0 (c : Orc) (lf : Nat) : Nat → Int → Int → List T → Option (List T)
  | 0 => fun _ _ _ => none
  | n + 1 => fun x180 x181 x182 => f53_0_s c lf (f53_0 c lf n) (fun (x180 : Int) (x181 : Int) (x182 : List T) (x186 : Int) => f53_1 c lf x180 x181 x182 lf x186) (fun (x180 : Int) (x181 : Int) (x182 : List T) (x188 : Int) => f53_2 c lf x180 x181 x182 lf x188) x180 x181 x182
theorem f53_0_u (c : Orc) (lf : Nat) (n : Nat) (x180 : Int) (x181 : Int) (x182 : List T) : f53_0 c lf (n + 1) x180 x181 x182 = f53_0_s c lf (f53_0 c lf n) (fun (x180 : Int) (x181 : Int) (x182 : List T) (x186 : Int) => f53_1 c lf x180 x181 x182 lf x186) (fun (x180 : Int) (x181 : Int) (x182 : List T) (x188 : Int) => f53_2 c lf x180 x181 x182 lf x188) x180 x181 x182 := rfl
theorem f53_0_eq (c : Orc) (lf : Nat) (n : Nat) (x180 : Int) (x181 : Int) (x182 : List T) :
    lpK c env lf 6 fi53 2 2 [] [1, 3] (x53_2_0) n (f53_0_c x180 x181 x182) = f53_0 c lf n x180 x181 x182 := by
  induction n generalizing x180 x181 x182 with
  | zero => rfl
  | succ n ih =>
    refine (f53_0_round c lf _ x180 x181 x182).trans ?_
    have e : (fun x180 x181 x182 => lpK c env lf 6 fi53 2 2 [] [1, 3] (x53_2_0) n (f53_0_c x180 x181 x182)) = f53_0 c lf n := by funext x180 x181 x182; exact ih x180 x181 x182
    have e0 : (fun (x180 : Int) (x181 : Int) (x182 : List T) (x186 : Int) => lpK c env lf 6 fi53 2 8 [] [1, 3, 4, 5] (x53_8_0) lf (f53_1_c x180 x181 x182 x186)) = (fun (x180 : Int) (x181 : Int) (x182 : List T) (x186 : Int) => f53_1 c lf x180 x181 x182 lf x186) := by funext x180 x181 x182 x186; exact f53_1_eq c lf x180 x181 x182 lf x186
    have e1 : (fun (x180 : Int) (x181 : Int) (x182 : List T) (x188 : Int) => lpK c env lf 6 fi53 2 8 [] [1, 3, 4, 5] (x53_8_0) lf (f53_2_c x180 x181 x182 x188)) = (fun (x180 : Int) (x181 : Int) (x182 : List T) (x188 : Int) => f53_2 c lf x180 x181 x182 lf x188) := by funext x180 x181 x182 x188; exact f53_2_eq c lf x180 x181 x182 lf x188
    show f53_0_s c lf (fun x180 x181 x182 => lpK c env lf 6 fi53 2 2 [] [1, 3] (x53_2_0) n (f53_0_c x180 x181 x182)) (fun (x180 : Int) (x181 : Int) (x182 : List T) (x186 : Int) => lpK c env lf 6 fi53 2 8 [] [1, 3, 4, 5] (x53_8_0) lf (f53_1_c x180 x181 x182 x186)) (fun (x180 : Int) (x181 : Int) (x182 : List T) (x188 : Int) => lpK c env lf 6 fi53 2 8 [] [1, 3, 4, 5] (x53_8_0) lf (f53_2_c x180 x181 x182 x188)) x180 x181 x182 = _
    rw [e, e0, e1]; rfl
/-- loop.example/g00285/spec.TableOk -/
def f53_t (c : Orc) (lf : Nat) (lp0 : Int → Int → List T → Option (List T)) (n0_0 : Int) (l0_1 : List T) : Option (List T) :=
  (lp0 0 n0_0 l0_1).bind fun r190 =>
  bif asI (nth r190 0) == 0 then
    some [T.b (asB (nth r190 1))]
  else
    bif iLe ((asL (nth r190 2)).length : Int) 6 then
      (c 77 [T.i .i64 (asI (nth r190 1)), T.i .i64 1, T.i .i64 99]).bind fun r191 =>
      some [T.b (asB (nth r191 0))]
    else
      some [T.b false]
def f53 (c : Orc) (lf : Nat) (n0_0 : Int) (l0_1 : List T) : Option (List T) := f53_t c lf (fun (x180 : Int) (x181 : Int) (x182 : List T) => f53_0 c lf lf x180 x181 x182) n0_0 l0_1
theorem f53_raw (c : Orc) (lf : Nat) (n0_0 : Int) (l0_1 : List T) : funK c env lf 6 fi53 [.st [.i .i64 n0_0, .sl l0_1]] = f53_t c lf (fun (x180 : Int) (x181 : Int) (x182 : List T) => lpK c env lf 6 fi53 2 2 [] [1, 3] (x53_2_0) lf (f53_0_c x180 x181 x182)) n0_0 l0_1 := by kernel_rfl
theorem f53_eq (c : Orc) (lf : Nat) (n0_0 : Int) (l0_1 : List T) : funK c env lf 6 fi53 [.st [.i .i64 n0_0, .sl l0_1]] = f53 c lf n0_0 l0_1 := by
  refine (f53_raw c lf n0_0 l0_1).trans ?_
  have e0 : (fun (x180 : Int) (x181 : Int) (x182 : List T) => lpK c env lf 6 fi53 2 2 [] [1, 3] (x53_2_0) lf (f53_0_c x180 x181 x182)) = (fun (x180 : Int) (x181 : Int) (x182 : List T) => f53_0 c lf lf x180 x181 x182) := by funext x180 x181 x182; exact f53_0_eq c lf lf x180 x181 x182
  rw [e0]; rfl
/-- loop.example/g00285/spec.PutNum, the loop at region 6. -/
def f79_0_s (c : Orc) (lf : Nat) (L : Int → List T → Option (List T)) (x199 : Int) (x200 : List T) : Option (List T) :=
  bif iLt 127 x199 then
    bif nLe (x200.length + ([T.i .u8 (IntKind.wrap .u8 (intBits .or .i64 (intBits .and .i64 x199 127) 128))] : List T).length) LIM then
    L (shiftI .shr .i64 x199 7) (x200 ++ ([T.i .u8 (IntKind.wrap .u8 (intBits .or .i64 (intBits .and .i64 x199 127) 128))] : List T))
    else none
  else
    some [T.i .i64 0, T.i .i64 x199, T.sl x200]
def f79_0_c (x199 : Int) (x200 : List T) : CSt := ⟨[.i .i64 x199, .rf 2 [] 0 none], [.dead, .dead, .row false [.i .u8] x200 0 false]⟩
theorem f79_0_round (c : Orc) (lf : Nat) (L : CSt → Option (List T)) (x199 : Int) (x200 : List T) :
    roundK c env lf 6 fi79 2 6 [] [1, 5] (x79_6_0) L (f79_0_c x199 x200) = f79_0_s c lf (fun x199 x200 => L (f79_0_c x199 x200)) x199 x200 := by kernel_rfl
def f79_0 (c : Orc) (lf : Nat) : Nat → Int → List T → Option (List T)
  | 0 => fun _ _ => none
  | n + 1 => fun x199 x200 => f79_0_s c lf (f79_0 c lf n) x199 x200
theorem f79_0_u (c : Orc) (lf : Nat) (n : Nat) (x199 : Int) (x200 : List T) : f79_0 c lf (n + 1) x199 x200 = f79_0_s c lf (f79_0 c lf n) x199 x200 := rfl
theorem f79_0_eq (c : Orc) (lf : Nat) (n : Nat) (x199 : Int) (x200 : List T) :
    lpK c env lf 6 fi79 2 6 [] [1, 5] (x79_6_0) n (f79_0_c x199 x200) = f79_0 c lf n x199 x200 := by
  induction n generalizing x199 x200 with
  | zero => rfl
  | succ n ih =>
    refine (f79_0_round c lf _ x199 x200).trans ?_
    have e : (fun x199 x200 => lpK c env lf 6 fi79 2 6 [] [1, 5] (x79_6_0) n (f79_0_c x199 x200)) = f79_0 c lf n := by funext x199 x200; exact ih x199 x200
    show f79_0_s c lf (fun x199 x200 => lpK c env lf 6 fi79 2 6 [] [1, 5] (x79_6_0) n (f79_0_c x199 x200)) x199 x200 = _
    rw [e]; rfl
/-- loop.example/g00285/spec.PutNum, the loop at region 6. -/
def f79_1_s (c : Orc) (lf : Nat) (l0 : List T) (L : Unit → Option (List T)) : Option (List T) :=
  some [T.i .i64 0, T.i .i64 0, T.sl (([] : List T) ++ l0)]
def f79_1_c (l0 : List T) : CSt := ⟨[.i .i64 0, .rf 2 [] 0 none], [.dead, .dead, .row false [.i .u8] (([] : List T) ++ l0) 0 false]⟩
theorem f79_1_round (c : Orc) (lf : Nat) (l0 : List T) (L : CSt → Option (List T)) :
    roundK c env lf 6 fi79 2 6 [] [1, 5] (x79_6_0) L (f79_1_c l0) = f79_1_s c lf l0 (fun _ => L (f79_1_c l0)) := by kernel_rfl
def f79_1 (c : Orc) (lf : Nat) (l0 : List T) : Nat → Unit → Option (List T)
  | 0 => fun _ => none
  | n + 1 => fun _ => f79_1_s c lf l0 (f79_1 c lf l0 n)
theorem f79_1_u (c : Orc) (lf : Nat) (l0 : List T) (n : Nat) : f79_1 c lf l0 (n + 1) () = f79_1_s c lf l0 (f79_1 c lf l0 n) := rfl
theorem f79_1_eq (c : Orc) (lf : Nat) (l0 : List T) (n : Nat) :
    lpK c env lf 6 fi79 2 6 [] [1, 5] (x79_6_0) n (f79_1_c l0) = f79_1 c lf l0 n () := by
  induction n with
  | zero => rfl
  | succ n ih =>
    refine (f79_1_round c lf l0 _).trans ?_
    have e : (fun (_ : Unit) => lpK c env lf 6 fi79 2 6 [] [1, 5] (x79_6_0) n (f79_1_c l0)) = f79_1 c lf l0 n := by funext _; exact ih
    show f79_1_s c lf l0 (fun _ => lpK c env lf 6 fi79 2 6 [] [1, 5] (x79_6_0) n (f79_1_c l0)) = _
    rw [e]; rfl
/-- loop.example/g00285/spec.PutNum, the loop at region 6. -/
def f79_2_s (c : Orc) (lf : Nat) (L : Int → List T → Option (List T)) (x203 : Int) (x204 : List T) : Option (List T) :=
  bif iLt 127 x203 then
    bif nLe (x204.length + ([T.i .u8 (IntKind.wrap .u8 (intBits .or .i64 (intBits .and .i64 x203 127) 128))] : List T).length) LIM then
    L (shiftI .shr .i64 x203 7) (x204 ++ ([T.i .u8 (IntKind.wrap .u8 (intBits .or .i64 (intBits .and .i64 x203 127) 128))] : List T))
    else none
  else
    some [T.i .i64 0, T.i .i64 x203, T.sl x204]
def f79_2_c (x203 : Int) (x204 : List T) : CSt := ⟨[.i .i64 x203, .rf 2 [] 0 none], [.dead, .dead, .row false [.i .u8] x204 0 false]⟩
theorem f79_2_round (c : Orc) (lf : Nat) (L : CSt → Option (List T)) (x203 : Int) (x204 : List T) :
    roundK c env lf 6 fi79 2 6 [] [1, 5] (x79_6_0) L (f79_2_c x203 x204) = f79_2_s c lf (fun x203 x204 => L (f79_2_c x203 x204)) x203 x204 := by kernel_rfl
def f79_2 (c : Orc) (lf : Nat) : Nat → Int → List T → Option (List T)
  | 0 => fun _ _ => none
  | n + 1 => fun x203 x204 => f79_2_s c lf (f79_2 c lf n) x203 x204
theorem f79_2_u (c : Orc) (lf : Nat) (n : Nat) (x203 : Int) (x204 : List T) : f79_2 c lf (n + 1) x203 x204 = f79_2_s c lf (f79_2 c lf n) x203 x204 := rfl
theorem f79_2_eq (c : Orc) (lf : Nat) (n : Nat) (x203 : Int) (x204 : List T) :
    lpK c env lf 6 fi79 2 6 [] [1, 5] (x79_6_0) n (f79_2_c x203 x204) = f79_2 c lf n x203 x204 := by
  induction n generalizing x203 x204 with
  | zero => rfl
  | succ n ih =>
    refine (f79_2_round c lf _ x203 x204).trans ?_
    have e : (fun x203 x204 => lpK c env lf 6 fi79 2 6 [] [1, 5] (x79_6_0) n (f79_2_c x203 x204)) = f79_2 c lf n := by funext x203 x204; exact ih x203 x204
    show f79_2_s c lf (fun x203 x204 => lpK c env lf 6 fi79 2 6 [] [1, 5] (x79_6_0) n (f79_2_c x203 x204)) x203 x204 = _
    rw [e]; rfl
/-- loop.example/g00285/spec.PutNum -/
def f79_t (c : Orc) (lf : Nat) (lp0 : Int → List T → Option (List T)) (lp1 : List T → Option (List T)) (lp2 : Int → List T → Option (List T)) (l0 : List T) (n1 : Int) : Option (List T) :=
  bif nLe (([] : List T).length + l0.length) LIM then
  bif iLt 1000000 n1 then
    (lp0 1000000 (([] : List T) ++ l0)).bind fun r201 =>
    bif nLe ((asL (nth r201 2)).length + ([T.i .u8 (IntKind.wrap .u8 (asI (nth r201 1)))] : List T).length) LIM then
    some [T.sl ((asL (nth r201 2)) ++ ([T.i .u8 (IntKind.wrap .u8 (asI (nth r201 1)))] : List T))]
    else none
  else
    bif iLt n1 0 then
      (lp1 l0).bind fun r202 =>
      bif nLe ((asL (nth r202 2)).length + ([T.i .u8 (IntKind.wrap .u8 (asI (nth r202 1)))] : List T).length) LIM then
      some [T.sl ((asL (nth r202 2)) ++ ([T.i .u8 (IntKind.wrap .u8 (asI (nth r202 1)))] : List T))]
      else none
    else
      (lp2 n1 (([] : List T) ++ l0)).bind fun r205 =>
      bif nLe ((asL (nth r205 2)).length + ([T.i .u8 (IntKind.wrap .u8 (asI (nth r205 1)))] : List T).length) LIM then
      some [T.sl ((asL (nth r205 2)) ++ ([T.i .u8 (IntKind.wrap .u8 (asI (nth r205 1)))] : List T))]
      else none
  else none
def f79 (c : Orc) (lf : Nat) (l0 : List T) (n1 : Int) : Option (List T) := f79_t c lf (fun (x199 : Int) (x200 : List T) => f79_0 c lf lf x199 x200) (fun (l0 : List T) => f79_1 c lf l0 lf ()) (fun (x203 : Int) (x204 : List T) => f79_2 c lf lf x203 x204) l0 n1
theorem f79_raw (c : Orc) (lf : Nat) (l0 : List T) (n1 : Int) : funK c env lf 6 fi79 [.sl l0, .i .i64 n1] = f79_t c lf (fun (x199 : Int) (x200 : List T) => lpK c env lf 6 fi79 2 6 [] [1, 5] (x79_6_0) lf (f79_0_c x199 x200)) (fun (l0 : List T) => lpK c env lf 6 fi79 2 6 [] [1, 5] (x79_6_0) lf (f79_1_c l0)) (fun (x203 : Int) (x204 : List T) => lpK c env lf 6 fi79 2 6 [] [1, 5] (x79_6_0) lf (f79_2_c x203 x204)) l0 n1 := by kernel_rfl
theorem f79_eq (c : Orc) (lf : Nat) (l0 : List T) (n1 : Int) : funK c env lf 6 fi79 [.sl l0, .i .i64 n1] = f79 c lf l0 n1 := by
  refine (f79_raw c lf l0 n1).trans ?_
  have e0 : (fun (x199 : Int) (x200 : List T) => lpK c env lf 6 fi79 2 6 [] [1, 5] (x79_6_0) lf (f79_0_c x199 x200)) = (fun (x199 : Int) (x200 : List T) => f79_0 c lf lf x199 x200) := by funext x199 x200; exact f79_0_eq c lf lf x199 x200
  have e1 : (fun (l0 : List T) => lpK c env lf 6 fi79 2 6 [] [1, 5] (x79_6_0) lf (f79_1_c l0)) = (fun (l0 : List T) => f79_1 c lf l0 lf ()) := by funext l0; exact f79_1_eq c lf l0 lf
  have e2 : (fun (x203 : Int) (x204 : List T) => lpK c env lf 6 fi79 2 6 [] [1, 5] (x79_6_0) lf (f79_2_c x203 x204)) = (fun (x203 : Int) (x204 : List T) => f79_2 c lf lf x203 x204) := by funext x203 x204; exact f79_2_eq c lf lf x203 x204
  rw [e0, e1, e2]; rfl
/-- loop.example/g00285/spec.PutText -/
def f80_t (c : Orc) (lf : Nat) (l0 : List T) (s1 : ByteArray) : Option (List T) :=
  (c 79 [T.sl l0, T.i .i64 (s1.size : Int)]).bind fun r206 =>
  bif nLe ((asL (nth r206 0)).length + (listOf s1).length) LIM then
  some [T.sl ((asL (nth r206 0)) ++ (listOf s1))]
  else none
def f80 (c : Orc) (lf : Nat) (l0 : List T) (s1 : ByteArray) : Option (List T) := f80_t c lf l0 s1
theorem f80_raw (c : Orc) (lf : Nat) (l0 : List T) (s1 : ByteArray) : funK c env lf 6 fi80 [.sl l0, .s s1] = f80_t c lf l0 s1 := by kernel_rfl
theorem f80_eq (c : Orc) (lf : Nat) (l0 : List T) (s1 : ByteArray) : funK c env lf 6 fi80 [.sl l0, .s s1] = f80 c lf l0 s1 := by
  refine (f80_raw c lf l0 s1).trans ?_
  rfl
/-- loop.example/g00285/spec.PutTable, the loop at region 5. -/
def f24_0_s (c : Orc) (lf : Nat) (l0_1 : List T) (n0_0 : Int) (L : Int → List T → Option (List T)) (x246 : Int) (x247 : List T) : Option (List T) :=
  bif iLt x246 (l0_1.length : Int) then
    bif inR x246 l0_1.length then
    bif asB (T.cell (l0_1.getD x246.toNat T.u) 2) then
      (c 79 [T.sl x247, T.i .i64 (asI (T.cell (l0_1.getD x246.toNat T.u) 0))]).bind fun r248 =>
      (c 80 [T.sl (asL (nth r248 0)), T.s (asS (T.cell (l0_1.getD x246.toNat T.u) 1))]).bind fun r249 =>
      (c 79 [T.sl (asL (nth r249 0)), T.i .i64 1]).bind fun r250 =>
      (c 79 [T.sl (asL (nth r250 0)), T.i .i64 (asI (T.cell (l0_1.getD x246.toNat T.u) 3))]).bind fun r251 =>
      (c 79 [T.sl (asL (nth r251 0)), T.i .i64 (asI (T.cell (l0_1.getD x246.toNat T.u) 4))]).bind fun r252 =>
      L (IntKind.wrap .i64 (x246 + 1)) (asL (nth r252 0))
    else
      (c 79 [T.sl x247, T.i .i64 (asI (T.cell (l0_1.getD x246.toNat T.u) 0))]).bind fun r253 =>
      (c 80 [T.sl (asL (nth r253 0)), T.s (asS (T.cell (l0_1.getD x246.toNat T.u) 1))]).bind fun r254 =>
      (c 79 [T.sl (asL (nth r254 0)), T.i .i64 0]).bind fun r255 =>
      (c 79 [T.sl (asL (nth r255 0)), T.i .i64 (asI (T.cell (l0_1.getD x246.toNat T.u) 3))]).bind fun r256 =>
      (c 79 [T.sl (asL (nth r256 0)), T.i .i64 (asI (T.cell (l0_1.getD x246.toNat T.u) 4))]).bind fun r257 =>
      L (IntKind.wrap .i64 (x246 + 1)) (asL (nth r257 0))
    else none
  else
    some [T.i .i64 0, T.sl x247]
def f24_0_c (l0_1 : List T) (n0_0 : Int) (x246 : Int) (x247 : List T) : CSt := ⟨[.bp 2 0, .rf 3 [] 0 none, .i .i64 x246], [.dead, .dead, .box [.i .i64 n0_0, .ro 0 true [.i .i64, .s, .b, .i .i64, .i .i64] l0_1], .row false [.i .u8] x247 0 false]⟩
theorem f24_0_round (c : Orc) (lf : Nat) (l0_1 : List T) (n0_0 : Int) (L : CSt → Option (List T)) (x246 : Int) (x247 : List T) :
    roundK c env lf 6 fi24 2 5 [] [1, 3, 4] (x24_5_0) L (f24_0_c l0_1 n0_0 x246 x247) = f24_0_s c lf l0_1 n0_0 (fun x246 x247 => L (f24_0_c l0_1 n0_0 x246 x247)) x246 x247 := by kernel_rfl
def f24_0 (c : Orc) (lf : Nat) (l0_1 : List T) (n0_0 : Int) : Nat → Int → List T → Option (List T)
  | 0 => fun _ _ => none
  | n + 1 => fun x246 x247 => f24_0_s c lf l0_1 n0_0 (f24_0 c lf l0_1 n0_0 n) x246 x247
theorem f24_0_u (c : Orc) (lf : Nat) (l0_1 : List T) (n0_0 : Int) (n : Nat) (x246 : Int) (x247 : List T) : f24_0 c lf l0_1 n0_0 (n + 1) x246 x247 = f24_0_s c lf l0_1 n0_0 (f24_0 c lf l0_1 n0_0 n) x246 x247 := rfl
theorem f24_0_eq (c : Orc) (lf : Nat) (l0_1 : List T) (n0_0 : Int) (n : Nat) (x246 : Int) (x247 : List T) :
    lpK c env lf 6 fi24 2 5 [] [1, 3, 4] (x24_5_0) n (f24_0_c l0_1 n0_0 x246 x247) = f24_0 c lf l0_1 n0_0 n x246 x247 := by
  induction n generalizing x246 x247 with
  | zero => rfl
  | succ n ih =>
    refine (f24_0_round c lf l0_1 n0_0 _ x246 x247).trans ?_
    have e : (fun x246 x247 => lpK c env lf 6 fi24 2 5 [] [1, 3, 4] (x24_5_0) n (f24_0_c l0_1 n0_0 x246 x247)) = f24_0 c lf l0_1 n0_0 n := by funext x246 x247; exact ih x246 x247
    show f24_0_s c lf l0_1 n0_0 (fun x246 x247 => lpK c env lf 6 fi24 2 5 [] [1, 3, 4] (x24_5_0) n (f24_0_c l0_1 n0_0 x246 x247)) x246 x247 = _
    rw [e]; rfl
/-- loop.example/g00285/spec.PutTable -/
def f24_t (c : Orc) (lf : Nat) (lp0 : List T → Int → Int → List T → Option (List T)) (n0_0 : Int) (l0_1 : List T) : Option (List T) :=
  (c 53 [T.st [T.i .i64 n0_0, T.sl l0_1]]).bind fun r233 =>
  bif !(asB (nth r233 0)) then
    some [T.sl ([] : List T)]
  else
    (c 79 [T.sl ([] : List T), T.i .i64 n0_0]).bind fun r234 =>
    (c 79 [T.sl (asL (nth r234 0)), T.i .i64 (l0_1.length : Int)]).bind fun r235 =>
    (lp0 l0_1 n0_0 0 (asL (nth r235 0))).bind fun r258 =>
    some [T.sl (asL (nth r258 1))]
def f24 (c : Orc) (lf : Nat) (n0_0 : Int) (l0_1 : List T) : Option (List T) := f24_t c lf (fun (l0_1 : List T) (n0_0 : Int) (x246 : Int) (x247 : List T) => f24_0 c lf l0_1 n0_0 lf x246 x247) n0_0 l0_1
theorem f24_raw (c : Orc) (lf : Nat) (n0_0 : Int) (l0_1 : List T) : funK c env lf 6 fi24 [.st [.i .i64 n0_0, .sl l0_1]] = f24_t c lf (fun (l0_1 : List T) (n0_0 : Int) (x246 : Int) (x247 : List T) => lpK c env lf 6 fi24 2 5 [] [1, 3, 4] (x24_5_0) lf (f24_0_c l0_1 n0_0 x246 x247)) n0_0 l0_1 := by kernel_rfl
theorem f24_eq (c : Orc) (lf : Nat) (n0_0 : Int) (l0_1 : List T) : funK c env lf 6 fi24 [.st [.i .i64 n0_0, .sl l0_1]] = f24 c lf n0_0 l0_1 := by
  refine (f24_raw c lf n0_0 l0_1).trans ?_
  have e0 : (fun (l0_1 : List T) (n0_0 : Int) (x246 : Int) (x247 : List T) => lpK c env lf 6 fi24 2 5 [] [1, 3, 4] (x24_5_0) lf (f24_0_c l0_1 n0_0 x246 x247)) = (fun (l0_1 : List T) (n0_0 : Int) (x246 : Int) (x247 : List T) => f24_0 c lf l0_1 n0_0 lf x246 x247) := by funext l0_1 n0_0 x246 x247; exact f24_0_eq c lf l0_1 n0_0 lf x246 x247
  rw [e0]; rfl
/-- loop.example/g00285/spec.DrawGetTable -/
def f51_t (c : Orc) (lf : Nat) (l0 : List T) : Option (List T) :=
  (c 65 [T.sl l0]).bind fun r259 =>
  (c 105 [T.st [T.sl (asL (T.cell (nth r259 0) 0)), T.i .i64 (asI (T.cell (nth r259 0) 1)), T.i .i64 (asI (T.cell (nth r259 0) 2))]]).bind fun r260 =>
  (c 24 [T.st [T.i .i64 (asI (T.cell (nth r260 0) 0)), T.sl (asL (T.cell (nth r260 0) 1))]]).bind fun r261 =>
  (c 70 [T.st [T.sl (asL (T.cell (nth r259 0) 0)), T.i .i64 (asI (T.cell (nth r260 1) 1)), T.i .i64 (asI (T.cell (nth r260 1) 2))], T.i .i64 5]).bind fun r262 =>
  bif (asI (nth r262 0)) == 0 then
    (c 70 [T.st [T.sl (asL (T.cell (nth r259 0) 0)), T.i .i64 (asI (T.cell (nth r262 1) 1)), T.i .i64 (asI (T.cell (nth r262 1) 2))], T.i .i64 ((asL (nth r261 0)).length : Int)]).bind fun r263 =>
    (c 71 [T.st [T.sl (asL (T.cell (nth r259 0) 0)), T.i .i64 (asI (T.cell (nth r263 1) 1)), T.i .i64 (asI (T.cell (nth r263 1) 2))], T.sl ([T.i .i64 0, T.i .i64 1, T.i .i64 2, T.i .i64 97, T.i .i64 128] : List T)]).bind fun r264 =>
    bif inR (asI (nth r263 0)) ((asL (nth r261 0)).length) then
    some [T.sl ((asL (nth r261 0)).set ((asI (nth r263 0)).toNat) (T.i .u8 (IntKind.wrap .u8 (asI (nth r264 0)))))]
    else none
  else
    bif (asI (nth r262 0)) == 1 then
      (c 70 [T.st [T.sl (asL (T.cell (nth r259 0) 0)), T.i .i64 (asI (T.cell (nth r262 1) 1)), T.i .i64 (asI (T.cell (nth r262 1) 2))], T.i .i64 ((asL (nth r261 0)).length : Int)]).bind fun r265 =>
      bif iLe 0 0 && iLe 0 (asI (nth r265 0)) && iLe (asI (nth r265 0)) ((asL (nth r261 0)).length : Int) then
      some [T.sl (((asL (nth r261 0)).drop 0).take (((asI (nth r265 0)).toNat) - 0))]
      else none
    else
      bif (asI (nth r262 0)) == 2 then
        bif nLe ((asL (nth r261 0)).length + ([T.i .u8 0] : List T).length) LIM then
        some [T.sl ((asL (nth r261 0)) ++ ([T.i .u8 0] : List T))]
        else none
      else
        some [T.sl (asL (nth r261 0))]
def f51 (c : Orc) (lf : Nat) (l0 : List T) : Option (List T) := f51_t c lf l0
theorem f51_raw (c : Orc) (lf : Nat) (l0 : List T) : funK c env lf 6 fi51 [.sl l0] = f51_t c lf l0 := by kernel_rfl
theorem f51_eq (c : Orc) (lf : Nat) (l0 : List T) : funK c env lf 6 fi51 [.sl l0] = f51 c lf l0 := by
  refine (f51_raw c lf l0).trans ?_
  rfl
/-- loop.example/g00285/impl.GetNum, the loop at region 6. -/
def f125_0_s (c : Orc) (lf : Nat) (l0 : List T) (n1 : Int) (L : Int → Int → Int → Option (List T)) (x270 : Int) (x271 : Int) (x272 : Int) : Option (List T) :=
  bif iLt x272 3 then
    bif iLt n1 (IntKind.wrap .i64 ((l0.length : Int) - x272)) then
      bif inR (IntKind.wrap .i64 (n1 + x272)) l0.length then
      bif iLe 128 (IntKind.wrap .i64 (asI (l0.getD ((IntKind.wrap .i64 (n1 + x272)).toNat) T.u))) then
        L (IntKind.wrap .i64 (x270 + (IntKind.wrap .i64 (((IntKind.wrap .i64 (asI (l0.getD ((IntKind.wrap .i64 (n1 + x272)).toNat) T.u))).tmod 128) * x271)))) (IntKind.wrap .i64 (x271 * 128)) (IntKind.wrap .i64 (x272 + 1))
      else
        bif iLt 1000000 (IntKind.wrap .i64 (x270 + (IntKind.wrap .i64 (((IntKind.wrap .i64 (asI (l0.getD ((IntKind.wrap .i64 (n1 + x272)).toNat) T.u))).tmod 128) * x271)))) then
          some [T.i .i64 0]
        else
          bif (IntKind.wrap .i64 (asI (l0.getD ((IntKind.wrap .i64 (n1 + x272)).toNat) T.u))) == 0 then
            bif iLt 0 x272 then
              some [T.i .i64 0]
            else
              some [T.i .i64 1, T.i .i64 (IntKind.wrap .i64 (x270 + (IntKind.wrap .i64 (((IntKind.wrap .i64 (asI (l0.getD ((IntKind.wrap .i64 (n1 + x272)).toNat) T.u))).tmod 128) * x271)))), T.i .i64 (IntKind.wrap .i64 ((IntKind.wrap .i64 (n1 + x272)) + 1)), T.b true]
          else
            some [T.i .i64 1, T.i .i64 (IntKind.wrap .i64 (x270 + (IntKind.wrap .i64 (((IntKind.wrap .i64 (asI (l0.getD ((IntKind.wrap .i64 (n1 + x272)).toNat) T.u))).tmod 128) * x271)))), T.i .i64 (IntKind.wrap .i64 ((IntKind.wrap .i64 (n1 + x272)) + 1)), T.b true]
      else none
    else
      some [T.i .i64 0]
  else
    some [T.i .i64 0]
def f125_0_c (l0 : List T) (n1 : Int) (x270 : Int) (x271 : Int) (x272 : Int) : CSt := ⟨[.ro 0 false [.i .u8] l0, .i .i64 n1, .i .i64 x270, .i .i64 x271, .i .i64 x272], [.dead, .dead]⟩
theorem f125_0_round (c : Orc) (lf : Nat) (l0 : List T) (n1 : Int) (L : CSt → Option (List T)) (x270 : Int) (x271 : Int) (x272 : Int) :
    roundK c env lf 6 fi125 2 6 [] [0, 1, 7, 8, 9] (x125_6_0) L (f125_0_c l0 n1 x270 x271 x272) = f125_0_s c lf l0 n1 (fun x270 x271 x272 => L (f125_0_c l0 n1 x270 x271 x272)) x270 x271 x272 := by kernel_rfl
def f125_0 (c : Orc) (lf : Nat) (l0 : List T) (n1 : Int) : Nat → Int → Int → Int → Option (List T)
  | 0 => fun _ _ _ => none
  | n + 1 => fun x270 x271 x272 => f125_0_s c lf l0 n1 (f125_0 c lf l0 n1 n) x270 x271 x272
theorem f125_0_u (c : Orc) (lf : Nat) (l0 : List T) (n1 : Int) (n : Nat) (x270 : Int) (x271 : Int) (x272 : Int) : f125_0 c lf l0 n1 (n + 1) x270 x271 x272 = f125_0_s c lf l0 n1 (f125_0 c lf l0 n1 n) x270 x271 x272 := rfl
theorem f125_0_eq (c : Orc) (lf : Nat) (l0 : List T) (n1 : Int) (n : Nat) (x270 : Int) (x271 : Int) (x272 : Int) :
    lpK c env lf 6 fi125 2 6 [] [0, 1, 7, 8, 9] (x125_6_0) n (f125_0_c l0 n1 x270 x271 x272) = f125_0 c lf l0 n1 n x270 x271 x272 := by
  induction n generalizing x270 x271 x272 with
  | zero => rfl
  | succ n ih =>
    refine (f125_0_round c lf l0 n1 _ x270 x271 x272).trans ?_
    have e : (fun x270 x271 x272 => lpK c env lf 6 fi125 2 6 [] [0, 1, 7, 8, 9] (x125_6_0) n (f125_0_c l0 n1 x270 x271 x272)) = f125_0 c lf l0 n1 n := by funext x270 x271 x272; exact ih x270 x271 x272
    show f125_0_s c lf l0 n1 (fun x270 x271 x272 => lpK c env lf 6 fi125 2 6 [] [0, 1, 7, 8, 9] (x125_6_0) n (f125_0_c l0 n1 x270 x271 x272)) x270 x271 x272 = _
    rw [e]; rfl
/-- loop.example/g00285/impl.GetNum -/
def f125_t (c : Orc) (lf : Nat) (lp0 : List T → Int → Int → Int → Int → Option (List T)) (l0 : List T) (n1 : Int) : Option (List T) :=
  bif iLt n1 0 then
    some [T.i .i64 0, T.i .i64 0, T.b false]
  else
    (lp0 l0 n1 0 1 0).bind fun r273 =>
    bif asI (nth r273 0) == 0 then
      some [T.i .i64 0, T.i .i64 0, T.b false]
    else
      some [T.i .i64 (asI (nth r273 1)), T.i .i64 (asI (nth r273 2)), T.b (asB (nth r273 3))]
def f125 (c : Orc) (lf : Nat) (l0 : List T) (n1 : Int) : Option (List T) := f125_t c lf (fun (l0 : List T) (n1 : Int) (x270 : Int) (x271 : Int) (x272 : Int) => f125_0 c lf l0 n1 lf x270 x271 x272) l0 n1
theorem f125_raw (c : Orc) (lf : Nat) (l0 : List T) (n1 : Int) : funK c env lf 6 fi125 [.sl l0, .i .i64 n1] = f125_t c lf (fun (l0 : List T) (n1 : Int) (x270 : Int) (x271 : Int) (x272 : Int) => lpK c env lf 6 fi125 2 6 [] [0, 1, 7, 8, 9] (x125_6_0) lf (f125_0_c l0 n1 x270 x271 x272)) l0 n1 := by kernel_rfl
theorem f125_eq (c : Orc) (lf : Nat) (l0 : List T) (n1 : Int) : funK c env lf 6 fi125 [.sl l0, .i .i64 n1] = f125 c lf l0 n1 := by
  refine (f125_raw c lf l0 n1).trans ?_
  have e0 : (fun (l0 : List T) (n1 : Int) (x270 : Int) (x271 : Int) (x272 : Int) => lpK c env lf 6 fi125 2 6 [] [0, 1, 7, 8, 9] (x125_6_0) lf (f125_0_c l0 n1 x270 x271 x272)) = (fun (l0 : List T) (n1 : Int) (x270 : Int) (x271 : Int) (x272 : Int) => f125_0 c lf l0 n1 lf x270 x271 x272) := by funext l0 n1 x270 x271 x272; exact f125_0_eq c lf l0 n1 lf x270 x271 x272
  rw [e0]; rfl
/-- (*loop.example/g00285/impl.reader).num -/
def f72_t (c : Orc) (lf : Nat) (l0_0 : List T) (n0_1 : Int) (b0_2 : Bool) : Option (List T) :=
  bif !b0_2 then
    some [T.i .i64 0, T.st [T.sl l0_0, T.i .i64 n0_1, T.b b0_2]]
  else
    (c 125 [T.sl l0_0, T.i .i64 n0_1]).bind fun r274 =>
    some [T.i .i64 (asI (nth r274 0)), T.st [T.sl l0_0, T.i .i64 (asI (nth r274 1)), T.b (asB (nth r274 2))]]
def f72 (c : Orc) (lf : Nat) (l0_0 : List T) (n0_1 : Int) (b0_2 : Bool) : Option (List T) := f72_t c lf l0_0 n0_1 b0_2
theorem f72_raw (c : Orc) (lf : Nat) (l0_0 : List T) (n0_1 : Int) (b0_2 : Bool) : funK c env lf 6 fi72 [.st [.sl l0_0, .i .i64 n0_1, .b b0_2]] = f72_t c lf l0_0 n0_1 b0_2 := by kernel_rfl
theorem f72_eq (c : Orc) (lf : Nat) (l0_0 : List T) (n0_1 : Int) (b0_2 : Bool) : funK c env lf 6 fi72 [.st [.sl l0_0, .i .i64 n0_1, .b b0_2]] = f72 c lf l0_0 n0_1 b0_2 := by
  refine (f72_raw c lf l0_0 n0_1 b0_2).trans ?_
  rfl
/-- (*loop.example/g00285/impl.reader).count -/
def f73_t (c : Orc) (lf : Nat) (l0_0 : List T) (n0_1 : Int) (b0_2 : Bool) : Option (List T) :=
  (c 72 [T.st [T.sl l0_0, T.i .i64 n0_1, T.b b0_2]]).bind fun r275 =>
  bif iLt (IntKind.wrap .i64 ((l0_0.length : Int) - (asI (T.cell (nth r275 1) 1)))) (asI (nth r275 0)) then
    some [T.i .i64 0, T.st [T.sl l0_0, T.i .i64 (asI (T.cell (nth r275 1) 1)), T.b false]]
  else
    some [T.i .i64 (asI (nth r275 0)), T.st [T.sl l0_0, T.i .i64 (asI (T.cell (nth r275 1) 1)), T.b (asB (T.cell (nth r275 1) 2))]]
def f73 (c : Orc) (lf : Nat) (l0_0 : List T) (n0_1 : Int) (b0_2 : Bool) : Option (List T) := f73_t c lf l0_0 n0_1 b0_2
theorem f73_raw (c : Orc) (lf : Nat) (l0_0 : List T) (n0_1 : Int) (b0_2 : Bool) : funK c env lf 6 fi73 [.st [.sl l0_0, .i .i64 n0_1, .b b0_2]] = f73_t c lf l0_0 n0_1 b0_2 := by kernel_rfl
theorem f73_eq (c : Orc) (lf : Nat) (l0_0 : List T) (n0_1 : Int) (b0_2 : Bool) : funK c env lf 6 fi73 [.st [.sl l0_0, .i .i64 n0_1, .b b0_2]] = f73 c lf l0_0 n0_1 b0_2 := by
  refine (f73_raw c lf l0_0 n0_1 b0_2).trans ?_
  rfl
/-- loop.example/g00285/impl.GetText -/
def f132_t (c : Orc) (lf : Nat) (l0 : List T) (n1 : Int) : Option (List T) :=
  (c 125 [T.sl l0, T.i .i64 n1]).bind fun r276 =>
  bif !(asB (nth r276 2)) then
    some [T.s (⟨#[]⟩ : ByteArray), T.i .i64 0, T.b false]
  else
    bif iLt (IntKind.wrap .i64 ((l0.length : Int) - (asI (nth r276 1)))) (asI (nth r276 0)) then
      some [T.s (⟨#[]⟩ : ByteArray), T.i .i64 0, T.b false]
    else
      bif iLe 0 (asI (nth r276 1)) && iLe (asI (nth r276 1)) (IntKind.wrap .i64 ((asI (nth r276 1)) + (asI (nth r276 0)))) && iLe (IntKind.wrap .i64 ((asI (nth r276 1)) + (asI (nth r276 0)))) (l0.length : Int) then
      some [T.s (bytesOf ((l0.drop ((asI (nth r276 1)).toNat)).take (((IntKind.wrap .i64 ((asI (nth r276 1)) + (asI (nth r276 0)))).toNat) - ((asI (nth r276 1)).toNat)))), T.i .i64 (IntKind.wrap .i64 ((asI (nth r276 1)) + (asI (nth r276 0)))), T.b true]
      else none
def f132 (c : Orc) (lf : Nat) (l0 : List T) (n1 : Int) : Option (List T) := f132_t c lf l0 n1
theorem f132_raw (c : Orc) (lf : Nat) (l0 : List T) (n1 : Int) : funK c env lf 6 fi132 [.sl l0, .i .i64 n1] = f132_t c lf l0 n1 := by kernel_rfl
theorem f132_eq (c : Orc) (lf : Nat) (l0 : List T) (n1 : Int) : funK c env lf 6 fi132 [.sl l0, .i .i64 n1] = f132 c lf l0 n1 := by
  refine (f132_raw c lf l0 n1).trans ?_
  rfl
/-- (*loop.example/g00285/impl.reader).text -/
def f91_t (c : Orc) (lf : Nat) (l0_0 : List T) (n0_1 : Int) (b0_2 : Bool) : Option (List T) :=
  bif !b0_2 then
    some [T.s (⟨#[]⟩ : ByteArray), T.st [T.sl l0_0, T.i .i64 n0_1, T.b b0_2]]
  else
    (c 132 [T.sl l0_0, T.i .i64 n0_1]).bind fun r277 =>
    some [T.s (asS (nth r277 0)), T.st [T.sl l0_0, T.i .i64 (asI (nth r277 1)), T.b (asB (nth r277 2))]]
def f91 (c : Orc) (lf : Nat) (l0_0 : List T) (n0_1 : Int) (b0_2 : Bool) : Option (List T) := f91_t c lf l0_0 n0_1 b0_2
theorem f91_raw (c : Orc) (lf : Nat) (l0_0 : List T) (n0_1 : Int) (b0_2 : Bool) : funK c env lf 6 fi91 [.st [.sl l0_0, .i .i64 n0_1, .b b0_2]] = f91_t c lf l0_0 n0_1 b0_2 := by kernel_rfl
theorem f91_eq (c : Orc) (lf : Nat) (l0_0 : List T) (n0_1 : Int) (b0_2 : Bool) : funK c env lf 6 fi91 [.st [.sl l0_0, .i .i64 n0_1, .b b0_2]] = f91 c lf l0_0 n0_1 b0_2 := by
  refine (f91_raw c lf l0_0 n0_1 b0_2).trans ?_
  rfl
/-- (*loop.example/g00285/impl.reader).flag -/
def f102_t (c : Orc) (lf : Nat) (l0_0 : List T) (n0_1 : Int) (b0_2 : Bool) : Option (List T) :=
  (c 72 [T.st [T.sl l0_0, T.i .i64 n0_1, T.b b0_2]]).bind fun r278 =>
  bif asB (T.cell (nth r278 1) 2) then
    some [T.b ((asI (nth r278 0)) == 1), T.st [T.sl l0_0, T.i .i64 (asI (T.cell (nth r278 1) 1)), T.b (iLt (asI (nth r278 0)) 2)]]
  else
    some [T.b ((asI (nth r278 0)) == 1), T.st [T.sl l0_0, T.i .i64 (asI (T.cell (nth r278 1) 1)), T.b false]]
def f102 (c : Orc) (lf : Nat) (l0_0 : List T) (n0_1 : Int) (b0_2 : Bool) : Option (List T) := f102_t c lf l0_0 n0_1 b0_2
theorem f102_raw (c : Orc) (lf : Nat) (l0_0 : List T) (n0_1 : Int) (b0_2 : Bool) : funK c env lf 6 fi102 [.st [.sl l0_0, .i .i64 n0_1, .b b0_2]] = f102_t c lf l0_0 n0_1 b0_2 := by kernel_rfl
theorem f102_eq (c : Orc) (lf : Nat) (l0_0 : List T) (n0_1 : Int) (b0_2 : Bool) : funK c env lf 6 fi102 [.st [.sl l0_0, .i .i64 n0_1, .b b0_2]] = f102 c lf l0_0 n0_1 b0_2 := by
  refine (f102_raw c lf l0_0 n0_1 b0_2).trans ?_
  rfl
/-- (*loop.example/g00285/impl.reader).done -/
def f74_t (c : Orc) (lf : Nat) (l0_0 : List T) (n0_1 : Int) (b0_2 : Bool) : Option (List T) :=
  bif b0_2 then
    some [T.b (n0_1 == (l0_0.length : Int)), T.st [T.sl l0_0, T.i .i64 n0_1, T.b b0_2]]
  else
    some [T.b false, T.st [T.sl l0_0, T.i .i64 n0_1, T.b b0_2]]
def f74 (c : Orc) (lf : Nat) (l0_0 : List T) (n0_1 : Int) (b0_2 : Bool) : Option (List T) := f74_t c lf l0_0 n0_1 b0_2
theorem f74_raw (c : Orc) (lf : Nat) (l0_0 : List T) (n0_1 : Int) (b0_2 : Bool) : funK c env lf 6 fi74 [.st [.sl l0_0, .i .i64 n0_1, .b b0_2]] = f74_t c lf l0_0 n0_1 b0_2 := by kernel_rfl
theorem f74_eq (c : Orc) (lf : Nat) (l0_0 : List T) (n0_1 : Int) (b0_2 : Bool) : funK c env lf 6 fi74 [.st [.sl l0_0, .i .i64 n0_1, .b b0_2]] = f74 c lf l0_0 n0_1 b0_2 := by
  refine (f74_raw c lf l0_0 n0_1 b0_2).trans ?_
  rfl
/-- loop.example/g00285/impl.GetTable, the loop at region 4. -/
def f46_0_s (c : Orc) (lf : Nat) (l0 : List T) (r298 : List T) (r299 : List T) (L : Int → Int → Bool → List T → Option (List T)) (x305 : Int) (x306 : Int) (x307 : Bool) (x308 : List T) : Option (List T) :=
  bif iLt x305 (asI (nth r299 0)) then
    (c 72 [T.st [T.sl l0, T.i .i64 x306, T.b x307]]).bind fun r309 =>
    (c 91 [T.st [T.sl l0, T.i .i64 (asI (T.cell (nth r309 1) 1)), T.b (asB (T.cell (nth r309 1) 2))]]).bind fun r310 =>
    (c 102 [T.st [T.sl l0, T.i .i64 (asI (T.cell (nth r310 1) 1)), T.b (asB (T.cell (nth r310 1) 2))]]).bind fun r311 =>
    (c 72 [T.st [T.sl l0, T.i .i64 (asI (T.cell (nth r311 1) 1)), T.b (asB (T.cell (nth r311 1) 2))]]).bind fun r312 =>
    (c 72 [T.st [T.sl l0, T.i .i64 (asI (T.cell (nth r312 1) 1)), T.b (asB (T.cell (nth r312 1) 2))]]).bind fun r313 =>
    bif nLe (x308.length + ([T.st [T.i .i64 (asI (nth r309 0)), T.s (asS (nth r310 0)), T.b (asB (nth r311 0)), T.i .i64 (asI (nth r312 0)), T.i .i64 (asI (nth r313 0))]] : List T).length) LIM then
    L (IntKind.wrap .i64 (x305 + 1)) (asI (T.cell (nth r313 1) 1)) (asB (T.cell (nth r313 1) 2)) (x308 ++ ([T.st [T.i .i64 (asI (nth r309 0)), T.s (asS (nth r310 0)), T.b (asB (nth r311 0)), T.i .i64 (asI (nth r312 0)), T.i .i64 (asI (nth r313 0))]] : List T))
    else none
  else
    some [T.i .i64 0, T.i .i64 0, T.sl ([] : List T), T.sl l0, T.i .i64 x306, T.b x307, T.i .i64 (asI (nth r298 0)), T.sl x308]
def f46_0_c (l0 : List T) (r298 : List T) (r299 : List T) (x305 : Int) (x306 : Int) (x307 : Bool) (x308 : List T) : CSt := ⟨[.bp 1 0, .bp 3 0, .bp 4 0, .i .i64 (asI (nth r299 0)), .i .i64 x305], [.dead, .box [.i .i64 0, .rf 2 [] 0 none], .row true [.i .i64, .s, .b, .i .i64, .i .i64] ([] : List T) 0 false, .box [.ro 0 false [.i .u8] l0, .i .i64 x306, .b x307], .box [.i .i64 (asI (nth r298 0)), .rf 5 [] 0 none], .row true [.i .i64, .s, .b, .i .i64, .i .i64] x308 0 false]⟩
theorem f46_0_round (c : Orc) (lf : Nat) (l0 : List T) (r298 : List T) (r299 : List T) (L : CSt → Option (List T)) (x305 : Int) (x306 : Int) (x307 : Bool) (x308 : List T) :
    roundK c env lf 6 fi46 1 4 [] [2, 4, 5, 14, 15] (x46_4_0) L (f46_0_c l0 r298 r299 x305 x306 x307 x308) = f46_0_s c lf l0 r298 r299 (fun x305 x306 x307 x308 => L (f46_0_c l0 r298 r299 x305 x306 x307 x308)) x305 x306 x307 x308 := by kernel_rfl
def f46_0 (c : Orc) (lf : Nat) (l0 : List T) (r298 : List T) (r299 : List T) : Nat → Int → Int → Bool → List T → Option (List T)
  | 0 => fun _ _ _ _ => none
  | n + 1 => fun x305 x306 x307 x308 => f46_0_s c lf l0 r298 r299 (f46_0 c lf l0 r298 r299 n) x305 x306 x307 x308
theorem f46_0_u (c : Orc) (lf : Nat) (l0 : List T) (r298 : List T) (r299 : List T) (n : Nat) (x305 : Int) (x306 : Int) (x307 : Bool) (x308 : List T) : f46_0 c lf l0 r298 r299 (n + 1) x305 x306 x307 x308 = f46_0_s c lf l0 r298 r299 (f46_0 c lf l0 r298 r299 n) x305 x306 x307 x308 := rfl
theorem f46_0_eq (c : Orc) (lf : Nat) (l0 : List T) (r298 : List T) (r299 : List T) (n : Nat) (x305 : Int) (x306 : Int) (x307 : Bool) (x308 : List T) :
    lpK c env lf 6 fi46 1 4 [] [2, 4, 5, 14, 15] (x46_4_0) n (f46_0_c l0 r298 r299 x305 x306 x307 x308) = f46_0 c lf l0 r298 r299 n x305 x306 x307 x308 := by
  induction n generalizing x305 x306 x307 x308 with
  | zero => rfl
  | succ n ih =>
    refine (f46_0_round c lf l0 r298 r299 _ x305 x306 x307 x308).trans ?_
    have e : (fun x305 x306 x307 x308 => lpK c env lf 6 fi46 1 4 [] [2, 4, 5, 14, 15] (x46_4_0) n (f46_0_c l0 r298 r299 x305 x306 x307 x308)) = f46_0 c lf l0 r298 r299 n := by funext x305 x306 x307 x308; exact ih x305 x306 x307 x308
    show f46_0_s c lf l0 r298 r299 (fun x305 x306 x307 x308 => lpK c env lf 6 fi46 1 4 [] [2, 4, 5, 14, 15] (x46_4_0) n (f46_0_c l0 r298 r299 x305 x306 x307 x308)) x305 x306 x307 x308 = _
    rw [e]; rfl
/-- loop.example/g00285/impl.GetTable -/
def f46_t (c : Orc) (lf : Nat) (lp0 : List T → List T → List T → Int → Int → Bool → List T → Option (List T)) (l0 : List T) : Option (List T) :=
  (c 72 [T.st [T.sl l0, T.i .i64 0, T.b true]]).bind fun r298 =>
  (c 73 [T.st [T.sl l0, T.i .i64 (asI (T.cell (nth r298 1) 1)), T.b (asB (T.cell (nth r298 1) 2))]]).bind fun r299 =>
  (lp0 l0 r298 r299 0 (asI (T.cell (nth r299 1) 1)) (asB (T.cell (nth r299 1) 2)) ([] : List T)).bind fun r314 =>
  (c 74 [T.st [T.sl (asL (nth r314 3)), T.i .i64 (asI (nth r314 4)), T.b (asB (nth r314 5))]]).bind fun r315 =>
  bif !(asB (nth r315 0)) then
    some [T.st [T.i .i64 0, T.sl []], T.b false]
  else
    (c 52 [T.st [T.i .i64 (asI (nth r314 6)), T.sl (asL (nth r314 7))]]).bind fun r316 =>
    bif !(asB (nth r316 0)) then
      some [T.st [T.i .i64 0, T.sl []], T.b false]
    else
      some [T.st [T.i .i64 (asI (nth r314 6)), T.sl (asL (nth r314 7))], T.b true]
def f46 (c : Orc) (lf : Nat) (l0 : List T) : Option (List T) := f46_t c lf (fun (l0 : List T) (r298 : List T) (r299 : List T) (x305 : Int) (x306 : Int) (x307 : Bool) (x308 : List T) => f46_0 c lf l0 r298 r299 lf x305 x306 x307 x308) l0
theorem f46_raw (c : Orc) (lf : Nat) (l0 : List T) : funK c env lf 6 fi46 [.sl l0] = f46_t c lf (fun (l0 : List T) (r298 : List T) (r299 : List T) (x305 : Int) (x306 : Int) (x307 : Bool) (x308 : List T) => lpK c env lf 6 fi46 1 4 [] [2, 4, 5, 14, 15] (x46_4_0) lf (f46_0_c l0 r298 r299 x305 x306 x307 x308)) l0 := by kernel_rfl
theorem f46_eq (c : Orc) (lf : Nat) (l0 : List T) : funK c env lf 6 fi46 [.sl l0] = f46 c lf l0 := by
  refine (f46_raw c lf l0).trans ?_
  have e0 : (fun (l0 : List T) (r298 : List T) (r299 : List T) (x305 : Int) (x306 : Int) (x307 : Bool) (x308 : List T) => lpK c env lf 6 fi46 1 4 [] [2, 4, 5, 14, 15] (x46_4_0) lf (f46_0_c l0 r298 r299 x305 x306 x307 x308)) = (fun (l0 : List T) (r298 : List T) (r299 : List T) (x305 : Int) (x306 : Int) (x307 : Bool) (x308 : List T) => f46_0 c lf l0 r298 r299 lf x305 x306 x307 x308) := by funext l0 r298 r299 x305 x306 x307 x308; exact f46_0_eq c lf l0 r298 r299 lf x305 x306 x307 x308
  rw [e0]; rfl
/-- loop.example/g00285/spec.GetNum, the loop at region 3. -/
def f126_0_s (c : Orc) (lf : Nat) (l0 : List T) (n1 : Int) (L : Int → Int → Option (List T)) (x320 : Int) (x321 : Int) : Option (List T) :=
  bif iLt x321 3 then
    bif iLe 0 n1 then
      bif iLt n1 (l0.length : Int) then
        bif iLt (IntKind.wrap .i64 (n1 + x321)) (l0.length : Int) then
          bif inR (IntKind.wrap .i64 (n1 + x321)) l0.length then
          bif iLe 0 (IntKind.wrap .u64 (IntKind.wrap .i64 (7 * x321))) then
          bif iLt 127 (IntKind.wrap .i64 (asI (l0.getD ((IntKind.wrap .i64 (n1 + x321)).toNat) T.u))) then
            L (intBits .or .i64 x320 (shiftI .shl .i64 (intBits .and .i64 (IntKind.wrap .i64 (asI (l0.getD ((IntKind.wrap .i64 (n1 + x321)).toNat) T.u))) 127) (IntKind.wrap .u64 (IntKind.wrap .i64 (7 * x321))))) (IntKind.wrap .i64 (x321 + 1))
          else
            bif iLt 0 x321 then
              bif (IntKind.wrap .i64 (asI (l0.getD ((IntKind.wrap .i64 (n1 + x321)).toNat) T.u))) == 0 then
                some [T.i .i64 0, T.i .i64 0, T.i .i64 0, T.b false]
              else
                bif iLt 1000000 (intBits .or .i64 x320 (shiftI .shl .i64 (intBits .and .i64 (IntKind.wrap .i64 (asI (l0.getD ((IntKind.wrap .i64 (n1 + x321)).toNat) T.u))) 127) (IntKind.wrap .u64 (IntKind.wrap .i64 (7 * x321))))) then
                  some [T.i .i64 0, T.i .i64 0, T.i .i64 0, T.b false]
                else
                  some [T.i .i64 0, T.i .i64 (intBits .or .i64 x320 (shiftI .shl .i64 (intBits .and .i64 (IntKind.wrap .i64 (asI (l0.getD ((IntKind.wrap .i64 (n1 + x321)).toNat) T.u))) 127) (IntKind.wrap .u64 (IntKind.wrap .i64 (7 * x321))))), T.i .i64 (IntKind.wrap .i64 ((IntKind.wrap .i64 (n1 + x321)) + 1)), T.b true]
            else
              bif iLt 1000000 (intBits .or .i64 x320 (shiftI .shl .i64 (intBits .and .i64 (IntKind.wrap .i64 (asI (l0.getD ((IntKind.wrap .i64 (n1 + x321)).toNat) T.u))) 127) (IntKind.wrap .u64 (IntKind.wrap .i64 (7 * x321))))) then
                some [T.i .i64 0, T.i .i64 0, T.i .i64 0, T.b false]
              else
                some [T.i .i64 0, T.i .i64 (intBits .or .i64 x320 (shiftI .shl .i64 (intBits .and .i64 (IntKind.wrap .i64 (asI (l0.getD ((IntKind.wrap .i64 (n1 + x321)).toNat) T.u))) 127) (IntKind.wrap .u64 (IntKind.wrap .i64 (7 * x321))))), T.i .i64 (IntKind.wrap .i64 ((IntKind.wrap .i64 (n1 + x321)) + 1)), T.b true]
          else none
          else none
        else
          some [T.i .i64 1]
      else
        some [T.i .i64 1]
    else
      some [T.i .i64 1]
  else
    some [T.i .i64 1]
def f126_0_c (l0 : List T) (n1 : Int) (x320 : Int) (x321 : Int) : CSt := ⟨[.ro 0 false [.i .u8] l0, .i .i64 n1, .i .i64 x320, .i .i64 x321], [.dead, .dead]⟩
theorem f126_0_round (c : Orc) (lf : Nat) (l0 : List T) (n1 : Int) (L : CSt → Option (List T)) (x320 : Int) (x321 : Int) :
    roundK c env lf 6 fi126 2 3 [] [0, 1, 7, 8] (x126_3_0) L (f126_0_c l0 n1 x320 x321) = f126_0_s c lf l0 n1 (fun x320 x321 => L (f126_0_c l0 n1 x320 x321)) x320 x321 := by kernel_rfl
def f126_0 (c : Orc) (lf : Nat) (l0 : List T) (n1 : Int) : Nat → Int → Int → Option (List T)
  | 0 => fun _ _ => none
  | n + 1 => fun x320 x321 => f126_0_s c lf l0 n1 (f126_0 c lf l0 n1 n) x320 x321
theorem f126_0_u (c : Orc) (lf : Nat) (l0 : List T) (n1 : Int) (n : Nat) (x320 : Int) (x321 : Int) : f126_0 c lf l0 n1 (n + 1) x320 x321 = f126_0_s c lf l0 n1 (f126_0 c lf l0 n1 n) x320 x321 := rfl
theorem f126_0_eq (c : Orc) (lf : Nat) (l0 : List T) (n1 : Int) (n : Nat) (x320 : Int) (x321 : Int) :
    lpK c env lf 6 fi126 2 3 [] [0, 1, 7, 8] (x126_3_0) n (f126_0_c l0 n1 x320 x321) = f126_0 c lf l0 n1 n x320 x321 := by
  induction n generalizing x320 x321 with
  | zero => rfl
  | succ n ih =>
    refine (f126_0_round c lf l0 n1 _ x320 x321).trans ?_
    have e : (fun x320 x321 => lpK c env lf 6 fi126 2 3 [] [0, 1, 7, 8] (x126_3_0) n (f126_0_c l0 n1 x320 x321)) = f126_0 c lf l0 n1 n := by funext x320 x321; exact ih x320 x321
    show f126_0_s c lf l0 n1 (fun x320 x321 => lpK c env lf 6 fi126 2 3 [] [0, 1, 7, 8] (x126_3_0) n (f126_0_c l0 n1 x320 x321)) x320 x321 = _
    rw [e]; rfl
/-- loop.example/g00285/spec.GetNum -/
def f126_t (c : Orc) (lf : Nat) (lp0 : List T → Int → Int → Int → Option (List T)) (l0 : List T) (n1 : Int) : Option (List T) :=
  (lp0 l0 n1 0 0).bind fun r322 =>
  bif asI (nth r322 0) == 0 then
    some [T.i .i64 (asI (nth r322 1)), T.i .i64 (asI (nth r322 2)), T.b (asB (nth r322 3))]
  else
    some [T.i .i64 0, T.i .i64 0, T.b false]
def f126 (c : Orc) (lf : Nat) (l0 : List T) (n1 : Int) : Option (List T) := f126_t c lf (fun (l0 : List T) (n1 : Int) (x320 : Int) (x321 : Int) => f126_0 c lf l0 n1 lf x320 x321) l0 n1
theorem f126_raw (c : Orc) (lf : Nat) (l0 : List T) (n1 : Int) : funK c env lf 6 fi126 [.sl l0, .i .i64 n1] = f126_t c lf (fun (l0 : List T) (n1 : Int) (x320 : Int) (x321 : Int) => lpK c env lf 6 fi126 2 3 [] [0, 1, 7, 8] (x126_3_0) lf (f126_0_c l0 n1 x320 x321)) l0 n1 := by kernel_rfl
theorem f126_eq (c : Orc) (lf : Nat) (l0 : List T) (n1 : Int) : funK c env lf 6 fi126 [.sl l0, .i .i64 n1] = f126 c lf l0 n1 := by
  refine (f126_raw c lf l0 n1).trans ?_
  have e0 : (fun (l0 : List T) (n1 : Int) (x320 : Int) (x321 : Int) => lpK c env lf 6 fi126 2 3 [] [0, 1, 7, 8] (x126_3_0) lf (f126_0_c l0 n1 x320 x321)) = (fun (l0 : List T) (n1 : Int) (x320 : Int) (x321 : Int) => f126_0 c lf l0 n1 lf x320 x321) := by funext l0 n1 x320 x321; exact f126_0_eq c lf l0 n1 lf x320 x321
  rw [e0]; rfl
/-- loop.example/g00285/spec.l3Num -/
def f75_t (c : Orc) (lf : Nat) (l0_0 : List T) (n0_1 : Int) (b0_2 : Bool) : Option (List T) :=
  (c 126 [T.sl l0_0, T.i .i64 n0_1]).bind fun r323 =>
  bif b0_2 then
    some [T.i .i64 0, T.st [T.sl l0_0, T.i .i64 n0_1, T.b true]]
  else
    bif !(asB (nth r323 2)) then
      some [T.i .i64 0, T.st [T.sl l0_0, T.i .i64 n0_1, T.b true]]
    else
      some [T.i .i64 (asI (nth r323 0)), T.st [T.sl l0_0, T.i .i64 (asI (nth r323 1)), T.b b0_2]]
def f75 (c : Orc) (lf : Nat) (l0_0 : List T) (n0_1 : Int) (b0_2 : Bool) : Option (List T) := f75_t c lf l0_0 n0_1 b0_2
theorem f75_raw (c : Orc) (lf : Nat) (l0_0 : List T) (n0_1 : Int) (b0_2 : Bool) : funK c env lf 6 fi75 [.st [.sl l0_0, .i .i64 n0_1, .b b0_2]] = f75_t c lf l0_0 n0_1 b0_2 := by kernel_rfl
theorem f75_eq (c : Orc) (lf : Nat) (l0_0 : List T) (n0_1 : Int) (b0_2 : Bool) : funK c env lf 6 fi75 [.st [.sl l0_0, .i .i64 n0_1, .b b0_2]] = f75 c lf l0_0 n0_1 b0_2 := by
  refine (f75_raw c lf l0_0 n0_1 b0_2).trans ?_
  rfl
/-- loop.example/g00285/spec.GetText -/
def f139_t (c : Orc) (lf : Nat) (l0 : List T) (n1 : Int) : Option (List T) :=
  (c 126 [T.sl l0, T.i .i64 n1]).bind fun r324 =>
  bif !(asB (nth r324 2)) then
    some [T.s (⟨#[]⟩ : ByteArray), T.i .i64 0, T.b false]
  else
    bif iLt (IntKind.wrap .i64 ((l0.length : Int) - (asI (nth r324 1)))) (asI (nth r324 0)) then
      some [T.s (⟨#[]⟩ : ByteArray), T.i .i64 0, T.b false]
    else
      bif iLe 0 (asI (nth r324 1)) && iLe (asI (nth r324 1)) (IntKind.wrap .i64 ((asI (nth r324 1)) + (asI (nth r324 0)))) && iLe (IntKind.wrap .i64 ((asI (nth r324 1)) + (asI (nth r324 0)))) (l0.length : Int) then
      some [T.s (bytesOf ((l0.drop ((asI (nth r324 1)).toNat)).take (((IntKind.wrap .i64 ((asI (nth r324 1)) + (asI (nth r324 0)))).toNat) - ((asI (nth r324 1)).toNat)))), T.i .i64 (IntKind.wrap .i64 ((asI (nth r324 1)) + (asI (nth r324 0)))), T.b true]
      else none
def f139 (c : Orc) (lf : Nat) (l0 : List T) (n1 : Int) : Option (List T) := f139_t c lf l0 n1
theorem f139_raw (c : Orc) (lf : Nat) (l0 : List T) (n1 : Int) : funK c env lf 6 fi139 [.sl l0, .i .i64 n1] = f139_t c lf l0 n1 := by kernel_rfl
theorem f139_eq (c : Orc) (lf : Nat) (l0 : List T) (n1 : Int) : funK c env lf 6 fi139 [.sl l0, .i .i64 n1] = f139 c lf l0 n1 := by
  refine (f139_raw c lf l0 n1).trans ?_
  rfl
/-- loop.example/g00285/spec.l3Text -/
def f101_t (c : Orc) (lf : Nat) (l0_0 : List T) (n0_1 : Int) (b0_2 : Bool) : Option (List T) :=
  (c 139 [T.sl l0_0, T.i .i64 n0_1]).bind fun r325 =>
  bif b0_2 then
    some [T.s (⟨#[]⟩ : ByteArray), T.st [T.sl l0_0, T.i .i64 n0_1, T.b true]]
  else
    bif !(asB (nth r325 2)) then
      some [T.s (⟨#[]⟩ : ByteArray), T.st [T.sl l0_0, T.i .i64 n0_1, T.b true]]
    else
      some [T.s (asS (nth r325 0)), T.st [T.sl l0_0, T.i .i64 (asI (nth r325 1)), T.b b0_2]]
def f101 (c : Orc) (lf : Nat) (l0_0 : List T) (n0_1 : Int) (b0_2 : Bool) : Option (List T) := f101_t c lf l0_0 n0_1 b0_2
theorem f101_raw (c : Orc) (lf : Nat) (l0_0 : List T) (n0_1 : Int) (b0_2 : Bool) : funK c env lf 6 fi101 [.st [.sl l0_0, .i .i64 n0_1, .b b0_2]] = f101_t c lf l0_0 n0_1 b0_2 := by kernel_rfl
theorem f101_eq (c : Orc) (lf : Nat) (l0_0 : List T) (n0_1 : Int) (b0_2 : Bool) : funK c env lf 6 fi101 [.st [.sl l0_0, .i .i64 n0_1, .b b0_2]] = f101 c lf l0_0 n0_1 b0_2 := by
  refine (f101_raw c lf l0_0 n0_1 b0_2).trans ?_
  rfl
/-- loop.example/g00285/spec.GetTable, the loop at region 5. -/
def f44_0_s (c : Orc) (lf : Nat) (l0 : List T) (r348 : List T) (r349 : List T) (L : Int → Int → Bool → List T → Option (List T)) (x357 : Int) (x358 : Int) (x359 : Bool) (x360 : List T) : Option (List T) :=
  bif iLt x357 (asI (nth r349 0)) then
    bif iLe x357 6 then
      bif !x359 then
        (c 75 [T.st [T.sl l0, T.i .i64 x358, T.b x359]]).bind fun r361 =>
        (c 101 [T.st [T.sl l0, T.i .i64 (asI (T.cell (nth r361 1) 1)), T.b (asB (T.cell (nth r361 1) 2))]]).bind fun r362 =>
        (c 75 [T.st [T.sl l0, T.i .i64 (asI (T.cell (nth r362 1) 1)), T.b (asB (T.cell (nth r362 1) 2))]]).bind fun r363 =>
        bif asB (T.cell (nth r363 1) 2) then
          (c 75 [T.st [T.sl l0, T.i .i64 (asI (T.cell (nth r363 1) 1)), T.b true]]).bind fun r364 =>
          (c 75 [T.st [T.sl l0, T.i .i64 (asI (T.cell (nth r364 1) 1)), T.b (asB (T.cell (nth r364 1) 2))]]).bind fun r365 =>
          bif nLe (x360.length + ([T.st [T.i .i64 (asI (nth r361 0)), T.s (asS (nth r362 0)), T.b ((asI (nth r363 0)) == 1), T.i .i64 (asI (nth r364 0)), T.i .i64 (asI (nth r365 0))]] : List T).length) LIM then
          L (IntKind.wrap .i64 (x357 + 1)) (asI (T.cell (nth r365 1) 1)) (asB (T.cell (nth r365 1) 2)) (x360 ++ ([T.st [T.i .i64 (asI (nth r361 0)), T.s (asS (nth r362 0)), T.b ((asI (nth r363 0)) == 1), T.i .i64 (asI (nth r364 0)), T.i .i64 (asI (nth r365 0))]] : List T))
          else none
        else
          (c 75 [T.st [T.sl l0, T.i .i64 (asI (T.cell (nth r363 1) 1)), T.b (iLt 1 (asI (nth r363 0)))]]).bind fun r366 =>
          (c 75 [T.st [T.sl l0, T.i .i64 (asI (T.cell (nth r366 1) 1)), T.b (asB (T.cell (nth r366 1) 2))]]).bind fun r367 =>
          bif nLe (x360.length + ([T.st [T.i .i64 (asI (nth r361 0)), T.s (asS (nth r362 0)), T.b ((asI (nth r363 0)) == 1), T.i .i64 (asI (nth r366 0)), T.i .i64 (asI (nth r367 0))]] : List T).length) LIM then
          L (IntKind.wrap .i64 (x357 + 1)) (asI (T.cell (nth r367 1) 1)) (asB (T.cell (nth r367 1) 2)) (x360 ++ ([T.st [T.i .i64 (asI (nth r361 0)), T.s (asS (nth r362 0)), T.b ((asI (nth r363 0)) == 1), T.i .i64 (asI (nth r366 0)), T.i .i64 (asI (nth r367 0))]] : List T))
          else none
      else
        some [T.i .i64 0, T.sl l0, T.i .i64 (asI (nth r349 0)), T.i .i64 0, T.sl ([] : List T), T.sl l0, T.i .i64 x358, T.b x359, T.i .i64 (asI (nth r348 0)), T.sl x360]
    else
      some [T.i .i64 0, T.sl l0, T.i .i64 (asI (nth r349 0)), T.i .i64 0, T.sl ([] : List T), T.sl l0, T.i .i64 x358, T.b x359, T.i .i64 (asI (nth r348 0)), T.sl x360]
  else
    some [T.i .i64 0, T.sl l0, T.i .i64 (asI (nth r349 0)), T.i .i64 0, T.sl ([] : List T), T.sl l0, T.i .i64 x358, T.b x359, T.i .i64 (asI (nth r348 0)), T.sl x360]
def f44_0_c (l0 : List T) (r348 : List T) (r349 : List T) (x357 : Int) (x358 : Int) (x359 : Bool) (x360 : List T) : CSt := ⟨[.ro 0 false [.i .u8] l0, .bp 1 0, .bp 3 0, .bp 4 0, .i .i64 (asI (nth r349 0)), .i .i64 x357], [.dead, .box [.i .i64 0, .rf 2 [] 0 none], .row true [.i .i64, .s, .b, .i .i64, .i .i64] ([] : List T) 0 false, .box [.ro 0 false [.i .u8] l0, .i .i64 x358, .b x359], .box [.i .i64 (asI (nth r348 0)), .rf 5 [] 0 none], .row true [.i .i64, .s, .b, .i .i64, .i .i64] x360 0 false]⟩
theorem f44_0_round (c : Orc) (lf : Nat) (l0 : List T) (r348 : List T) (r349 : List T) (L : CSt → Option (List T)) (x357 : Int) (x358 : Int) (x359 : Bool) (x360 : List T) :
    roundK c env lf 6 fi44 1 5 [] [0, 2, 4, 5, 6, 7] (x44_5_0) L (f44_0_c l0 r348 r349 x357 x358 x359 x360) = f44_0_s c lf l0 r348 r349 (fun x357 x358 x359 x360 => L (f44_0_c l0 r348 r349 x357 x358 x359 x360)) x357 x358 x359 x360 := by kernel_rfl
def f44_0 (c : Orc) (lf : Nat) (l0 : List T) (r348 : List T) (r349 : List T) : Nat → Int → Int → Bool → List T → Option (List T)
  | 0 => fun _ _ _ _ => none
  | n + 1 => fun x357 x358 x359 x360 => f44_0_s c lf l0 r348 r349 (f44_0 c lf l0 r348 r349 n) x357 x358 x359 x360
theorem f44_0_u (c : Orc) (lf : Nat) (l0 : List T) (r348 : List T) (r349 : List T) (n : Nat) (x357 : Int) (x358 : Int) (x359 : Bool) (x360 : List T) : f44_0 c lf l0 r348 r349 (n + 1) x357 x358 x359 x360 = f44_0_s c lf l0 r348 r349 (f44_0 c lf l0 r348 r349 n) x357 x358 x359 x360 := rfl
theorem f44_0_eq (c : Orc) (lf : Nat) (l0 : List T) (r348 : List T) (r349 : List T) (n : Nat) (x357 : Int) (x358 : Int) (x359 : Bool) (x360 : List T) :
    lpK c env lf 6 fi44 1 5 [] [0, 2, 4, 5, 6, 7] (x44_5_0) n (f44_0_c l0 r348 r349 x357 x358 x359 x360) = f44_0 c lf l0 r348 r349 n x357 x358 x359 x360 := by
  induction n generalizing x357 x358 x359 x360 with
  | zero => rfl
  | succ n ih =>
    refine (f44_0_round c lf l0 r348 r349 _ x357 x358 x359 x360).trans ?_
    have e : (fun x357 x358 x359 x360 => lpK c env lf 6 fi44 1 5 [] [0, 2, 4, 5, 6, 7] (x44_5_0) n (f44_0_c l0 r348 r349 x357 x358 x359 x360)) = f44_0 c lf l0 r348 r349 n := by funext x357 x358 x359 x360; exact ih x357 x358 x359 x360
    show f44_0_s c lf l0 r348 r349 (fun x357 x358 x359 x360 => lpK c env lf 6 fi44 1 5 [] [0, 2, 4, 5, 6, 7] (x44_5_0) n (f44_0_c l0 r348 r349 x357 x358 x359 x360)) x357 x358 x359 x360 = _
    rw [e]; rfl
/-- loop.example/g00285/spec.GetTable -/
def f44_t (c : Orc) (lf : Nat) (lp0 : List T → List T → List T → Int → Int → Bool → List T → Option (List T)) (l0 : List T) : Option (List T) :=
  (c 75 [T.st [T.sl l0, T.i .i64 0, T.b false]]).bind fun r348 =>
  (c 75 [T.st [T.sl l0, T.i .i64 (asI (T.cell (nth r348 1) 1)), T.b (asB (T.cell (nth r348 1) 2))]]).bind fun r349 =>
  (lp0 l0 r348 r349 0 (asI (T.cell (nth r349 1) 1)) (asB (T.cell (nth r349 1) 2)) ([] : List T)).bind fun r368 =>
  bif asB (nth r368 7) then
    some [T.st [T.i .i64 0, T.sl []], T.b false]
  else
    bif (asI (nth r368 6)) != ((asL (nth r368 1)).length : Int) then
      some [T.st [T.i .i64 0, T.sl []], T.b false]
    else
      bif (asI (nth r368 2)) != ((asL (nth r368 9)).length : Int) then
        some [T.st [T.i .i64 0, T.sl []], T.b false]
      else
        (c 53 [T.st [T.i .i64 (asI (nth r368 8)), T.sl (asL (nth r368 9))]]).bind fun r369 =>
        bif !(asB (nth r369 0)) then
          some [T.st [T.i .i64 0, T.sl []], T.b false]
        else
          some [T.st [T.i .i64 (asI (nth r368 8)), T.sl (asL (nth r368 9))], T.b true]
def f44 (c : Orc) (lf : Nat) (l0 : List T) : Option (List T) := f44_t c lf (fun (l0 : List T) (r348 : List T) (r349 : List T) (x357 : Int) (x358 : Int) (x359 : Bool) (x360 : List T) => f44_0 c lf l0 r348 r349 lf x357 x358 x359 x360) l0
theorem f44_raw (c : Orc) (lf : Nat) (l0 : List T) : funK c env lf 6 fi44 [.sl l0] = f44_t c lf (fun (l0 : List T) (r348 : List T) (r349 : List T) (x357 : Int) (x358 : Int) (x359 : Bool) (x360 : List T) => lpK c env lf 6 fi44 1 5 [] [0, 2, 4, 5, 6, 7] (x44_5_0) lf (f44_0_c l0 r348 r349 x357 x358 x359 x360)) l0 := by kernel_rfl
theorem f44_eq (c : Orc) (lf : Nat) (l0 : List T) : funK c env lf 6 fi44 [.sl l0] = f44 c lf l0 := by
  refine (f44_raw c lf l0).trans ?_
  have e0 : (fun (l0 : List T) (r348 : List T) (r349 : List T) (x357 : Int) (x358 : Int) (x359 : Bool) (x360 : List T) => lpK c env lf 6 fi44 1 5 [] [0, 2, 4, 5, 6, 7] (x44_5_0) lf (f44_0_c l0 r348 r349 x357 x358 x359 x360)) = (fun (l0 : List T) (r348 : List T) (r349 : List T) (x357 : Int) (x358 : Int) (x359 : Bool) (x360 : List T) => f44_0 c lf l0 r348 r349 lf x357 x358 x359 x360) := by funext l0 r348 r349 x357 x358 x359 x360; exact f44_0_eq c lf l0 r348 r349 lf x357 x358 x359 x360
  rw [e0]; rfl
/-- loop.example/g00285/laws.sameBytes, the loop at region 4. -/
def f20_0_s (c : Orc) (lf : Nat) (l0 : List T) (l1 : List T) (L : Int → Option (List T)) (x372 : Int) : Option (List T) :=
  bif iLt x372 (l0.length : Int) then
    bif inR x372 l0.length then
    bif inR x372 l1.length then
    bif (asI (l0.getD x372.toNat T.u)) != (asI (l1.getD x372.toNat T.u)) then
      some [T.i .i64 0, T.b false]
    else
      L (IntKind.wrap .i64 (x372 + 1))
    else none
    else none
  else
    some [T.i .i64 1]
def f20_0_c (l0 : List T) (l1 : List T) (x372 : Int) : CSt := ⟨[.ro 0 false [.i .u8] l0, .ro 0 false [.i .u8] l1, .i .i64 x372], [.dead, .dead]⟩
theorem f20_0_round (c : Orc) (lf : Nat) (l0 : List T) (l1 : List T) (L : CSt → Option (List T)) (x372 : Int) :
    roundK c env lf 6 fi20 2 4 [] [0, 1, 5] (x20_4_0) L (f20_0_c l0 l1 x372) = f20_0_s c lf l0 l1 (fun x372 => L (f20_0_c l0 l1 x372)) x372 := by kernel_rfl
def f20_0 (c : Orc) (lf : Nat) (l0 : List T) (l1 : List T) : Nat → Int → Option (List T)
  | 0 => fun _ => none
  | n + 1 => fun x372 => f20_0_s c lf l0 l1 (f20_0 c lf l0 l1 n) x372
theorem f20_0_u (c : Orc) (lf : Nat) (l0 : List T) (l1 : List T) (n : Nat) (x372 : Int) : f20_0 c lf l0 l1 (n + 1) x372 = f20_0_s c lf l0 l1 (f20_0 c lf l0 l1 n) x372 := rfl
theorem f20_0_eq (c : Orc) (lf : Nat) (l0 : List T) (l1 : List T) (n : Nat) (x372 : Int) :
    lpK c env lf 6 fi20 2 4 [] [0, 1, 5] (x20_4_0) n (f20_0_c l0 l1 x372) = f20_0 c lf l0 l1 n x372 := by
  induction n generalizing x372 with
  | zero => rfl
  | succ n ih =>
    refine (f20_0_round c lf l0 l1 _ x372).trans ?_
    have e : (fun x372 => lpK c env lf 6 fi20 2 4 [] [0, 1, 5] (x20_4_0) n (f20_0_c l0 l1 x372)) = f20_0 c lf l0 l1 n := by funext x372; exact ih x372
    show f20_0_s c lf l0 l1 (fun x372 => lpK c env lf 6 fi20 2 4 [] [0, 1, 5] (x20_4_0) n (f20_0_c l0 l1 x372)) x372 = _
    rw [e]; rfl
/-- loop.example/g00285/laws.sameBytes -/
def f20_t (c : Orc) (lf : Nat) (lp0 : List T → List T → Int → Option (List T)) (l0 : List T) (l1 : List T) : Option (List T) :=
  bif (l0.length : Int) != (l1.length : Int) then
    some [T.b false]
  else
    (lp0 l0 l1 0).bind fun r373 =>
    bif asI (nth r373 0) == 0 then
      some [T.b (asB (nth r373 1))]
    else
      some [T.b true]
def f20 (c : Orc) (lf : Nat) (l0 : List T) (l1 : List T) : Option (List T) := f20_t c lf (fun (l0 : List T) (l1 : List T) (x372 : Int) => f20_0 c lf l0 l1 lf x372) l0 l1
theorem f20_raw (c : Orc) (lf : Nat) (l0 : List T) (l1 : List T) : funK c env lf 6 fi20 [.sl l0, .sl l1] = f20_t c lf (fun (l0 : List T) (l1 : List T) (x372 : Int) => lpK c env lf 6 fi20 2 4 [] [0, 1, 5] (x20_4_0) lf (f20_0_c l0 l1 x372)) l0 l1 := by kernel_rfl
theorem f20_eq (c : Orc) (lf : Nat) (l0 : List T) (l1 : List T) : funK c env lf 6 fi20 [.sl l0, .sl l1] = f20 c lf l0 l1 := by
  refine (f20_raw c lf l0 l1).trans ?_
  have e0 : (fun (l0 : List T) (l1 : List T) (x372 : Int) => lpK c env lf 6 fi20 2 4 [] [0, 1, 5] (x20_4_0) lf (f20_0_c l0 l1 x372)) = (fun (l0 : List T) (l1 : List T) (x372 : Int) => f20_0 c lf l0 l1 lf x372) := by funext l0 l1 x372; exact f20_0_eq c lf l0 l1 lf x372
  rw [e0]; rfl
/-- loop.example/g00285/laws.FnTables, the loop at region 16. -/
def f9_0_s (c : Orc) (lf : Nat) (r396 : List T) (r406 : List T) (L : Int → Option (List T)) (x407 : Int) : Option (List T) :=
  bif iLt x407 ((asL (T.cell (nth r396 0) 1)).length : Int) then
    bif inR x407 ((asL (T.cell (nth r406 0) 1)).length) then
    bif inR x407 ((asL (T.cell (nth r396 0) 1)).length) then
    bif !(((asI (T.cell ((asL (T.cell (nth r406 0) 1)).getD x407.toNat T.u) 0)) == (asI (T.cell ((asL (T.cell (nth r396 0) 1)).getD x407.toNat T.u) 0))) && (((asS (T.cell ((asL (T.cell (nth r406 0) 1)).getD x407.toNat T.u) 1)) == (asS (T.cell ((asL (T.cell (nth r396 0) 1)).getD x407.toNat T.u) 1))) && (((asB (T.cell ((asL (T.cell (nth r406 0) 1)).getD x407.toNat T.u) 2)) == (asB (T.cell ((asL (T.cell (nth r396 0) 1)).getD x407.toNat T.u) 2))) && (((asI (T.cell ((asL (T.cell (nth r406 0) 1)).getD x407.toNat T.u) 3)) == (asI (T.cell ((asL (T.cell (nth r396 0) 1)).getD x407.toNat T.u) 3))) && (((asI (T.cell ((asL (T.cell (nth r406 0) 1)).getD x407.toNat T.u) 4)) == (asI (T.cell ((asL (T.cell (nth r396 0) 1)).getD x407.toNat T.u) 4))) && (true)))))) then
      some [T.i .i64 0, T.b false]
    else
      L (IntKind.wrap .i64 (x407 + 1))
    else none
    else none
  else
    some [T.i .i64 1, T.i .i64 (asI (T.cell (nth r396 0) 0)), T.sl (asL (T.cell (nth r396 0) 1))]
def f9_0_c (r396 : List T) (r406 : List T) (x407 : Int) : CSt := ⟨[.bp 1 0, .bp 3 0, .i .i64 x407], [.dead, .box [.i .i64 (asI (T.cell (nth r396 0) 0)), .rf 2 [] 0 none], .row true [.i .i64, .s, .b, .i .i64, .i .i64] (asL (T.cell (nth r396 0) 1)) 0 false, .box [.i .i64 (asI (T.cell (nth r406 0) 0)), .rf 4 [] 0 none], .row true [.i .i64, .s, .b, .i .i64, .i .i64] (asL (T.cell (nth r406 0) 1)) 0 false]⟩
theorem f9_0_round (c : Orc) (lf : Nat) (r396 : List T) (r406 : List T) (L : CSt → Option (List T)) (x407 : Int) :
    roundK c env lf 6 fi9 1 16 [] [3, 10, 12] (x9_16_0) L (f9_0_c r396 r406 x407) = f9_0_s c lf r396 r406 (fun x407 => L (f9_0_c r396 r406 x407)) x407 := by kernel_rfl
def f9_0 (c : Orc) (lf : Nat) (r396 : List T) (r406 : List T) : Nat → Int → Option (List T)
  | 0 => fun _ => none
  | n + 1 => fun x407 => f9_0_s c lf r396 r406 (f9_0 c lf r396 r406 n) x407
theorem f9_0_u (c : Orc) (lf : Nat) (r396 : List T) (r406 : List T) (n : Nat) (x407 : Int) : f9_0 c lf r396 r406 (n + 1) x407 = f9_0_s c lf r396 r406 (f9_0 c lf r396 r406 n) x407 := rfl
theorem f9_0_eq (c : Orc) (lf : Nat) (r396 : List T) (r406 : List T) (n : Nat) (x407 : Int) :
    lpK c env lf 6 fi9 1 16 [] [3, 10, 12] (x9_16_0) n (f9_0_c r396 r406 x407) = f9_0 c lf r396 r406 n x407 := by
  induction n generalizing x407 with
  | zero => rfl
  | succ n ih =>
    refine (f9_0_round c lf r396 r406 _ x407).trans ?_
    have e : (fun x407 => lpK c env lf 6 fi9 1 16 [] [3, 10, 12] (x9_16_0) n (f9_0_c r396 r406 x407)) = f9_0 c lf r396 r406 n := by funext x407; exact ih x407
    show f9_0_s c lf r396 r406 (fun x407 => lpK c env lf 6 fi9 1 16 [] [3, 10, 12] (x9_16_0) n (f9_0_c r396 r406 x407)) x407 = _
    rw [e]; rfl
/-- loop.example/g00285/laws.FnTables, the loop at region 16. -/
def f9_1_s (c : Orc) (lf : Nat) (r396 : List T) (r412 : List T) (L : Int → Option (List T)) (x413 : Int) : Option (List T) :=
  bif iLt x413 ((asL (T.cell (nth r396 0) 1)).length : Int) then
    bif inR x413 ((asL (T.cell (nth r412 0) 1)).length) then
    bif inR x413 ((asL (T.cell (nth r396 0) 1)).length) then
    bif !(((asI (T.cell ((asL (T.cell (nth r412 0) 1)).getD x413.toNat T.u) 0)) == (asI (T.cell ((asL (T.cell (nth r396 0) 1)).getD x413.toNat T.u) 0))) && (((asS (T.cell ((asL (T.cell (nth r412 0) 1)).getD x413.toNat T.u) 1)) == (asS (T.cell ((asL (T.cell (nth r396 0) 1)).getD x413.toNat T.u) 1))) && (((asB (T.cell ((asL (T.cell (nth r412 0) 1)).getD x413.toNat T.u) 2)) == (asB (T.cell ((asL (T.cell (nth r396 0) 1)).getD x413.toNat T.u) 2))) && (((asI (T.cell ((asL (T.cell (nth r412 0) 1)).getD x413.toNat T.u) 3)) == (asI (T.cell ((asL (T.cell (nth r396 0) 1)).getD x413.toNat T.u) 3))) && (((asI (T.cell ((asL (T.cell (nth r412 0) 1)).getD x413.toNat T.u) 4)) == (asI (T.cell ((asL (T.cell (nth r396 0) 1)).getD x413.toNat T.u) 4))) && (true)))))) then
      some [T.i .i64 0, T.b false]
    else
      L (IntKind.wrap .i64 (x413 + 1))
    else none
    else none
  else
    some [T.i .i64 1, T.i .i64 (asI (T.cell (nth r396 0) 0)), T.sl (asL (T.cell (nth r396 0) 1))]
def f9_1_c (r396 : List T) (r412 : List T) (x413 : Int) : CSt := ⟨[.bp 1 0, .bp 3 0, .i .i64 x413], [.dead, .box [.i .i64 (asI (T.cell (nth r396 0) 0)), .rf 2 [] 0 none], .row true [.i .i64, .s, .b, .i .i64, .i .i64] (asL (T.cell (nth r396 0) 1)) 0 false, .box [.i .i64 (asI (T.cell (nth r412 0) 0)), .rf 4 [] 0 none], .row true [.i .i64, .s, .b, .i .i64, .i .i64] (asL (T.cell (nth r412 0) 1)) 0 false]⟩
theorem f9_1_round (c : Orc) (lf : Nat) (r396 : List T) (r412 : List T) (L : CSt → Option (List T)) (x413 : Int) :
    roundK c env lf 6 fi9 1 16 [] [3, 10, 12] (x9_16_0) L (f9_1_c r396 r412 x413) = f9_1_s c lf r396 r412 (fun x413 => L (f9_1_c r396 r412 x413)) x413 := by kernel_rfl
def f9_1 (c : Orc) (lf : Nat) (r396 : List T) (r412 : List T) : Nat → Int → Option (List T)
  | 0 => fun _ => none
  | n + 1 => fun x413 => f9_1_s c lf r396 r412 (f9_1 c lf r396 r412 n) x413
theorem f9_1_u (c : Orc) (lf : Nat) (r396 : List T) (r412 : List T) (n : Nat) (x413 : Int) : f9_1 c lf r396 r412 (n + 1) x413 = f9_1_s c lf r396 r412 (f9_1 c lf r396 r412 n) x413 := rfl
theorem f9_1_eq (c : Orc) (lf : Nat) (r396 : List T) (r412 : List T) (n : Nat) (x413 : Int) :
    lpK c env lf 6 fi9 1 16 [] [3, 10, 12] (x9_16_0) n (f9_1_c r396 r412 x413) = f9_1 c lf r396 r412 n x413 := by
  induction n generalizing x413 with
  | zero => rfl
  | succ n ih =>
    refine (f9_1_round c lf r396 r412 _ x413).trans ?_
    have e : (fun x413 => lpK c env lf 6 fi9 1 16 [] [3, 10, 12] (x9_16_0) n (f9_1_c r396 r412 x413)) = f9_1 c lf r396 r412 n := by funext x413; exact ih x413
    show f9_1_s c lf r396 r412 (fun x413 => lpK c env lf 6 fi9 1 16 [] [3, 10, 12] (x9_16_0) n (f9_1_c r396 r412 x413)) x413 = _
    rw [e]; rfl
/-- loop.example/g00285/laws.FnTables -/
def f9_t (c : Orc) (lf : Nat) (lp0 : List T → List T → Int → Option (List T)) (lp1 : List T → List T → Int → Option (List T)) (l0 : List T) : Option (List T) :=
  (c 13 [T.sl l0]).bind fun r395 =>
  bif asB (nth r395 0) then
    some [T.b true]
  else
    (c 50 [T.sl l0]).bind fun r396 =>
    (c 26 [T.st [T.i .i64 (asI (T.cell (nth r396 0) 0)), T.sl (asL (T.cell (nth r396 0) 1))]]).bind fun r397 =>
    (c 51 [T.sl l0]).bind fun r398 =>
    (c 46 [T.sl (asL (nth r398 0))]).bind fun r399 =>
    (c 44 [T.sl (asL (nth r398 0))]).bind fun r400 =>
    bif !((asB (nth r399 1)) == (asB (nth r400 1))) then
      some [T.b false]
    else
      bif asB (nth r399 1) then
        (c 52 [T.st [T.i .i64 (asI (T.cell (nth r399 0) 0)), T.sl (asL (T.cell (nth r399 0) 1))]]).bind fun r401 =>
        bif !(asB (nth r401 0)) then
          some [T.b false]
        else
          (c 26 [T.st [T.i .i64 (asI (T.cell (nth r399 0) 0)), T.sl (asL (T.cell (nth r399 0) 1))]]).bind fun r402 =>
          (c 20 [T.sl (asL (nth r402 0)), T.sl (asL (nth r398 0))]).bind fun r403 =>
          bif !(asB (nth r403 0)) then
            some [T.b false]
          else
            (c 53 [T.st [T.i .i64 (asI (T.cell (nth r396 0) 0)), T.sl (asL (T.cell (nth r396 0) 1))]]).bind fun r404 =>
            bif !(asB (nth r404 0)) then
              bif ((asL (nth r397 0)).length : Int) == 0 then
                (c 52 [T.st [T.i .i64 (asI (T.cell (nth r396 0) 0)), T.sl (asL (T.cell (nth r396 0) 1))]]).bind fun r405 =>
                some [T.b (!(asB (nth r405 0)))]
              else
                some [T.b false]
            else
              (c 46 [T.sl (asL (nth r397 0))]).bind fun r406 =>
              bif !(asB (nth r406 1)) then
                some [T.b false]
              else
                bif (asI (T.cell (nth r406 0) 0)) != (asI (T.cell (nth r396 0) 0)) then
                  some [T.b false]
                else
                  bif ((asL (T.cell (nth r406 0) 1)).length : Int) != ((asL (T.cell (nth r396 0) 1)).length : Int) then
                    some [T.b false]
                  else
                    bif iLt 380 ((asL (nth r397 0)).length : Int) then
                      some [T.b false]
                    else
                      (lp0 r396 r406 0).bind fun r408 =>
                      bif asI (nth r408 0) == 0 then
                        some [T.b (asB (nth r408 1))]
                      else
                        (c 52 [T.st [T.i .i64 (asI (nth r408 1)), T.sl (asL (nth r408 2))]]).bind fun r409 =>
                        some [T.b (asB (nth r409 0))]
      else
        (c 53 [T.st [T.i .i64 (asI (T.cell (nth r396 0) 0)), T.sl (asL (T.cell (nth r396 0) 1))]]).bind fun r410 =>
        bif !(asB (nth r410 0)) then
          bif ((asL (nth r397 0)).length : Int) == 0 then
            (c 52 [T.st [T.i .i64 (asI (T.cell (nth r396 0) 0)), T.sl (asL (T.cell (nth r396 0) 1))]]).bind fun r411 =>
            some [T.b (!(asB (nth r411 0)))]
          else
            some [T.b false]
        else
          (c 46 [T.sl (asL (nth r397 0))]).bind fun r412 =>
          bif !(asB (nth r412 1)) then
            some [T.b false]
          else
            bif (asI (T.cell (nth r412 0) 0)) != (asI (T.cell (nth r396 0) 0)) then
              some [T.b false]
            else
              bif ((asL (T.cell (nth r412 0) 1)).length : Int) != ((asL (T.cell (nth r396 0) 1)).length : Int) then
                some [T.b false]
              else
                bif iLt 380 ((asL (nth r397 0)).length : Int) then
                  some [T.b false]
                else
                  (lp1 r396 r412 0).bind fun r414 =>
                  bif asI (nth r414 0) == 0 then
                    some [T.b (asB (nth r414 1))]
                  else
                    (c 52 [T.st [T.i .i64 (asI (nth r414 1)), T.sl (asL (nth r414 2))]]).bind fun r415 =>
                    some [T.b (asB (nth r415 0))]
def f9 (c : Orc) (lf : Nat) (l0 : List T) : Option (List T) := f9_t c lf (fun (r396 : List T) (r406 : List T) (x407 : Int) => f9_0 c lf r396 r406 lf x407) (fun (r396 : List T) (r412 : List T) (x413 : Int) => f9_1 c lf r396 r412 lf x413) l0
theorem f9_raw (c : Orc) (lf : Nat) (l0 : List T) : funK c env lf 6 fi9 [.sl l0] = f9_t c lf (fun (r396 : List T) (r406 : List T) (x407 : Int) => lpK c env lf 6 fi9 1 16 [] [3, 10, 12] (x9_16_0) lf (f9_0_c r396 r406 x407)) (fun (r396 : List T) (r412 : List T) (x413 : Int) => lpK c env lf 6 fi9 1 16 [] [3, 10, 12] (x9_16_0) lf (f9_1_c r396 r412 x413)) l0 := by kernel_rfl
theorem f9_eq (c : Orc) (lf : Nat) (l0 : List T) : funK c env lf 6 fi9 [.sl l0] = f9 c lf l0 := by
  refine (f9_raw c lf l0).trans ?_
  have e0 : (fun (r396 : List T) (r406 : List T) (x407 : Int) => lpK c env lf 6 fi9 1 16 [] [3, 10, 12] (x9_16_0) lf (f9_0_c r396 r406 x407)) = (fun (r396 : List T) (r406 : List T) (x407 : Int) => f9_0 c lf r396 r406 lf x407) := by funext r396 r406 x407; exact f9_0_eq c lf r396 r406 lf x407
  have e1 : (fun (r396 : List T) (r412 : List T) (x413 : Int) => lpK c env lf 6 fi9 1 16 [] [3, 10, 12] (x9_16_0) lf (f9_1_c r396 r412 x413)) = (fun (r396 : List T) (r412 : List T) (x413 : Int) => f9_1 c lf r396 r412 lf x413) := by funext r396 r412 x413; exact f9_1_eq c lf r396 r412 lf x413
  rw [e0, e1]; rfl
end Go.Proofs.Ytockabaoaneplaa.T
