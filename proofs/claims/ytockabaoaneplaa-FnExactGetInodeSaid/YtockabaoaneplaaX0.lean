/- What functions of the law FnExactGetInode come to, in trees; no condition. -/
import Derived.Test.YtockabaoaneplaaRows
import Derived.Test.YtockabaoaneplaaV4
import Derived.KernelRfl
set_option linter.unusedVariables false
set_option linter.constructorNameAsVariable false
set_option linter.unusedSimpArgs false
set_option linter.unnecessarySimpa false
namespace Go.Proofs.Ytockabaoaneplaa.T
open Go Go.Proofs.YtockabaoaneplaaV
def tyTab : List (Nat × Ti) := [
  (3, ⟨false, [.i .i64], .o⟩),
  (4, ⟨false, [.b], .o⟩),
  (5, ⟨false, [.i .u8], .o⟩),
  (9, ⟨false, [.s], .o⟩),
  (22, ⟨false, [.sl false [.i .u8]], .sl 5⟩),
  (50, ⟨false, [.sl true [.s, .i .i64]], .sl 61⟩),
  (51, ⟨false, [.sl true [.s, .s]], .sl 133⟩),
  (53, ⟨true, [.i .i64, .i .i64, .i .i64, .sl false [.i .u8], .sl true [.s, .i .i64], .sl true [.s, .s]], .st [(0, 3), (1, 3), (2, 3), (3, 22), (4, 50), (5, 51)]⟩),
  (61, ⟨true, [.s, .i .i64], .st [(0, 9), (1, 3)]⟩),
  (108, ⟨false, [.o], .o⟩),
  (110, ⟨true, [.sl false [.i .u8], .i .i64, .b], .st [(0, 22), (1, 3), (2, 4)]⟩),
  (113, ⟨false, [.o], .o⟩),
  (115, ⟨true, [.sl false [.i .u8], .i .i64, .b], .st [(0, 22), (1, 3), (2, 4)]⟩),
  (133, ⟨true, [.s, .s], .st [(0, 9), (1, 9)]⟩),
  (159, ⟨false, [.i .u64], .o⟩)]
def x45_3_0 : List (Ex × List Nat × CSt) := [((.ex 0), [3], ⟨[.rf 1 [] 0 none], [.dead, .row false [.i .u8] [] 0 false]⟩)]
noncomputable def fi45 : Fi := ⟨Try.f45, [⟨3, [0, 3, 4], [], [(⟨[.ro 0 false [.i .u8] [], .rf 1 [] 0 none, .i .i64 0], [.dead, .row false [.i .u8] [] 0 false]⟩, x45_3_0)]⟩], false, [.ro (.sl false [.i .u8])], [.ow (.sl false [.i .u8])]⟩
def x126_3_0 : List (Ex × List Nat × CSt) := [(.ret, [4, 5, 6], ⟨[.i .i64 0, .i .i64 0, .b false], [.dead, .dead]⟩), ((.ex 0), [], ⟨[], [.dead, .dead]⟩)]
noncomputable def fi126 : Fi := ⟨Try.f126, [⟨3, [0, 1, 7, 8], [], [(⟨[.ro 0 false [.i .u8] [], .i .i64 0, .i .i64 0, .i .i64 0], [.dead, .dead]⟩, x126_3_0)]⟩], false, [.ro (.sl false [.i .u8]), .v (.i .i64)], [.v (.i .i64), .v (.i .i64), .v (.b)]⟩
noncomputable def fi75 : Fi := ⟨Try.f75, [], false, [.bx [.ro (.sl false [.i .u8]), .v (.i .i64), .v (.b)]], [.v (.i .i64)]⟩
noncomputable def fi139 : Fi := ⟨Try.f139, [], false, [.ro (.sl false [.i .u8]), .v (.i .i64)], [.v (.s), .v (.i .i64), .v (.b)]⟩
noncomputable def fi101 : Fi := ⟨Try.f101, [], false, [.bx [.ro (.sl false [.i .u8]), .v (.i .i64), .v (.b)]], [.v (.s)]⟩
noncomputable def fi77 : Fi := ⟨Try.f77, [], false, [.v (.i .i64), .v (.i .i64), .v (.i .i64)], [.v (.b)]⟩
def x109_2_0 : List (Ex × List Nat × CSt) := [(.ret, [2], ⟨[.b false], [.dead]⟩), ((.ex 0), [0], ⟨[.s (⟨#[]⟩ : ByteArray)], [.dead]⟩)]
noncomputable def fi109 : Fi := ⟨Try.f109, [⟨2, [0, 3], [], [(⟨[.s (⟨#[]⟩ : ByteArray), .i .i64 0], [.dead]⟩, x109_2_0)]⟩], false, [.v (.s)], [.v (.b)]⟩
def x87_2_0 : List (Ex × List Nat × CSt) := [(.ret, [2], ⟨[.b false], [.dead]⟩), ((.ex 0), [0], ⟨[.ro 0 true [.s, .i .i64] []], [.dead]⟩)]
noncomputable def fi87 : Fi := ⟨Try.f87, [⟨2, [0, 3], [], [(⟨[.ro 0 true [.s, .i .i64] [], .i .i64 0], [.dead]⟩, x87_2_0)]⟩], false, [.ro (.sl true [.s, .i .i64])], [.v (.b)]⟩
def x88_2_0 : List (Ex × List Nat × CSt) := [(.ret, [2], ⟨[.b false], [.dead]⟩), ((.ex 0), [0], ⟨[.ro 0 true [.s, .s] []], [.dead]⟩)]
noncomputable def fi88 : Fi := ⟨Try.f88, [⟨2, [0, 3], [], [(⟨[.ro 0 true [.s, .s] [], .i .i64 0], [.dead]⟩, x88_2_0)]⟩], false, [.ro (.sl true [.s, .s])], [.v (.b)]⟩
noncomputable def fi34 : Fi := ⟨Try.f34, [], false, [.ag [.v (.i .i64), .v (.i .i64), .v (.i .i64), .ro (.sl false [.i .u8]), .ro (.sl true [.s, .i .i64]), .ro (.sl true [.s, .s])]], [.v (.b)]⟩
def x54_8_0 : List (Ex × List Nat × CSt) := [((.ex 0), [0, 2, 4, 5, 6], ⟨[.ro 0 false [.i .u8] [], .bp 1 0, .bp 5 0, .bp 6 0, .i .i64 0], [.dead, .box [.i .i64 0, .i .i64 0, .i .i64 0, .rf 2 [] 0 none, .rf 3 [] 0 none, .rf 4 [] 0 none], .row false [.i .u8] [] 0 false, .row true [.s, .i .i64] [] 0 false, .row true [.s, .s] [] 0 false, .box [.ro 0 false [.i .u8] [], .i .i64 0, .b false], .box [.i .i64 0, .i .i64 0, .i .i64 0, .rf 7 [] 0 none, .rf 8 [] 0 none, .rf 9 [] 0 none], .row false [.i .u8] [] 0 false, .row true [.s, .i .i64] [] 0 false, .row true [.s, .s] [] 0 false]⟩)]
def x54_15_0 : List (Ex × List Nat × CSt) := [((.ex 2), [0, 2, 4, 5, 6, 9], ⟨[.ro 0 false [.i .u8] [], .bp 1 0, .bp 5 0, .bp 6 0, .i .i64 0, .i .i64 0], [.dead, .box [.i .i64 0, .i .i64 0, .i .i64 0, .rf 2 [] 0 none, .rf 3 [] 0 none, .rf 4 [] 0 none], .row false [.i .u8] [] 0 false, .row true [.s, .i .i64] [] 0 false, .row true [.s, .s] [] 0 false, .box [.ro 0 false [.i .u8] [], .i .i64 0, .b false], .box [.i .i64 0, .i .i64 0, .i .i64 0, .rf 7 [] 0 none, .rf 8 [] 0 none, .rf 9 [] 0 none], .row false [.i .u8] [] 0 false, .row true [.s, .i .i64] [] 0 false, .row true [.s, .s] [] 0 false]⟩)]
noncomputable def fi54 : Fi := ⟨Try.f54, [⟨8, [0, 2, 4, 5, 6, 7], [], [(⟨[.ro 0 false [.i .u8] [], .bp 1 0, .bp 5 0, .bp 6 0, .i .i64 0, .i .i64 0], [.dead, .box [.i .i64 0, .i .i64 0, .i .i64 0, .rf 2 [] 0 none, .rf 3 [] 0 none, .rf 4 [] 0 none], .row false [.i .u8] [] 0 false, .row true [.s, .i .i64] [] 0 false, .row true [.s, .s] [] 0 false, .box [.ro 0 false [.i .u8] [], .i .i64 0, .b false], .box [.i .i64 0, .i .i64 0, .i .i64 0, .rf 7 [] 0 none, .rf 8 [] 0 none, .rf 9 [] 0 none], .row false [.i .u8] [] 0 false, .row true [.s, .i .i64] [] 0 false, .row true [.s, .s] [] 0 false]⟩, x54_8_0)]⟩, ⟨15, [0, 2, 4, 5, 6, 9, 10], [], [(⟨[.ro 0 false [.i .u8] [], .bp 1 0, .bp 5 0, .bp 6 0, .i .i64 0, .i .i64 0, .i .i64 0], [.dead, .box [.i .i64 0, .i .i64 0, .i .i64 0, .rf 2 [] 0 none, .rf 3 [] 0 none, .rf 4 [] 0 none], .row false [.i .u8] [] 0 false, .row true [.s, .i .i64] [] 0 false, .row true [.s, .s] [] 0 false, .box [.ro 0 false [.i .u8] [], .i .i64 0, .b false], .box [.i .i64 0, .i .i64 0, .i .i64 0, .rf 7 [] 0 none, .rf 8 [] 0 none, .rf 9 [] 0 none], .row false [.i .u8] [] 0 false, .row true [.s, .i .i64] [] 0 false, .row true [.s, .s] [] 0 false]⟩, x54_15_0)]⟩], false, [.ro (.sl false [.i .u8])], [.ag [.v (.i .i64), .v (.i .i64), .v (.i .i64), .ow (.sl false [.i .u8]), .ow (.sl true [.s, .i .i64]), .ow (.sl true [.s, .s])], .v (.b)]⟩
def x125_6_0 : List (Ex × List Nat × CSt) := [((.ex 0), [], ⟨[], [.dead, .dead]⟩), (.ret, [4, 5, 6], ⟨[.i .i64 0, .i .i64 0, .b false], [.dead, .dead]⟩)]
noncomputable def fi125 : Fi := ⟨Try.f125, [⟨6, [0, 1, 7, 8, 9], [], [(⟨[.ro 0 false [.i .u8] [], .i .i64 0, .i .i64 0, .i .i64 0, .i .i64 0], [.dead, .dead]⟩, x125_6_0)]⟩], false, [.ro (.sl false [.i .u8]), .v (.i .i64)], [.v (.i .i64), .v (.i .i64), .v (.b)]⟩
noncomputable def fi72 : Fi := ⟨Try.f72, [], false, [.bx [.ro (.sl false [.i .u8]), .v (.i .i64), .v (.b)]], [.v (.i .i64)]⟩
noncomputable def fi132 : Fi := ⟨Try.f132, [], false, [.ro (.sl false [.i .u8]), .v (.i .i64)], [.v (.s), .v (.i .i64), .v (.b)]⟩
noncomputable def fi91 : Fi := ⟨Try.f91, [], false, [.bx [.ro (.sl false [.i .u8]), .v (.i .i64), .v (.b)]], [.v (.s)]⟩
noncomputable def fi73 : Fi := ⟨Try.f73, [], false, [.bx [.ro (.sl false [.i .u8]), .v (.i .i64), .v (.b)]], [.v (.i .i64)]⟩
def x92_3_0 : List (Ex × List Nat × CSt) := [((.ex 0), [3], ⟨[.rf 4 [] 0 none], [.box [.ro 1 false [.i .u8] [], .i .i64 0, .b false], .dead, .dead, .dead, .row true [.s, .s] [] 0 false]⟩)]
noncomputable def fi92 : Fi := ⟨Try.f92, [⟨3, [0, 3, 8, 9], [], [(⟨[.bp 0 0, .rf 4 [] 0 none, .i .i64 0, .i .i64 0], [.box [.ro 1 false [.i .u8] [], .i .i64 0, .b false], .dead, .dead, .dead, .row true [.s, .s] [] 0 false]⟩, x92_3_0)]⟩], false, [.bx [.ro (.sl false [.i .u8]), .v (.i .i64), .v (.b)]], [.ow (.sl true [.s, .s])]⟩
noncomputable def fi74 : Fi := ⟨Try.f74, [], false, [.bx [.ro (.sl false [.i .u8]), .v (.i .i64), .v (.b)]], [.v (.b)]⟩
noncomputable def fi76 : Fi := ⟨Try.f76, [], false, [.v (.i .i64), .v (.i .i64), .v (.i .i64)], [.v (.b)]⟩
def x90_2_0 : List (Ex × List Nat × CSt) := [(.ret, [2], ⟨[.b false], [.dead]⟩), ((.ex 0), [0], ⟨[.s (⟨#[]⟩ : ByteArray)], [.dead]⟩)]
noncomputable def fi90 : Fi := ⟨Try.f90, [⟨2, [0, 6, 7], [], [(⟨[.s (⟨#[]⟩ : ByteArray), .i .i64 0, .i .i64 0], [.dead]⟩, x90_2_0)]⟩], false, [.v (.s)], [.v (.b)]⟩
def x89_2_0 : List (Ex × List Nat × CSt) := [(.ret, [2], ⟨[.b false], [.dead]⟩), ((.ex 0), [0], ⟨[.ro 0 true [.s, .s] []], [.dead]⟩)]
noncomputable def fi89 : Fi := ⟨Try.f89, [⟨2, [0, 5, 6, 7], [], [(⟨[.ro 0 true [.s, .s] [], .ro 0 true [.s, .s] [], .i .i64 0, .i .i64 0], [.dead]⟩, x89_2_0)]⟩], false, [.ro (.sl true [.s, .s])], [.v (.b)]⟩
def x35_4_0 : List (Ex × List Nat × CSt) := [(.ret, [2], ⟨[.b false], [.dead, .dead, .dead, .dead, .dead, .dead]⟩), ((.ex 0), [1], ⟨[.bp 6 0], [.dead, .dead, .dead, .dead, .dead, .dead, .box [.i .i64 0, .i .i64 0, .i .i64 0, .ro 0 false [.i .u8] [], .ro 0 true [.s, .i .i64] [], .ro 0 true [.s, .s] []]]⟩)]
noncomputable def fi35 : Fi := ⟨Try.f35, [⟨4, [1, 28, 29, 30], [], [(⟨[.bp 6 0, .ro 0 true [.s, .i .i64] [], .i .i64 0, .i .i64 0], [.dead, .dead, .dead, .dead, .dead, .dead, .box [.i .i64 0, .i .i64 0, .i .i64 0, .ro 0 false [.i .u8] [], .ro 0 true [.s, .i .i64] [], .ro 0 true [.s, .s] []]]⟩, x35_4_0)]⟩], false, [.ag [.v (.i .i64), .v (.i .i64), .v (.i .i64), .ro (.sl false [.i .u8]), .ro (.sl true [.s, .i .i64]), .ro (.sl true [.s, .s])]], [.v (.b)]⟩
def x36_8_0 : List (Ex × List Nat × CSt) := [((.ex 0), [2, 4, 5], ⟨[.bp 1 0, .bp 5 0, .bp 6 0], [.dead, .box [.i .i64 0, .i .i64 0, .i .i64 0, .rf 2 [] 0 none, .rf 3 [] 0 none, .rf 4 [] 0 none], .row false [.i .u8] [] 0 false, .row true [.s, .i .i64] [] 0 false, .row true [.s, .s] [] 0 false, .box [.ro 0 false [.i .u8] [], .i .i64 0, .b false], .box [.i .i64 0, .i .i64 0, .i .i64 0, .rf 7 [] 0 none, .rf 8 [] 0 none, .rf 9 [] 0 none], .row false [.i .u8] [] 0 false, .row true [.s, .i .i64] [] 0 false, .row true [.s, .s] [] 0 false]⟩)]
noncomputable def fi36 : Fi := ⟨Try.f36, [⟨8, [2, 4, 5, 26, 27], [], [(⟨[.bp 1 0, .bp 5 0, .bp 6 0, .i .i64 0, .i .i64 0], [.dead, .box [.i .i64 0, .i .i64 0, .i .i64 0, .rf 2 [] 0 none, .rf 3 [] 0 none, .rf 4 [] 0 none], .row false [.i .u8] [] 0 false, .row true [.s, .i .i64] [] 0 false, .row true [.s, .s] [] 0 false, .box [.ro 0 false [.i .u8] [], .i .i64 0, .b false], .box [.i .i64 0, .i .i64 0, .i .i64 0, .rf 7 [] 0 none, .rf 8 [] 0 none, .rf 9 [] 0 none], .row false [.i .u8] [] 0 false, .row true [.s, .i .i64] [] 0 false, .row true [.s, .s] [] 0 false]⟩, x36_8_0)]⟩], false, [.ro (.sl false [.i .u8])], [.ag [.v (.i .i64), .v (.i .i64), .v (.i .i64), .ow (.sl false [.i .u8]), .ow (.sl true [.s, .i .i64]), .ow (.sl true [.s, .s])], .v (.b)]⟩
def x27_4_0 : List (Ex × List Nat × CSt) := [(.ret, [4], ⟨[.b false], [.dead, .dead]⟩), ((.ex 0), [], ⟨[], [.dead, .dead]⟩)]
noncomputable def fi27 : Fi := ⟨Try.f27, [⟨4, [0, 1, 5], [], [(⟨[.ro 0 false [.i .u8] [], .ro 0 false [.i .u8] [], .i .i64 0], [.dead, .dead]⟩, x27_4_0)]⟩], false, [.ro (.sl false [.i .u8]), .ro (.sl false [.i .u8])], [.v (.b)]⟩
noncomputable def fi141 : Fi := ⟨Try.f141, [], false, [.ag [.v (.s), .v (.i .i64)], .ag [.v (.s), .v (.i .i64)]], [.v (.b)]⟩
def x110_4_0 : List (Ex × List Nat × CSt) := [(.ret, [4], ⟨[.b false], [.dead, .dead]⟩), ((.ex 0), [], ⟨[], [.dead, .dead]⟩)]
noncomputable def fi110 : Fi := ⟨Try.f110, [⟨4, [0, 1, 5], [], [(⟨[.ro 0 true [.s, .i .i64] [], .ro 0 true [.s, .i .i64] [], .i .i64 0], [.dead, .dead]⟩, x110_4_0)]⟩], false, [.ro (.sl true [.s, .i .i64]), .ro (.sl true [.s, .i .i64])], [.v (.b)]⟩
noncomputable def fi142 : Fi := ⟨Try.f142, [], false, [.ag [.v (.s), .v (.s)], .ag [.v (.s), .v (.s)]], [.v (.b)]⟩
def x111_4_0 : List (Ex × List Nat × CSt) := [(.ret, [4], ⟨[.b false], [.dead, .dead]⟩), ((.ex 0), [], ⟨[], [.dead, .dead]⟩)]
noncomputable def fi111 : Fi := ⟨Try.f111, [⟨4, [0, 1, 5], [], [(⟨[.ro 0 true [.s, .s] [], .ro 0 true [.s, .s] [], .i .i64 0], [.dead, .dead]⟩, x111_4_0)]⟩], false, [.ro (.sl true [.s, .s]), .ro (.sl true [.s, .s])], [.v (.b)]⟩
noncomputable def fi55 : Fi := ⟨Try.f55, [], false, [.ag [.v (.i .i64), .v (.i .i64), .v (.i .i64), .ro (.sl false [.i .u8]), .ro (.sl true [.s, .i .i64]), .ro (.sl true [.s, .s])], .ag [.v (.i .i64), .v (.i .i64), .v (.i .i64), .ro (.sl false [.i .u8]), .ro (.sl true [.s, .i .i64]), .ro (.sl true [.s, .s])]], [.v (.b)]⟩
def x30_2_0 : List (Ex × List Nat × CSt) := [((.ex 0), [1], ⟨[.i .i64 0], [.row false [.i .u8] [] 0 false, .dead]⟩)]
noncomputable def fi30 : Fi := ⟨Try.f30, [⟨2, [0, 1, 5], [], [(⟨[.rf 0 [] 0 none, .i .i64 0, .i .i64 0], [.row false [.i .u8] [] 0 false, .dead]⟩, x30_2_0)]⟩], false, [.ow (.sl false [.i .u8]), .v (.i .i64)], [.v (.i .i64)]⟩
def x130_4_0 : List (Ex × List Nat × CSt) := [((.ex 0), [3], ⟨[.s (⟨#[]⟩ : ByteArray)], [.dead]⟩)]
noncomputable def fi130 : Fi := ⟨Try.f130, [⟨4, [0, 3], [], [(⟨[.i .i64 0, .s (⟨#[]⟩ : ByteArray)], [.dead]⟩, x130_4_0)]⟩], false, [.v (.i .i64)], [.v (.s)]⟩
def x112_2_0 : List (Ex × List Nat × CSt) := [((.ex 0), [1], ⟨[.i .i64 0], [.row true [.s, .i .i64] [] 0 false, .dead]⟩)]
noncomputable def fi112 : Fi := ⟨Try.f112, [⟨2, [0, 1, 5], [], [(⟨[.rf 0 [] 0 none, .i .i64 0, .i .i64 0], [.row true [.s, .i .i64] [] 0 false, .dead]⟩, x112_2_0)]⟩], false, [.ow (.sl true [.s, .i .i64]), .v (.i .i64)], [.v (.i .i64)]⟩
def x113_2_0 : List (Ex × List Nat × CSt) := [((.ex 0), [1], ⟨[.i .i64 0], [.row true [.s, .s] [] 0 false, .dead]⟩)]
noncomputable def fi113 : Fi := ⟨Try.f113, [⟨2, [0, 1, 5], [], [(⟨[.rf 0 [] 0 none, .i .i64 0, .i .i64 0], [.row true [.s, .s] [] 0 false, .dead]⟩, x113_2_0)]⟩], false, [.ow (.sl true [.s, .s]), .v (.i .i64)], [.v (.i .i64)]⟩
noncomputable def fi56 : Fi := ⟨Try.f56, [], false, [.ag [.v (.i .i64), .v (.i .i64), .v (.i .i64), .ow (.sl false [.i .u8]), .ow (.sl true [.s, .i .i64]), .ow (.sl true [.s, .s])], .v (.i .i64)], [.v (.i .i64)]⟩
def x31_2_0 : List (Ex × List Nat × CSt) := [(.ret, [4], ⟨[.i .i64 0], [.dead, .dead]⟩), ((.ex 0), [1], ⟨[.i .i64 0], [.dead, .dead]⟩)]
noncomputable def fi31 : Fi := ⟨Try.f31, [⟨2, [0, 1, 5], [], [(⟨[.ro 0 false [.i .u8] [], .i .i64 0, .i .i64 0], [.dead, .dead]⟩, x31_2_0)]⟩], false, [.ro (.sl false [.i .u8]), .v (.i .i64)], [.v (.i .i64)]⟩
def x114_2_0 : List (Ex × List Nat × CSt) := [(.ret, [4], ⟨[.i .i64 0], [.dead, .dead]⟩), ((.ex 0), [1], ⟨[.i .i64 0], [.dead, .dead]⟩)]
noncomputable def fi114 : Fi := ⟨Try.f114, [⟨2, [0, 1, 5], [], [(⟨[.ro 0 true [.s, .i .i64] [], .i .i64 0, .i .i64 0], [.dead, .dead]⟩, x114_2_0)]⟩], false, [.ro (.sl true [.s, .i .i64]), .v (.i .i64)], [.v (.i .i64)]⟩
def x115_2_0 : List (Ex × List Nat × CSt) := [(.ret, [4], ⟨[.i .i64 0], [.dead, .dead]⟩), ((.ex 0), [1], ⟨[.i .i64 0], [.dead, .dead]⟩)]
noncomputable def fi115 : Fi := ⟨Try.f115, [⟨2, [0, 1, 5], [], [(⟨[.ro 0 true [.s, .s] [], .i .i64 0, .i .i64 0], [.dead, .dead]⟩, x115_2_0)]⟩], false, [.ro (.sl true [.s, .s]), .v (.i .i64)], [.v (.i .i64)]⟩
noncomputable def fi57 : Fi := ⟨Try.f57, [], false, [.ag [.v (.i .i64), .v (.i .i64), .v (.i .i64), .ro (.sl false [.i .u8]), .ro (.sl true [.s, .i .i64]), .ro (.sl true [.s, .s])], .v (.i .i64)], [.v (.i .i64)]⟩
noncomputable def fi10 : Fi := ⟨Try.f10, [], false, [.ro (.sl false [.i .u8])], [.v (.b)]⟩
noncomputable def fiTab : List (Nat × Fi) := [(45, fi45), (126, fi126), (75, fi75), (139, fi139), (101, fi101), (77, fi77), (109, fi109), (87, fi87), (88, fi88), (34, fi34), (54, fi54), (125, fi125), (72, fi72), (132, fi132), (91, fi91), (73, fi73), (92, fi92), (74, fi74), (76, fi76), (90, fi90), (89, fi89), (35, fi35), (36, fi36), (27, fi27), (141, fi141), (110, fi110), (142, fi142), (111, fi111), (55, fi55), (30, fi30), (130, fi130), (112, fi112), (113, fi113), (56, fi56), (31, fi31), (114, fi114), (115, fi115), (57, fi57), (10, fi10)]
def X : Nat → Option (List T → Option (List T)) := lookN []
noncomputable def env : Env := ⟨lookN fiTab, lookN tyTab⟩
-- FUNCTIONS
/-- loop.example/g00285/laws.toByteS, the loop at region 3. -/
def f45_0_s (c : Orc) (lf : Nat) (l0 : List T) (L : Int → List T → Option (List T)) (x4 : Int) (x5 : List T) : Option (List T) :=
  bif iLt x4 (l0.length : Int) then
    bif inR x4 l0.length then
    bif inR x4 x5.length then
    L (IntKind.wrap .i64 (x4 + 1)) (x5.set x4.toNat (T.i .u8 (asI (l0.getD x4.toNat T.u))))
    else none
    else none
  else
    some [T.i .i64 0, T.sl x5]
def f45_0_c (l0 : List T) (x4 : Int) (x5 : List T) : CSt := ⟨[.ro 0 false [.i .u8] l0, .rf 1 [] 0 none, .i .i64 x4], [.dead, .row false [.i .u8] x5 0 false]⟩
theorem f45_0_round (c : Orc) (lf : Nat) (l0 : List T) (L : CSt → Option (List T)) (x4 : Int) (x5 : List T) :
    roundK c env lf 6 fi45 1 3 [] [0, 3, 4] (x45_3_0) L (f45_0_c l0 x4 x5) = f45_0_s c lf l0 (fun x4 x5 => L (f45_0_c l0 x4 x5)) x4 x5 := by kernel_rfl
def f45_0 (c : Orc) (lf : Nat) (l0 : List T) : Nat → Int → List T → Option (List T)
  | 0 => fun _ _ => none
  | n + 1 => fun x4 x5 => f45_0_s c lf l0 (f45_0 c lf l0 n) x4 x5
theorem f45_0_u (c : Orc) (lf : Nat) (l0 : List T) (n : Nat) (x4 : Int) (x5 : List T) : f45_0 c lf l0 (n + 1) x4 x5 = f45_0_s c lf l0 (f45_0 c lf l0 n) x4 x5 := rfl
theorem f45_0_eq (c : Orc) (lf : Nat) (l0 : List T) (n : Nat) (x4 : Int) (x5 : List T) :
    lpK c env lf 6 fi45 1 3 [] [0, 3, 4] (x45_3_0) n (f45_0_c l0 x4 x5) = f45_0 c lf l0 n x4 x5 := by
  induction n generalizing x4 x5 with
  | zero => rfl
  | succ n ih =>
    refine (f45_0_round c lf l0 _ x4 x5).trans ?_
    have e : (fun x4 x5 => lpK c env lf 6 fi45 1 3 [] [0, 3, 4] (x45_3_0) n (f45_0_c l0 x4 x5)) = f45_0 c lf l0 n := by funext x4 x5; exact ih x4 x5
    show f45_0_s c lf l0 (fun x4 x5 => lpK c env lf 6 fi45 1 3 [] [0, 3, 4] (x45_3_0) n (f45_0_c l0 x4 x5)) x4 x5 = _
    rw [e]; rfl
/-- loop.example/g00285/laws.toByteS -/
def f45_t (c : Orc) (lf : Nat) (lp0 : List T → Int → List T → Option (List T)) (l0 : List T) : Option (List T) :=
  bif iLe 0 (l0.length : Int) && iLe (l0.length : Int) (LIM : Int) && ((l0.length : Int) == (l0.length : Int)) then
  (lp0 l0 0 (List.replicate (l0.length : Int).toNat (T.i .u8 0))).bind fun r6 =>
  some [T.sl (asL (nth r6 1))]
  else none
def f45 (c : Orc) (lf : Nat) (l0 : List T) : Option (List T) := f45_t c lf (fun (l0 : List T) (x4 : Int) (x5 : List T) => f45_0 c lf l0 lf x4 x5) l0
theorem f45_raw (c : Orc) (lf : Nat) (l0 : List T) : funK c env lf 6 fi45 [.sl l0] = f45_t c lf (fun (l0 : List T) (x4 : Int) (x5 : List T) => lpK c env lf 6 fi45 1 3 [] [0, 3, 4] (x45_3_0) lf (f45_0_c l0 x4 x5)) l0 := by kernel_rfl
theorem f45_eq (c : Orc) (lf : Nat) (l0 : List T) : funK c env lf 6 fi45 [.sl l0] = f45 c lf l0 := by
  refine (f45_raw c lf l0).trans ?_
  have e0 : (fun (l0 : List T) (x4 : Int) (x5 : List T) => lpK c env lf 6 fi45 1 3 [] [0, 3, 4] (x45_3_0) lf (f45_0_c l0 x4 x5)) = (fun (l0 : List T) (x4 : Int) (x5 : List T) => f45_0 c lf l0 lf x4 x5) := by funext l0 x4 x5; exact f45_0_eq c lf l0 lf x4 x5
  rw [e0]; rfl
/-- loop.example/g00285/spec.GetNum, the loop at region 3. -/
def f126_0_s (c : Orc) (lf : Nat) (l0 : List T) (n1 : Int) (L : Int → Int → Option (List T)) (x10 : Int) (x11 : Int) : Option (List T) :=
  bif iLt x11 3 then
    bif iLe 0 n1 then
      bif iLt n1 (l0.length : Int) then
        bif iLt (IntKind.wrap .i64 (n1 + x11)) (l0.length : Int) then
          bif inR (IntKind.wrap .i64 (n1 + x11)) l0.length then
          bif iLe 0 (IntKind.wrap .u64 (IntKind.wrap .i64 (7 * x11))) then
          bif iLt 127 (IntKind.wrap .i64 (asI (l0.getD ((IntKind.wrap .i64 (n1 + x11)).toNat) T.u))) then
            L (intBits .or .i64 x10 (shiftI .shl .i64 (intBits .and .i64 (IntKind.wrap .i64 (asI (l0.getD ((IntKind.wrap .i64 (n1 + x11)).toNat) T.u))) 127) (IntKind.wrap .u64 (IntKind.wrap .i64 (7 * x11))))) (IntKind.wrap .i64 (x11 + 1))
          else
            bif iLt 0 x11 then
              bif (IntKind.wrap .i64 (asI (l0.getD ((IntKind.wrap .i64 (n1 + x11)).toNat) T.u))) == 0 then
                some [T.i .i64 0, T.i .i64 0, T.i .i64 0, T.b false]
              else
                bif iLt 1000000 (intBits .or .i64 x10 (shiftI .shl .i64 (intBits .and .i64 (IntKind.wrap .i64 (asI (l0.getD ((IntKind.wrap .i64 (n1 + x11)).toNat) T.u))) 127) (IntKind.wrap .u64 (IntKind.wrap .i64 (7 * x11))))) then
                  some [T.i .i64 0, T.i .i64 0, T.i .i64 0, T.b false]
                else
                  some [T.i .i64 0, T.i .i64 (intBits .or .i64 x10 (shiftI .shl .i64 (intBits .and .i64 (IntKind.wrap .i64 (asI (l0.getD ((IntKind.wrap .i64 (n1 + x11)).toNat) T.u))) 127) (IntKind.wrap .u64 (IntKind.wrap .i64 (7 * x11))))), T.i .i64 (IntKind.wrap .i64 ((IntKind.wrap .i64 (n1 + x11)) + 1)), T.b true]
            else
              bif iLt 1000000 (intBits .or .i64 x10 (shiftI .shl .i64 (intBits .and .i64 (IntKind.wrap .i64 (asI (l0.getD ((IntKind.wrap .i64 (n1 + x11)).toNat) T.u))) 127) (IntKind.wrap .u64 (IntKind.wrap .i64 (7 * x11))))) then
                some [T.i .i64 0, T.i .i64 0, T.i .i64 0, T.b false]
              else
                some [T.i .i64 0, T.i .i64 (intBits .or .i64 x10 (shiftI .shl .i64 (intBits .and .i64 (IntKind.wrap .i64 (asI (l0.getD ((IntKind.wrap .i64 (n1 + x11)).toNat) T.u))) 127) (IntKind.wrap .u64 (IntKind.wrap .i64 (7 * x11))))), T.i .i64 (IntKind.wrap .i64 ((IntKind.wrap .i64 (n1 + x11)) + 1)), T.b true]
          else none
          else none
        else
          some [T.i .i64 1]
      else
        some [T.i .i64 1]
    else
      some [T.i .i64 1]
  else
    some [T.i .i64 1]
def f126_0_c (l0 : List T) (n1 : Int) (x10 : Int) (x11 : Int) : CSt := ⟨[.ro 0 false [.i .u8] l0, .i .i64 n1, .i .i64 x10, .i .i64 x11], [.dead, .dead]⟩
theorem f126_0_round (c : Orc) (lf : Nat) (l0 : List T) (n1 : Int) (L : CSt → Option (List T)) (x10 : Int) (x11 : Int) :
    roundK c env lf 6 fi126 2 3 [] [0, 1, 7, 8] (x126_3_0) L (f126_0_c l0 n1 x10 x11) = f126_0_s c lf l0 n1 (fun x10 x11 => L (f126_0_c l0 n1 x10 x11)) x10 x11 := by kernel_rfl
def f126_0 (c : Orc) (lf : Nat) (l0 : List T) (n1 : Int) : Nat → Int → Int → Option (List T)
  | 0 => fun _ _ => none
  | n + 1 => fun x10 x11 => f126_0_s c lf l0 n1 (f126_0 c lf l0 n1 n) x10 x11
theorem f126_0_u (c : Orc) (lf : Nat) (l0 : List T) (n1 : Int) (n : Nat) (x10 : Int) (x11 : Int) : f126_0 c lf l0 n1 (n + 1) x10 x11 = f126_0_s c lf l0 n1 (f126_0 c lf l0 n1 n) x10 x11 := rfl
theorem f126_0_eq (c : Orc) (lf : Nat) (l0 : List T) (n1 : Int) (n : Nat) (x10 : Int) (x11 : Int) :
    lpK c env lf 6 fi126 2 3 [] [0, 1, 7, 8] (x126_3_0) n (f126_0_c l0 n1 x10 x11) = f126_0 c lf l0 n1 n x10 x11 := by
  induction n generalizing x10 x11 with
  | zero => rfl
  | succ n ih =>
    refine (f126_0_round c lf l0 n1 _ x10 x11).trans ?_
    have e : (fun x10 x11 => lpK c env lf 6 fi126 2 3 [] [0, 1, 7, 8] (x126_3_0) n (f126_0_c l0 n1 x10 x11)) = f126_0 c lf l0 n1 n := by funext x10 x11; exact ih x10 x11
    show f126_0_s c lf l0 n1 (fun x10 x11 => lpK c env lf 6 fi126 2 3 [] [0, 1, 7, 8] (x126_3_0) n (f126_0_c l0 n1 x10 x11)) x10 x11 = _
    rw [e]; rfl
/-- loop.example/g00285/spec.GetNum -/
def f126_t (c : Orc) (lf : Nat) (lp0 : List T → Int → Int → Int → Option (List T)) (l0 : List T) (n1 : Int) : Option (List T) :=
  (lp0 l0 n1 0 0).bind fun r12 =>
  bif asI (nth r12 0) == 0 then
    some [T.i .i64 (asI (nth r12 1)), T.i .i64 (asI (nth r12 2)), T.b (asB (nth r12 3))]
  else
    some [T.i .i64 0, T.i .i64 0, T.b false]
def f126 (c : Orc) (lf : Nat) (l0 : List T) (n1 : Int) : Option (List T) := f126_t c lf (fun (l0 : List T) (n1 : Int) (x10 : Int) (x11 : Int) => f126_0 c lf l0 n1 lf x10 x11) l0 n1
theorem f126_raw (c : Orc) (lf : Nat) (l0 : List T) (n1 : Int) : funK c env lf 6 fi126 [.sl l0, .i .i64 n1] = f126_t c lf (fun (l0 : List T) (n1 : Int) (x10 : Int) (x11 : Int) => lpK c env lf 6 fi126 2 3 [] [0, 1, 7, 8] (x126_3_0) lf (f126_0_c l0 n1 x10 x11)) l0 n1 := by kernel_rfl
theorem f126_eq (c : Orc) (lf : Nat) (l0 : List T) (n1 : Int) : funK c env lf 6 fi126 [.sl l0, .i .i64 n1] = f126 c lf l0 n1 := by
  refine (f126_raw c lf l0 n1).trans ?_
  have e0 : (fun (l0 : List T) (n1 : Int) (x10 : Int) (x11 : Int) => lpK c env lf 6 fi126 2 3 [] [0, 1, 7, 8] (x126_3_0) lf (f126_0_c l0 n1 x10 x11)) = (fun (l0 : List T) (n1 : Int) (x10 : Int) (x11 : Int) => f126_0 c lf l0 n1 lf x10 x11) := by funext l0 n1 x10 x11; exact f126_0_eq c lf l0 n1 lf x10 x11
  rw [e0]; rfl
/-- loop.example/g00285/spec.l3Num -/
def f75_t (c : Orc) (lf : Nat) (l0_0 : List T) (n0_1 : Int) (b0_2 : Bool) : Option (List T) :=
  (c 126 [T.sl l0_0, T.i .i64 n0_1]).bind fun r13 =>
  bif b0_2 then
    some [T.i .i64 0, T.st [T.sl l0_0, T.i .i64 n0_1, T.b true]]
  else
    bif !(asB (nth r13 2)) then
      some [T.i .i64 0, T.st [T.sl l0_0, T.i .i64 n0_1, T.b true]]
    else
      some [T.i .i64 (asI (nth r13 0)), T.st [T.sl l0_0, T.i .i64 (asI (nth r13 1)), T.b b0_2]]
def f75 (c : Orc) (lf : Nat) (l0_0 : List T) (n0_1 : Int) (b0_2 : Bool) : Option (List T) := f75_t c lf l0_0 n0_1 b0_2
theorem f75_raw (c : Orc) (lf : Nat) (l0_0 : List T) (n0_1 : Int) (b0_2 : Bool) : funK c env lf 6 fi75 [.st [.sl l0_0, .i .i64 n0_1, .b b0_2]] = f75_t c lf l0_0 n0_1 b0_2 := by kernel_rfl
theorem f75_eq (c : Orc) (lf : Nat) (l0_0 : List T) (n0_1 : Int) (b0_2 : Bool) : funK c env lf 6 fi75 [.st [.sl l0_0, .i .i64 n0_1, .b b0_2]] = f75 c lf l0_0 n0_1 b0_2 := by
  refine (f75_raw c lf l0_0 n0_1 b0_2).trans ?_
  rfl
/-- loop.example/g00285/spec.GetText -/
def f139_t (c : Orc) (lf : Nat) (l0 : List T) (n1 : Int) : Option (List T) :=
  (c 126 [T.sl l0, T.i .i64 n1]).bind fun r14 =>
  bif !(asB (nth r14 2)) then
    some [T.s (⟨#[]⟩ : ByteArray), T.i .i64 0, T.b false]
  else
    bif iLt (IntKind.wrap .i64 ((l0.length : Int) - (asI (nth r14 1)))) (asI (nth r14 0)) then
      some [T.s (⟨#[]⟩ : ByteArray), T.i .i64 0, T.b false]
    else
      bif iLe 0 (asI (nth r14 1)) && iLe (asI (nth r14 1)) (IntKind.wrap .i64 ((asI (nth r14 1)) + (asI (nth r14 0)))) && iLe (IntKind.wrap .i64 ((asI (nth r14 1)) + (asI (nth r14 0)))) (l0.length : Int) then
      some [T.s (bytesOf ((l0.drop ((asI (nth r14 1)).toNat)).take (((IntKind.wrap .i64 ((asI (nth r14 1)) + (asI (nth r14 0)))).toNat) - ((asI (nth r14 1)).toNat)))), T.i .i64 (IntKind.wrap .i64 ((asI (nth r14 1)) + (asI (nth r14 0)))), T.b true]
      else none
def f139 (c : Orc) (lf : Nat) (l0 : List T) (n1 : Int) : Option (List T) := f139_t c lf l0 n1
theorem f139_raw (c : Orc) (lf : Nat) (l0 : List T) (n1 : Int) : funK c env lf 6 fi139 [.sl l0, .i .i64 n1] = f139_t c lf l0 n1 := by kernel_rfl
theorem f139_eq (c : Orc) (lf : Nat) (l0 : List T) (n1 : Int) : funK c env lf 6 fi139 [.sl l0, .i .i64 n1] = f139 c lf l0 n1 := by
  refine (f139_raw c lf l0 n1).trans ?_
  rfl
/-- loop.example/g00285/spec.l3Text -/
def f101_t (c : Orc) (lf : Nat) (l0_0 : List T) (n0_1 : Int) (b0_2 : Bool) : Option (List T) :=
  (c 139 [T.sl l0_0, T.i .i64 n0_1]).bind fun r15 =>
  bif b0_2 then
    some [T.s (⟨#[]⟩ : ByteArray), T.st [T.sl l0_0, T.i .i64 n0_1, T.b true]]
  else
    bif !(asB (nth r15 2)) then
      some [T.s (⟨#[]⟩ : ByteArray), T.st [T.sl l0_0, T.i .i64 n0_1, T.b true]]
    else
      some [T.s (asS (nth r15 0)), T.st [T.sl l0_0, T.i .i64 (asI (nth r15 1)), T.b b0_2]]
def f101 (c : Orc) (lf : Nat) (l0_0 : List T) (n0_1 : Int) (b0_2 : Bool) : Option (List T) := f101_t c lf l0_0 n0_1 b0_2
theorem f101_raw (c : Orc) (lf : Nat) (l0_0 : List T) (n0_1 : Int) (b0_2 : Bool) : funK c env lf 6 fi101 [.st [.sl l0_0, .i .i64 n0_1, .b b0_2]] = f101_t c lf l0_0 n0_1 b0_2 := by kernel_rfl
theorem f101_eq (c : Orc) (lf : Nat) (l0_0 : List T) (n0_1 : Int) (b0_2 : Bool) : funK c env lf 6 fi101 [.st [.sl l0_0, .i .i64 n0_1, .b b0_2]] = f101 c lf l0_0 n0_1 b0_2 := by
  refine (f101_raw c lf l0_0 n0_1 b0_2).trans ?_
  rfl
/-- loop.example/g00285/spec.l1In -/
def f77_t (c : Orc) (lf : Nat) (n0 : Int) (n1 : Int) (n2 : Int) : Option (List T) :=
  bif iLe n1 n0 then
    some [T.b (iLe n0 n2)]
  else
    some [T.b false]
def f77 (c : Orc) (lf : Nat) (n0 : Int) (n1 : Int) (n2 : Int) : Option (List T) := f77_t c lf n0 n1 n2
theorem f77_raw (c : Orc) (lf : Nat) (n0 : Int) (n1 : Int) (n2 : Int) : funK c env lf 6 fi77 [.i .i64 n0, .i .i64 n1, .i .i64 n2] = f77_t c lf n0 n1 n2 := by kernel_rfl
theorem f77_eq (c : Orc) (lf : Nat) (n0 : Int) (n1 : Int) (n2 : Int) : funK c env lf 6 fi77 [.i .i64 n0, .i .i64 n1, .i .i64 n2] = f77 c lf n0 n1 n2 := by
  refine (f77_raw c lf n0 n1 n2).trans ?_
  rfl
/-- loop.example/g00285/spec.NameOk, the loop at region 2. -/
def f109_0_s (c : Orc) (lf : Nat) (s0 : ByteArray) (L : Int → Option (List T)) (x25 : Int) : Option (List T) :=
  bif iLt x25 (s0.size : Int) then
    bif inR x25 s0.size then
    (c 77 [T.i .i64 (IntKind.wrap .i64 (byteAt s0 x25)), T.i .i64 97, T.i .i64 122]).bind fun r26 =>
    bif !(asB (nth r26 0)) then
      (c 77 [T.i .i64 (IntKind.wrap .i64 (byteAt s0 x25)), T.i .i64 48, T.i .i64 57]).bind fun r27 =>
      bif !(asB (nth r27 0)) then
        bif (IntKind.wrap .i64 (byteAt s0 x25)) != 95 then
          bif (IntKind.wrap .i64 (byteAt s0 x25)) != 45 then
            bif (IntKind.wrap .i64 (byteAt s0 x25)) != 46 then
              some [T.i .i64 0, T.b false]
            else
              L (IntKind.wrap .i64 (x25 + 1))
          else
            L (IntKind.wrap .i64 (x25 + 1))
        else
          L (IntKind.wrap .i64 (x25 + 1))
      else
        L (IntKind.wrap .i64 (x25 + 1))
    else
      L (IntKind.wrap .i64 (x25 + 1))
    else none
  else
    some [T.i .i64 1, T.s s0]
def f109_0_c (s0 : ByteArray) (x25 : Int) : CSt := ⟨[.s s0, .i .i64 x25], [.dead]⟩
theorem f109_0_round (c : Orc) (lf : Nat) (s0 : ByteArray) (L : CSt → Option (List T)) (x25 : Int) :
    roundK c env lf 6 fi109 1 2 [] [0, 3] (x109_2_0) L (f109_0_c s0 x25) = f109_0_s c lf s0 (fun x25 => L (f109_0_c s0 x25)) x25 := by kernel_rfl
def f109_0 (c : Orc) (lf : Nat) (s0 : ByteArray) : Nat → Int → Option (List T)
  | 0 => fun _ => none
  | n + 1 => fun x25 => f109_0_s c lf s0 (f109_0 c lf s0 n) x25
theorem f109_0_u (c : Orc) (lf : Nat) (s0 : ByteArray) (n : Nat) (x25 : Int) : f109_0 c lf s0 (n + 1) x25 = f109_0_s c lf s0 (f109_0 c lf s0 n) x25 := rfl
theorem f109_0_eq (c : Orc) (lf : Nat) (s0 : ByteArray) (n : Nat) (x25 : Int) :
    lpK c env lf 6 fi109 1 2 [] [0, 3] (x109_2_0) n (f109_0_c s0 x25) = f109_0 c lf s0 n x25 := by
  induction n generalizing x25 with
  | zero => rfl
  | succ n ih =>
    refine (f109_0_round c lf s0 _ x25).trans ?_
    have e : (fun x25 => lpK c env lf 6 fi109 1 2 [] [0, 3] (x109_2_0) n (f109_0_c s0 x25)) = f109_0 c lf s0 n := by funext x25; exact ih x25
    show f109_0_s c lf s0 (fun x25 => lpK c env lf 6 fi109 1 2 [] [0, 3] (x109_2_0) n (f109_0_c s0 x25)) x25 = _
    rw [e]; rfl
/-- loop.example/g00285/spec.NameOk -/
def f109_t (c : Orc) (lf : Nat) (lp0 : ByteArray → Int → Option (List T)) (s0 : ByteArray) : Option (List T) :=
  (lp0 s0 0).bind fun r28 =>
  bif asI (nth r28 0) == 0 then
    some [T.b (asB (nth r28 1))]
  else
    (c 77 [T.i .i64 ((asS (nth r28 1)).size : Int), T.i .i64 1, T.i .i64 14]).bind fun r29 =>
    bif asB (nth r29 0) then
      bif !((asS (nth r28 1)).toList == (⟨#[46]⟩ : ByteArray).toList) then
        some [T.b (!((asS (nth r28 1)).toList == (⟨#[46, 46]⟩ : ByteArray).toList))]
      else
        some [T.b false]
    else
      some [T.b false]
def f109 (c : Orc) (lf : Nat) (s0 : ByteArray) : Option (List T) := f109_t c lf (fun (s0 : ByteArray) (x25 : Int) => f109_0 c lf s0 lf x25) s0
theorem f109_raw (c : Orc) (lf : Nat) (s0 : ByteArray) : funK c env lf 6 fi109 [.s s0] = f109_t c lf (fun (s0 : ByteArray) (x25 : Int) => lpK c env lf 6 fi109 1 2 [] [0, 3] (x109_2_0) lf (f109_0_c s0 x25)) s0 := by kernel_rfl
theorem f109_eq (c : Orc) (lf : Nat) (s0 : ByteArray) : funK c env lf 6 fi109 [.s s0] = f109 c lf s0 := by
  refine (f109_raw c lf s0).trans ?_
  have e0 : (fun (s0 : ByteArray) (x25 : Int) => lpK c env lf 6 fi109 1 2 [] [0, 3] (x109_2_0) lf (f109_0_c s0 x25)) = (fun (s0 : ByteArray) (x25 : Int) => f109_0 c lf s0 lf x25) := by funext s0 x25; exact f109_0_eq c lf s0 lf x25
  rw [e0]; rfl
/-- loop.example/g00285/spec.l3Ents, the loop at region 2. -/
def f87_0_s (c : Orc) (lf : Nat) (l0 : List T) (L : Int → Option (List T)) (x38 : Int) : Option (List T) :=
  bif iLt x38 (l0.length : Int) then
    bif inR x38 l0.length then
    (c 109 [T.s (asS (T.cell (l0.getD x38.toNat T.u) 0))]).bind fun r39 =>
    bif !(asB (nth r39 0)) then
      some [T.i .i64 0, T.b false]
    else
      bif inR x38 l0.length then
      (c 77 [T.i .i64 (asI (T.cell (l0.getD x38.toNat T.u) 1)), T.i .i64 2, T.i .i64 1000]).bind fun r40 =>
      bif !(asB (nth r40 0)) then
        some [T.i .i64 0, T.b false]
      else
        bif iLt 0 x38 then
          bif inR (IntKind.wrap .i64 (x38 - 1)) l0.length then
          bif inR x38 l0.length then
          bif !(Op.bytesLess (asS (T.cell (l0.getD ((IntKind.wrap .i64 (x38 - 1)).toNat) T.u) 0)).toList (asS (T.cell (l0.getD x38.toNat T.u) 0)).toList) then
            some [T.i .i64 0, T.b false]
          else
            L (IntKind.wrap .i64 (x38 + 1))
          else none
          else none
        else
          L (IntKind.wrap .i64 (x38 + 1))
      else none
    else none
  else
    some [T.i .i64 1, T.sl l0]
def f87_0_c (l0 : List T) (x38 : Int) : CSt := ⟨[.ro 0 true [.s, .i .i64] l0, .i .i64 x38], [.dead]⟩
theorem f87_0_round (c : Orc) (lf : Nat) (l0 : List T) (L : CSt → Option (List T)) (x38 : Int) :
    roundK c env lf 6 fi87 1 2 [] [0, 3] (x87_2_0) L (f87_0_c l0 x38) = f87_0_s c lf l0 (fun x38 => L (f87_0_c l0 x38)) x38 := by kernel_rfl
def f87_0 (c : Orc) (lf : Nat) (l0 : List T) : Nat → Int → Option (List T)
  | 0 => fun _ => none
  | n + 1 => fun x38 => f87_0_s c lf l0 (f87_0 c lf l0 n) x38
theorem f87_0_u (c : Orc) (lf : Nat) (l0 : List T) (n : Nat) (x38 : Int) : f87_0 c lf l0 (n + 1) x38 = f87_0_s c lf l0 (f87_0 c lf l0 n) x38 := rfl
theorem f87_0_eq (c : Orc) (lf : Nat) (l0 : List T) (n : Nat) (x38 : Int) :
    lpK c env lf 6 fi87 1 2 [] [0, 3] (x87_2_0) n (f87_0_c l0 x38) = f87_0 c lf l0 n x38 := by
  induction n generalizing x38 with
  | zero => rfl
  | succ n ih =>
    refine (f87_0_round c lf l0 _ x38).trans ?_
    have e : (fun x38 => lpK c env lf 6 fi87 1 2 [] [0, 3] (x87_2_0) n (f87_0_c l0 x38)) = f87_0 c lf l0 n := by funext x38; exact ih x38
    show f87_0_s c lf l0 (fun x38 => lpK c env lf 6 fi87 1 2 [] [0, 3] (x87_2_0) n (f87_0_c l0 x38)) x38 = _
    rw [e]; rfl
/-- loop.example/g00285/spec.l3Ents -/
def f87_t (c : Orc) (lf : Nat) (lp0 : List T → Int → Option (List T)) (l0 : List T) : Option (List T) :=
  (lp0 l0 0).bind fun r41 =>
  bif asI (nth r41 0) == 0 then
    some [T.b (asB (nth r41 1))]
  else
    some [T.b (iLe ((asL (nth r41 1)).length : Int) 10)]
def f87 (c : Orc) (lf : Nat) (l0 : List T) : Option (List T) := f87_t c lf (fun (l0 : List T) (x38 : Int) => f87_0 c lf l0 lf x38) l0
theorem f87_raw (c : Orc) (lf : Nat) (l0 : List T) : funK c env lf 6 fi87 [.sl l0] = f87_t c lf (fun (l0 : List T) (x38 : Int) => lpK c env lf 6 fi87 1 2 [] [0, 3] (x87_2_0) lf (f87_0_c l0 x38)) l0 := by kernel_rfl
theorem f87_eq (c : Orc) (lf : Nat) (l0 : List T) : funK c env lf 6 fi87 [.sl l0] = f87 c lf l0 := by
  refine (f87_raw c lf l0).trans ?_
  have e0 : (fun (l0 : List T) (x38 : Int) => lpK c env lf 6 fi87 1 2 [] [0, 3] (x87_2_0) lf (f87_0_c l0 x38)) = (fun (l0 : List T) (x38 : Int) => f87_0 c lf l0 lf x38) := by funext l0 x38; exact f87_0_eq c lf l0 lf x38
  rw [e0]; rfl
/-- loop.example/g00285/spec.l3Attrs, the loop at region 2. -/
def f88_0_s (c : Orc) (lf : Nat) (l0 : List T) (L : Int → Option (List T)) (x50 : Int) : Option (List T) :=
  bif iLt x50 (l0.length : Int) then
    bif inR x50 l0.length then
    (c 109 [T.s (asS (T.cell (l0.getD x50.toNat T.u) 0))]).bind fun r51 =>
    bif !(asB (nth r51 0)) then
      some [T.i .i64 0, T.b false]
    else
      bif inR x50 l0.length then
      (c 77 [T.i .i64 ((asS (T.cell (l0.getD x50.toNat T.u) 1)).size : Int), T.i .i64 1, T.i .i64 16]).bind fun r52 =>
      bif !(asB (nth r52 0)) then
        some [T.i .i64 0, T.b false]
      else
        bif iLt 0 x50 then
          bif inR (IntKind.wrap .i64 (x50 - 1)) l0.length then
          bif inR x50 l0.length then
          bif !(Op.bytesLess (asS (T.cell (l0.getD ((IntKind.wrap .i64 (x50 - 1)).toNat) T.u) 0)).toList (asS (T.cell (l0.getD x50.toNat T.u) 0)).toList) then
            some [T.i .i64 0, T.b false]
          else
            L (IntKind.wrap .i64 (x50 + 1))
          else none
          else none
        else
          L (IntKind.wrap .i64 (x50 + 1))
      else none
    else none
  else
    some [T.i .i64 1, T.sl l0]
def f88_0_c (l0 : List T) (x50 : Int) : CSt := ⟨[.ro 0 true [.s, .s] l0, .i .i64 x50], [.dead]⟩
theorem f88_0_round (c : Orc) (lf : Nat) (l0 : List T) (L : CSt → Option (List T)) (x50 : Int) :
    roundK c env lf 6 fi88 1 2 [] [0, 3] (x88_2_0) L (f88_0_c l0 x50) = f88_0_s c lf l0 (fun x50 => L (f88_0_c l0 x50)) x50 := by kernel_rfl
def f88_0 (c : Orc) (lf : Nat) (l0 : List T) : Nat → Int → Option (List T)
  | 0 => fun _ => none
  | n + 1 => fun x50 => f88_0_s c lf l0 (f88_0 c lf l0 n) x50
theorem f88_0_u (c : Orc) (lf : Nat) (l0 : List T) (n : Nat) (x50 : Int) : f88_0 c lf l0 (n + 1) x50 = f88_0_s c lf l0 (f88_0 c lf l0 n) x50 := rfl
theorem f88_0_eq (c : Orc) (lf : Nat) (l0 : List T) (n : Nat) (x50 : Int) :
    lpK c env lf 6 fi88 1 2 [] [0, 3] (x88_2_0) n (f88_0_c l0 x50) = f88_0 c lf l0 n x50 := by
  induction n generalizing x50 with
  | zero => rfl
  | succ n ih =>
    refine (f88_0_round c lf l0 _ x50).trans ?_
    have e : (fun x50 => lpK c env lf 6 fi88 1 2 [] [0, 3] (x88_2_0) n (f88_0_c l0 x50)) = f88_0 c lf l0 n := by funext x50; exact ih x50
    show f88_0_s c lf l0 (fun x50 => lpK c env lf 6 fi88 1 2 [] [0, 3] (x88_2_0) n (f88_0_c l0 x50)) x50 = _
    rw [e]; rfl
/-- loop.example/g00285/spec.l3Attrs -/
def f88_t (c : Orc) (lf : Nat) (lp0 : List T → Int → Option (List T)) (l0 : List T) : Option (List T) :=
  (lp0 l0 0).bind fun r53 =>
  bif asI (nth r53 0) == 0 then
    some [T.b (asB (nth r53 1))]
  else
    some [T.b (iLe ((asL (nth r53 1)).length : Int) 4)]
def f88 (c : Orc) (lf : Nat) (l0 : List T) : Option (List T) := f88_t c lf (fun (l0 : List T) (x50 : Int) => f88_0 c lf l0 lf x50) l0
theorem f88_raw (c : Orc) (lf : Nat) (l0 : List T) : funK c env lf 6 fi88 [.sl l0] = f88_t c lf (fun (l0 : List T) (x50 : Int) => lpK c env lf 6 fi88 1 2 [] [0, 3] (x88_2_0) lf (f88_0_c l0 x50)) l0 := by kernel_rfl
theorem f88_eq (c : Orc) (lf : Nat) (l0 : List T) : funK c env lf 6 fi88 [.sl l0] = f88 c lf l0 := by
  refine (f88_raw c lf l0).trans ?_
  have e0 : (fun (l0 : List T) (x50 : Int) => lpK c env lf 6 fi88 1 2 [] [0, 3] (x88_2_0) lf (f88_0_c l0 x50)) = (fun (l0 : List T) (x50 : Int) => f88_0 c lf l0 lf x50) := by funext l0 x50; exact f88_0_eq c lf l0 lf x50
  rw [e0]; rfl
/-- loop.example/g00285/spec.InodeOk -/
def f34_t (c : Orc) (lf : Nat) (n0_0 : Int) (n0_1 : Int) (n0_2 : Int) (l0_3 : List T) (l0_4 : List T) (l0_5 : List T) : Option (List T) :=
  (c 77 [T.i .i64 n0_0, T.i .i64 1, T.i .i64 1000]).bind fun r54 =>
  bif !(asB (nth r54 0)) then
    some [T.b false]
  else
    (c 77 [T.i .i64 n0_2, T.i .i64 0, T.i .i64 1000]).bind fun r55 =>
    bif !(asB (nth r55 0)) then
      some [T.b false]
    else
      bif !((n0_2 == 0) == (n0_0 == 1)) then
        some [T.b false]
      else
        bif iLt 100 (l0_3.length : Int) then
          some [T.b false]
        else
          (c 87 [T.sl l0_4]).bind fun r56 =>
          bif !(asB (nth r56 0)) then
            some [T.b false]
          else
            (c 88 [T.sl l0_5]).bind fun r57 =>
            bif !(asB (nth r57 0)) then
              some [T.b false]
            else
              bif n0_1 == 1 then
                some [T.b ((l0_4.length : Int) == 0)]
              else
                bif n0_1 == 2 then
                  bif (l0_3.length : Int) == 0 then
                    some [T.b (iLe n0_2 1)]
                  else
                    some [T.b false]
                else
                  some [T.b false]
def f34 (c : Orc) (lf : Nat) (n0_0 : Int) (n0_1 : Int) (n0_2 : Int) (l0_3 : List T) (l0_4 : List T) (l0_5 : List T) : Option (List T) := f34_t c lf n0_0 n0_1 n0_2 l0_3 l0_4 l0_5
theorem f34_raw (c : Orc) (lf : Nat) (n0_0 : Int) (n0_1 : Int) (n0_2 : Int) (l0_3 : List T) (l0_4 : List T) (l0_5 : List T) : funK c env lf 6 fi34 [.st [.i .i64 n0_0, .i .i64 n0_1, .i .i64 n0_2, .sl l0_3, .sl l0_4, .sl l0_5]] = f34_t c lf n0_0 n0_1 n0_2 l0_3 l0_4 l0_5 := by kernel_rfl
theorem f34_eq (c : Orc) (lf : Nat) (n0_0 : Int) (n0_1 : Int) (n0_2 : Int) (l0_3 : List T) (l0_4 : List T) (l0_5 : List T) : funK c env lf 6 fi34 [.st [.i .i64 n0_0, .i .i64 n0_1, .i .i64 n0_2, .sl l0_3, .sl l0_4, .sl l0_5]] = f34 c lf n0_0 n0_1 n0_2 l0_3 l0_4 l0_5 := by
  refine (f34_raw c lf n0_0 n0_1 n0_2 l0_3 l0_4 l0_5).trans ?_
  rfl
/-- loop.example/g00285/spec.GetInode, the loop at region 8. -/
def f54_0_s (c : Orc) (lf : Nat) (l0 : List T) (r83 : List T) (r84 : List T) (r85 : List T) (r86 : List T) (r87 : List T) (L : Int → Int → Bool → List T → Option (List T)) (x90 : Int) (x91 : Int) (x92 : Bool) (x93 : List T) : Option (List T) :=
  bif iLt x90 (asI (nth r87 0)) then
    bif iLe x90 10 then
      bif !x92 then
        (c 101 [T.st [T.sl l0, T.i .i64 x91, T.b x92]]).bind fun r94 =>
        (c 75 [T.st [T.sl l0, T.i .i64 (asI (T.cell (nth r94 1) 1)), T.b (asB (T.cell (nth r94 1) 2))]]).bind fun r95 =>
        bif nLe (x93.length + ([T.st [T.s (asS (nth r94 0)), T.i .i64 (asI (nth r95 0))]] : List T).length) LIM then
        L (IntKind.wrap .i64 (x90 + 1)) (asI (T.cell (nth r95 1) 1)) (asB (T.cell (nth r95 1) 2)) (x93 ++ ([T.st [T.s (asS (nth r94 0)), T.i .i64 (asI (nth r95 0))]] : List T))
        else none
      else
        some [T.i .i64 0, T.sl l0, T.i .i64 (asI (nth r87 0)), T.i .i64 0, T.i .i64 0, T.i .i64 0, T.sl ([] : List T), T.sl ([] : List T), T.sl ([] : List T), T.sl l0, T.i .i64 x91, T.b x92, T.i .i64 (asI (nth r83 0)), T.i .i64 (asI (nth r84 0)), T.i .i64 (asI (nth r85 0)), T.sl (listOf (asS (nth r86 0))), T.sl x93, T.sl ([] : List T)]
    else
      some [T.i .i64 0, T.sl l0, T.i .i64 (asI (nth r87 0)), T.i .i64 0, T.i .i64 0, T.i .i64 0, T.sl ([] : List T), T.sl ([] : List T), T.sl ([] : List T), T.sl l0, T.i .i64 x91, T.b x92, T.i .i64 (asI (nth r83 0)), T.i .i64 (asI (nth r84 0)), T.i .i64 (asI (nth r85 0)), T.sl (listOf (asS (nth r86 0))), T.sl x93, T.sl ([] : List T)]
  else
    some [T.i .i64 0, T.sl l0, T.i .i64 (asI (nth r87 0)), T.i .i64 0, T.i .i64 0, T.i .i64 0, T.sl ([] : List T), T.sl ([] : List T), T.sl ([] : List T), T.sl l0, T.i .i64 x91, T.b x92, T.i .i64 (asI (nth r83 0)), T.i .i64 (asI (nth r84 0)), T.i .i64 (asI (nth r85 0)), T.sl (listOf (asS (nth r86 0))), T.sl x93, T.sl ([] : List T)]
def f54_0_c (l0 : List T) (r83 : List T) (r84 : List T) (r85 : List T) (r86 : List T) (r87 : List T) (x90 : Int) (x91 : Int) (x92 : Bool) (x93 : List T) : CSt := ⟨[.ro 0 false [.i .u8] l0, .bp 1 0, .bp 5 0, .bp 6 0, .i .i64 (asI (nth r87 0)), .i .i64 x90], [.dead, .box [.i .i64 0, .i .i64 0, .i .i64 0, .rf 2 [] 0 none, .rf 3 [] 0 none, .rf 4 [] 0 none], .row false [.i .u8] ([] : List T) 0 false, .row true [.s, .i .i64] ([] : List T) 0 false, .row true [.s, .s] ([] : List T) 0 false, .box [.ro 0 false [.i .u8] l0, .i .i64 x91, .b x92], .box [.i .i64 (asI (nth r83 0)), .i .i64 (asI (nth r84 0)), .i .i64 (asI (nth r85 0)), .rf 7 [] 0 none, .rf 8 [] 0 none, .rf 9 [] 0 none], .row false [.i .u8] (listOf (asS (nth r86 0))) 0 false, .row true [.s, .i .i64] x93 0 false, .row true [.s, .s] ([] : List T) 0 false]⟩
theorem f54_0_round (c : Orc) (lf : Nat) (l0 : List T) (r83 : List T) (r84 : List T) (r85 : List T) (r86 : List T) (r87 : List T) (L : CSt → Option (List T)) (x90 : Int) (x91 : Int) (x92 : Bool) (x93 : List T) :
    roundK c env lf 6 fi54 1 8 [] [0, 2, 4, 5, 6, 7] (x54_8_0) L (f54_0_c l0 r83 r84 r85 r86 r87 x90 x91 x92 x93) = f54_0_s c lf l0 r83 r84 r85 r86 r87 (fun x90 x91 x92 x93 => L (f54_0_c l0 r83 r84 r85 r86 r87 x90 x91 x92 x93)) x90 x91 x92 x93 := by kernel_rfl
def f54_0 (c : Orc) (lf : Nat) (l0 : List T) (r83 : List T) (r84 : List T) (r85 : List T) (r86 : List T) (r87 : List T) : Nat → Int → Int → Bool → List T → Option (List T)
  | 0 => fun _ _ _ _ => none
  | n + 1 => fun x90 x91 x92 x93 => f54_0_s c lf l0 r83 r84 r85 r86 r87 (f54_0 c lf l0 r83 r84 r85 r86 r87 n) x90 x91 x92 x93
theorem f54_0_u (c : Orc) (lf : Nat) (l0 : List T) (r83 : List T) (r84 : List T) (r85 : List T) (r86 : List T) (r87 : List T) (n : Nat) (x90 : Int) (x91 : Int) (x92 : Bool) (x93 : List T) : f54_0 c lf l0 r83 r84 r85 r86 r87 (n + 1) x90 x91 x92 x93 = f54_0_s c lf l0 r83 r84 r85 r86 r87 (f54_0 c lf l0 r83 r84 r85 r86 r87 n) x90 x91 x92 x93 := rfl
theorem f54_0_eq (c : Orc) (lf : Nat) (l0 : List T) (r83 : List T) (r84 : List T) (r85 : List T) (r86 : List T) (r87 : List T) (n : Nat) (x90 : Int) (x91 : Int) (x92 : Bool) (x93 : List T) :
    lpK c env lf 6 fi54 1 8 [] [0, 2, 4, 5, 6, 7] (x54_8_0) n (f54_0_c l0 r83 r84 r85 r86 r87 x90 x91 x92 x93) = f54_0 c lf l0 r83 r84 r85 r86 r87 n x90 x91 x92 x93 := by
  induction n generalizing x90 x91 x92 x93 with
  | zero => rfl
  | succ n ih =>
    refine (f54_0_round c lf l0 r83 r84 r85 r86 r87 _ x90 x91 x92 x93).trans ?_
    have e : (fun x90 x91 x92 x93 => lpK c env lf 6 fi54 1 8 [] [0, 2, 4, 5, 6, 7] (x54_8_0) n (f54_0_c l0 r83 r84 r85 r86 r87 x90 x91 x92 x93)) = f54_0 c lf l0 r83 r84 r85 r86 r87 n := by funext x90 x91 x92 x93; exact ih x90 x91 x92 x93
    show f54_0_s c lf l0 r83 r84 r85 r86 r87 (fun x90 x91 x92 x93 => lpK c env lf 6 fi54 1 8 [] [0, 2, 4, 5, 6, 7] (x54_8_0) n (f54_0_c l0 r83 r84 r85 r86 r87 x90 x91 x92 x93)) x90 x91 x92 x93 = _
    rw [e]; rfl
/-- loop.example/g00285/spec.GetInode, the loop at region 15. -/
def f54_1_s (c : Orc) (lf : Nat) (r96 : List T) (r97 : List T) (L : Int → Int → Bool → List T → Option (List T)) (x100 : Int) (x101 : Int) (x102 : Bool) (x103 : List T) : Option (List T) :=
  bif iLt x100 (asI (nth r97 0)) then
    bif iLe x100 4 then
      bif !x102 then
        (c 101 [T.st [T.sl (asL (nth r96 9)), T.i .i64 x101, T.b x102]]).bind fun r104 =>
        (c 101 [T.st [T.sl (asL (nth r96 9)), T.i .i64 (asI (T.cell (nth r104 1) 1)), T.b (asB (T.cell (nth r104 1) 2))]]).bind fun r105 =>
        bif nLe (x103.length + ([T.st [T.s (asS (nth r104 0)), T.s (asS (nth r105 0))]] : List T).length) LIM then
        L (IntKind.wrap .i64 (x100 + 1)) (asI (T.cell (nth r105 1) 1)) (asB (T.cell (nth r105 1) 2)) (x103 ++ ([T.st [T.s (asS (nth r104 0)), T.s (asS (nth r105 0))]] : List T))
        else none
      else
        some [T.i .i64 0, T.sl (asL (nth r96 1)), T.i .i64 (asI (nth r96 2)), T.i .i64 (asI (nth r97 0)), T.i .i64 (asI (nth r96 3)), T.i .i64 (asI (nth r96 4)), T.i .i64 (asI (nth r96 5)), T.sl (asL (nth r96 6)), T.sl (asL (nth r96 7)), T.sl (asL (nth r96 8)), T.sl (asL (nth r96 9)), T.i .i64 x101, T.b x102, T.i .i64 (asI (nth r96 12)), T.i .i64 (asI (nth r96 13)), T.i .i64 (asI (nth r96 14)), T.sl (asL (nth r96 15)), T.sl (asL (nth r96 16)), T.sl x103]
    else
      some [T.i .i64 0, T.sl (asL (nth r96 1)), T.i .i64 (asI (nth r96 2)), T.i .i64 (asI (nth r97 0)), T.i .i64 (asI (nth r96 3)), T.i .i64 (asI (nth r96 4)), T.i .i64 (asI (nth r96 5)), T.sl (asL (nth r96 6)), T.sl (asL (nth r96 7)), T.sl (asL (nth r96 8)), T.sl (asL (nth r96 9)), T.i .i64 x101, T.b x102, T.i .i64 (asI (nth r96 12)), T.i .i64 (asI (nth r96 13)), T.i .i64 (asI (nth r96 14)), T.sl (asL (nth r96 15)), T.sl (asL (nth r96 16)), T.sl x103]
  else
    some [T.i .i64 0, T.sl (asL (nth r96 1)), T.i .i64 (asI (nth r96 2)), T.i .i64 (asI (nth r97 0)), T.i .i64 (asI (nth r96 3)), T.i .i64 (asI (nth r96 4)), T.i .i64 (asI (nth r96 5)), T.sl (asL (nth r96 6)), T.sl (asL (nth r96 7)), T.sl (asL (nth r96 8)), T.sl (asL (nth r96 9)), T.i .i64 x101, T.b x102, T.i .i64 (asI (nth r96 12)), T.i .i64 (asI (nth r96 13)), T.i .i64 (asI (nth r96 14)), T.sl (asL (nth r96 15)), T.sl (asL (nth r96 16)), T.sl x103]
def f54_1_c (r96 : List T) (r97 : List T) (x100 : Int) (x101 : Int) (x102 : Bool) (x103 : List T) : CSt := ⟨[.ro 0 false [.i .u8] (asL (nth r96 1)), .bp 1 0, .bp 5 0, .bp 6 0, .i .i64 (asI (nth r96 2)), .i .i64 (asI (nth r97 0)), .i .i64 x100], [.dead, .box [.i .i64 (asI (nth r96 3)), .i .i64 (asI (nth r96 4)), .i .i64 (asI (nth r96 5)), .rf 2 [] 0 none, .rf 3 [] 0 none, .rf 4 [] 0 none], .row false [.i .u8] (asL (nth r96 6)) 0 false, .row true [.s, .i .i64] (asL (nth r96 7)) 0 false, .row true [.s, .s] (asL (nth r96 8)) 0 false, .box [.ro 0 false [.i .u8] (asL (nth r96 9)), .i .i64 x101, .b x102], .box [.i .i64 (asI (nth r96 12)), .i .i64 (asI (nth r96 13)), .i .i64 (asI (nth r96 14)), .rf 7 [] 0 none, .rf 8 [] 0 none, .rf 9 [] 0 none], .row false [.i .u8] (asL (nth r96 15)) 0 false, .row true [.s, .i .i64] (asL (nth r96 16)) 0 false, .row true [.s, .s] x103 0 false]⟩
theorem f54_1_round (c : Orc) (lf : Nat) (r96 : List T) (r97 : List T) (L : CSt → Option (List T)) (x100 : Int) (x101 : Int) (x102 : Bool) (x103 : List T) :
    roundK c env lf 6 fi54 1 15 [] [0, 2, 4, 5, 6, 9, 10] (x54_15_0) L (f54_1_c r96 r97 x100 x101 x102 x103) = f54_1_s c lf r96 r97 (fun x100 x101 x102 x103 => L (f54_1_c r96 r97 x100 x101 x102 x103)) x100 x101 x102 x103 := by kernel_rfl
def f54_1 (c : Orc) (lf : Nat) (r96 : List T) (r97 : List T) : Nat → Int → Int → Bool → List T → Option (List T)
  | 0 => fun _ _ _ _ => none
  | n + 1 => fun x100 x101 x102 x103 => f54_1_s c lf r96 r97 (f54_1 c lf r96 r97 n) x100 x101 x102 x103
theorem f54_1_u (c : Orc) (lf : Nat) (r96 : List T) (r97 : List T) (n : Nat) (x100 : Int) (x101 : Int) (x102 : Bool) (x103 : List T) : f54_1 c lf r96 r97 (n + 1) x100 x101 x102 x103 = f54_1_s c lf r96 r97 (f54_1 c lf r96 r97 n) x100 x101 x102 x103 := rfl
theorem f54_1_eq (c : Orc) (lf : Nat) (r96 : List T) (r97 : List T) (n : Nat) (x100 : Int) (x101 : Int) (x102 : Bool) (x103 : List T) :
    lpK c env lf 6 fi54 1 15 [] [0, 2, 4, 5, 6, 9, 10] (x54_15_0) n (f54_1_c r96 r97 x100 x101 x102 x103) = f54_1 c lf r96 r97 n x100 x101 x102 x103 := by
  induction n generalizing x100 x101 x102 x103 with
  | zero => rfl
  | succ n ih =>
    refine (f54_1_round c lf r96 r97 _ x100 x101 x102 x103).trans ?_
    have e : (fun x100 x101 x102 x103 => lpK c env lf 6 fi54 1 15 [] [0, 2, 4, 5, 6, 9, 10] (x54_15_0) n (f54_1_c r96 r97 x100 x101 x102 x103)) = f54_1 c lf r96 r97 n := by funext x100 x101 x102 x103; exact ih x100 x101 x102 x103
    show f54_1_s c lf r96 r97 (fun x100 x101 x102 x103 => lpK c env lf 6 fi54 1 15 [] [0, 2, 4, 5, 6, 9, 10] (x54_15_0) n (f54_1_c r96 r97 x100 x101 x102 x103)) x100 x101 x102 x103 = _
    rw [e]; rfl
/-- loop.example/g00285/spec.GetInode -/
def f54_t (c : Orc) (lf : Nat) (lp0 : List T → List T → List T → List T → List T → List T → Int → Int → Bool → List T → Option (List T)) (lp1 : List T → List T → Int → Int → Bool → List T → Option (List T)) (l0 : List T) : Option (List T) :=
  (c 75 [T.st [T.sl l0, T.i .i64 0, T.b false]]).bind fun r83 =>
  (c 75 [T.st [T.sl l0, T.i .i64 (asI (T.cell (nth r83 1) 1)), T.b (asB (T.cell (nth r83 1) 2))]]).bind fun r84 =>
  (c 75 [T.st [T.sl l0, T.i .i64 (asI (T.cell (nth r84 1) 1)), T.b (asB (T.cell (nth r84 1) 2))]]).bind fun r85 =>
  (c 101 [T.st [T.sl l0, T.i .i64 (asI (T.cell (nth r85 1) 1)), T.b (asB (T.cell (nth r85 1) 2))]]).bind fun r86 =>
  bif nLe (asS (nth r86 0)).size LIM then
  (c 75 [T.st [T.sl l0, T.i .i64 (asI (T.cell (nth r86 1) 1)), T.b (asB (T.cell (nth r86 1) 2))]]).bind fun r87 =>
  (lp0 l0 r83 r84 r85 r86 r87 0 (asI (T.cell (nth r87 1) 1)) (asB (T.cell (nth r87 1) 2)) ([] : List T)).bind fun r96 =>
  (c 75 [T.st [T.sl (asL (nth r96 9)), T.i .i64 (asI (nth r96 10)), T.b (asB (nth r96 11))]]).bind fun r97 =>
  (lp1 r96 r97 0 (asI (T.cell (nth r97 1) 1)) (asB (T.cell (nth r97 1) 2)) (asL (nth r96 17))).bind fun r106 =>
  bif asB (nth r106 12) then
    some [T.st [T.i .i64 0, T.i .i64 0, T.i .i64 0, T.sl [], T.sl [], T.sl []], T.b false]
  else
    bif (asI (nth r106 11)) != ((asL (nth r106 1)).length : Int) then
      some [T.st [T.i .i64 0, T.i .i64 0, T.i .i64 0, T.sl [], T.sl [], T.sl []], T.b false]
    else
      bif (asI (nth r106 2)) != ((asL (nth r106 17)).length : Int) then
        some [T.st [T.i .i64 0, T.i .i64 0, T.i .i64 0, T.sl [], T.sl [], T.sl []], T.b false]
      else
        bif (asI (nth r106 3)) != ((asL (nth r106 18)).length : Int) then
          some [T.st [T.i .i64 0, T.i .i64 0, T.i .i64 0, T.sl [], T.sl [], T.sl []], T.b false]
        else
          (c 34 [T.st [T.i .i64 (asI (nth r106 13)), T.i .i64 (asI (nth r106 14)), T.i .i64 (asI (nth r106 15)), T.sl (asL (nth r106 16)), T.sl (asL (nth r106 17)), T.sl (asL (nth r106 18))]]).bind fun r107 =>
          bif !(asB (nth r107 0)) then
            some [T.st [T.i .i64 0, T.i .i64 0, T.i .i64 0, T.sl [], T.sl [], T.sl []], T.b false]
          else
            some [T.st [T.i .i64 (asI (nth r106 13)), T.i .i64 (asI (nth r106 14)), T.i .i64 (asI (nth r106 15)), T.sl (asL (nth r106 16)), T.sl (asL (nth r106 17)), T.sl (asL (nth r106 18))], T.b true]
  else none
def f54 (c : Orc) (lf : Nat) (l0 : List T) : Option (List T) := f54_t c lf (fun (l0 : List T) (r83 : List T) (r84 : List T) (r85 : List T) (r86 : List T) (r87 : List T) (x90 : Int) (x91 : Int) (x92 : Bool) (x93 : List T) => f54_0 c lf l0 r83 r84 r85 r86 r87 lf x90 x91 x92 x93) (fun (r96 : List T) (r97 : List T) (x100 : Int) (x101 : Int) (x102 : Bool) (x103 : List T) => f54_1 c lf r96 r97 lf x100 x101 x102 x103) l0
theorem f54_raw (c : Orc) (lf : Nat) (l0 : List T) : funK c env lf 6 fi54 [.sl l0] = f54_t c lf (fun (l0 : List T) (r83 : List T) (r84 : List T) (r85 : List T) (r86 : List T) (r87 : List T) (x90 : Int) (x91 : Int) (x92 : Bool) (x93 : List T) => lpK c env lf 6 fi54 1 8 [] [0, 2, 4, 5, 6, 7] (x54_8_0) lf (f54_0_c l0 r83 r84 r85 r86 r87 x90 x91 x92 x93)) (fun (r96 : List T) (r97 : List T) (x100 : Int) (x101 : Int) (x102 : Bool) (x103 : List T) => lpK c env lf 6 fi54 1 15 [] [0, 2, 4, 5, 6, 9, 10] (x54_15_0) lf (f54_1_c r96 r97 x100 x101 x102 x103)) l0 := by kernel_rfl
theorem f54_eq (c : Orc) (lf : Nat) (l0 : List T) : funK c env lf 6 fi54 [.sl l0] = f54 c lf l0 := by
  refine (f54_raw c lf l0).trans ?_
  have e0 : (fun (l0 : List T) (r83 : List T) (r84 : List T) (r85 : List T) (r86 : List T) (r87 : List T) (x90 : Int) (x91 : Int) (x92 : Bool) (x93 : List T) => lpK c env lf 6 fi54 1 8 [] [0, 2, 4, 5, 6, 7] (x54_8_0) lf (f54_0_c l0 r83 r84 r85 r86 r87 x90 x91 x92 x93)) = (fun (l0 : List T) (r83 : List T) (r84 : List T) (r85 : List T) (r86 : List T) (r87 : List T) (x90 : Int) (x91 : Int) (x92 : Bool) (x93 : List T) => f54_0 c lf l0 r83 r84 r85 r86 r87 lf x90 x91 x92 x93) := by funext l0 r83 r84 r85 r86 r87 x90 x91 x92 x93; exact f54_0_eq c lf l0 r83 r84 r85 r86 r87 lf x90 x91 x92 x93
  have e1 : (fun (r96 : List T) (r97 : List T) (x100 : Int) (x101 : Int) (x102 : Bool) (x103 : List T) => lpK c env lf 6 fi54 1 15 [] [0, 2, 4, 5, 6, 9, 10] (x54_15_0) lf (f54_1_c r96 r97 x100 x101 x102 x103)) = (fun (r96 : List T) (r97 : List T) (x100 : Int) (x101 : Int) (x102 : Bool) (x103 : List T) => f54_1 c lf r96 r97 lf x100 x101 x102 x103) := by funext r96 r97 x100 x101 x102 x103; exact f54_1_eq c lf r96 r97 lf x100 x101 x102 x103
  rw [e0, e1]; rfl
/-- loop.example/g00285/impl.GetNum, the loop at region 6. -/
def f125_0_s (c : Orc) (lf : Nat) (l0 : List T) (n1 : Int) (L : Int → Int → Int → Option (List T)) (x112 : Int) (x113 : Int) (x114 : Int) : Option (List T) :=
  bif iLt x114 3 then
    bif iLt n1 (IntKind.wrap .i64 ((l0.length : Int) - x114)) then
      bif inR (IntKind.wrap .i64 (n1 + x114)) l0.length then
      bif iLe 128 (IntKind.wrap .i64 (asI (l0.getD ((IntKind.wrap .i64 (n1 + x114)).toNat) T.u))) then
        L (IntKind.wrap .i64 (x112 + (IntKind.wrap .i64 (((IntKind.wrap .i64 (asI (l0.getD ((IntKind.wrap .i64 (n1 + x114)).toNat) T.u))).tmod 128) * x113)))) (IntKind.wrap .i64 (x113 * 128)) (IntKind.wrap .i64 (x114 + 1))
      else
        bif iLt 1000000 (IntKind.wrap .i64 (x112 + (IntKind.wrap .i64 (((IntKind.wrap .i64 (asI (l0.getD ((IntKind.wrap .i64 (n1 + x114)).toNat) T.u))).tmod 128) * x113)))) then
          some [T.i .i64 0]
        else
          bif (IntKind.wrap .i64 (asI (l0.getD ((IntKind.wrap .i64 (n1 + x114)).toNat) T.u))) == 0 then
            bif iLt 0 x114 then
              some [T.i .i64 0]
            else
              some [T.i .i64 1, T.i .i64 (IntKind.wrap .i64 (x112 + (IntKind.wrap .i64 (((IntKind.wrap .i64 (asI (l0.getD ((IntKind.wrap .i64 (n1 + x114)).toNat) T.u))).tmod 128) * x113)))), T.i .i64 (IntKind.wrap .i64 ((IntKind.wrap .i64 (n1 + x114)) + 1)), T.b true]
          else
            some [T.i .i64 1, T.i .i64 (IntKind.wrap .i64 (x112 + (IntKind.wrap .i64 (((IntKind.wrap .i64 (asI (l0.getD ((IntKind.wrap .i64 (n1 + x114)).toNat) T.u))).tmod 128) * x113)))), T.i .i64 (IntKind.wrap .i64 ((IntKind.wrap .i64 (n1 + x114)) + 1)), T.b true]
      else none
    else
      some [T.i .i64 0]
  else
    some [T.i .i64 0]
def f125_0_c (l0 : List T) (n1 : Int) (x112 : Int) (x113 : Int) (x114 : Int) : CSt := ⟨[.ro 0 false [.i .u8] l0, .i .i64 n1, .i .i64 x112, .i .i64 x113, .i .i64 x114], [.dead, .dead]⟩
theorem f125_0_round (c : Orc) (lf : Nat) (l0 : List T) (n1 : Int) (L : CSt → Option (List T)) (x112 : Int) (x113 : Int) (x114 : Int) :
    roundK c env lf 6 fi125 2 6 [] [0, 1, 7, 8, 9] (x125_6_0) L (f125_0_c l0 n1 x112 x113 x114) = f125_0_s c lf l0 n1 (fun x112 x113 x114 => L (f125_0_c l0 n1 x112 x113 x114)) x112 x113 x114 := by kernel_rfl
def f125_0 (c : Orc) (lf : Nat) (l0 : List T) (n1 : Int) : Nat → Int → Int → Int → Option (List T)
  | 0 => fun _ _ _ => none
  | n + 1 => fun x112 x113 x114 => f125_0_s c lf l0 n1 (f125_0 c lf l0 n1 n) x112 x113 x114
theorem f125_0_u (c : Orc) (lf : Nat) (l0 : List T) (n1 : Int) (n : Nat) (x112 : Int) (x113 : Int) (x114 : Int) : f125_0 c lf l0 n1 (n + 1) x112 x113 x114 = f125_0_s c lf l0 n1 (f125_0 c lf l0 n1 n) x112 x113 x114 := rfl
theorem f125_0_eq (c : Orc) (lf : Nat) (l0 : List T) (n1 : Int) (n : Nat) (x112 : Int) (x113 : Int) (x114 : Int) :
    lpK c env lf 6 fi125 2 6 [] [0, 1, 7, 8, 9] (x125_6_0) n (f125_0_c l0 n1 x112 x113 x114) = f125_0 c lf l0 n1 n x112 x113 x114 := by
  induction n generalizing x112 x113 x114 with
  | zero => rfl
  | succ n ih =>
    refine (f125_0_round c lf l0 n1 _ x112 x113 x114).trans ?_
    have e : (fun x112 x113 x114 => lpK c env lf 6 fi125 2 6 [] [0, 1, 7, 8, 9] (x125_6_0) n (f125_0_c l0 n1 x112 x113 x114)) = f125_0 c lf l0 n1 n := by funext x112 x113 x114; exact ih x112 x113 x114
    show f125_0_s c lf l0 n1 (fun x112 x113 x114 => lpK c env lf 6 fi125 2 6 [] [0, 1, 7, 8, 9] (x125_6_0) n (f125_0_c l0 n1 x112 x113 x114)) x112 x113 x114 = _
    rw [e]; rfl
/-- loop.example/g00285/impl.GetNum -/
def f125_t (c : Orc) (lf : Nat) (lp0 : List T → Int → Int → Int → Int → Option (List T)) (l0 : List T) (n1 : Int) : Option (List T) :=
  bif iLt n1 0 then
    some [T.i .i64 0, T.i .i64 0, T.b false]
  else
    (lp0 l0 n1 0 1 0).bind fun r115 =>
    bif asI (nth r115 0) == 0 then
      some [T.i .i64 0, T.i .i64 0, T.b false]
    else
      some [T.i .i64 (asI (nth r115 1)), T.i .i64 (asI (nth r115 2)), T.b (asB (nth r115 3))]
def f125 (c : Orc) (lf : Nat) (l0 : List T) (n1 : Int) : Option (List T) := f125_t c lf (fun (l0 : List T) (n1 : Int) (x112 : Int) (x113 : Int) (x114 : Int) => f125_0 c lf l0 n1 lf x112 x113 x114) l0 n1
theorem f125_raw (c : Orc) (lf : Nat) (l0 : List T) (n1 : Int) : funK c env lf 6 fi125 [.sl l0, .i .i64 n1] = f125_t c lf (fun (l0 : List T) (n1 : Int) (x112 : Int) (x113 : Int) (x114 : Int) => lpK c env lf 6 fi125 2 6 [] [0, 1, 7, 8, 9] (x125_6_0) lf (f125_0_c l0 n1 x112 x113 x114)) l0 n1 := by kernel_rfl
theorem f125_eq (c : Orc) (lf : Nat) (l0 : List T) (n1 : Int) : funK c env lf 6 fi125 [.sl l0, .i .i64 n1] = f125 c lf l0 n1 := by
  refine (f125_raw c lf l0 n1).trans ?_
  have e0 : (fun (l0 : List T) (n1 : Int) (x112 : Int) (x113 : Int) (x114 : Int) => lpK c env lf 6 fi125 2 6 [] [0, 1, 7, 8, 9] (x125_6_0) lf (f125_0_c l0 n1 x112 x113 x114)) = (fun (l0 : List T) (n1 : Int) (x112 : Int) (x113 : Int) (x114 : Int) => f125_0 c lf l0 n1 lf x112 x113 x114) := by funext l0 n1 x112 x113 x114; exact f125_0_eq c lf l0 n1 lf x112 x113 x114
  rw [e0]; rfl
/-- (*loop.example/g00285/impl.reader).num -/
def f72_t (c : Orc) (lf : Nat) (l0_0 : List T) (n0_1 : Int) (b0_2 : Bool) : Option (List T) :=
  bif !b0_2 then
    some [T.i .i64 0, T.st [T.sl l0_0, T.i .i64 n0_1, T.b b0_2]]
  else
    (c 125 [T.sl l0_0, T.i .i64 n0_1]).bind fun r116 =>
    some [T.i .i64 (asI (nth r116 0)), T.st [T.sl l0_0, T.i .i64 (asI (nth r116 1)), T.b (asB (nth r116 2))]]
def f72 (c : Orc) (lf : Nat) (l0_0 : List T) (n0_1 : Int) (b0_2 : Bool) : Option (List T) := f72_t c lf l0_0 n0_1 b0_2
theorem f72_raw (c : Orc) (lf : Nat) (l0_0 : List T) (n0_1 : Int) (b0_2 : Bool) : funK c env lf 6 fi72 [.st [.sl l0_0, .i .i64 n0_1, .b b0_2]] = f72_t c lf l0_0 n0_1 b0_2 := by kernel_rfl
theorem f72_eq (c : Orc) (lf : Nat) (l0_0 : List T) (n0_1 : Int) (b0_2 : Bool) : funK c env lf 6 fi72 [.st [.sl l0_0, .i .i64 n0_1, .b b0_2]] = f72 c lf l0_0 n0_1 b0_2 := by
  refine (f72_raw c lf l0_0 n0_1 b0_2).trans ?_
  rfl
/-- loop.example/g00285/impl.GetText -/
def f132_t (c : Orc) (lf : Nat) (l0 : List T) (n1 : Int) : Option (List T) :=
  (c 125 [T.sl l0, T.i .i64 n1]).bind fun r117 =>
  bif !(asB (nth r117 2)) then
    some [T.s (⟨#[]⟩ : ByteArray), T.i .i64 0, T.b false]
  else
    bif iLt (IntKind.wrap .i64 ((l0.length : Int) - (asI (nth r117 1)))) (asI (nth r117 0)) then
      some [T.s (⟨#[]⟩ : ByteArray), T.i .i64 0, T.b false]
    else
      bif iLe 0 (asI (nth r117 1)) && iLe (asI (nth r117 1)) (IntKind.wrap .i64 ((asI (nth r117 1)) + (asI (nth r117 0)))) && iLe (IntKind.wrap .i64 ((asI (nth r117 1)) + (asI (nth r117 0)))) (l0.length : Int) then
      some [T.s (bytesOf ((l0.drop ((asI (nth r117 1)).toNat)).take (((IntKind.wrap .i64 ((asI (nth r117 1)) + (asI (nth r117 0)))).toNat) - ((asI (nth r117 1)).toNat)))), T.i .i64 (IntKind.wrap .i64 ((asI (nth r117 1)) + (asI (nth r117 0)))), T.b true]
      else none
def f132 (c : Orc) (lf : Nat) (l0 : List T) (n1 : Int) : Option (List T) := f132_t c lf l0 n1
theorem f132_raw (c : Orc) (lf : Nat) (l0 : List T) (n1 : Int) : funK c env lf 6 fi132 [.sl l0, .i .i64 n1] = f132_t c lf l0 n1 := by kernel_rfl
theorem f132_eq (c : Orc) (lf : Nat) (l0 : List T) (n1 : Int) : funK c env lf 6 fi132 [.sl l0, .i .i64 n1] = f132 c lf l0 n1 := by
  refine (f132_raw c lf l0 n1).trans ?_
  rfl
/-- (*loop.example/g00285/impl.reader).text -/
def f91_t (c : Orc) (lf : Nat) (l0_0 : List T) (n0_1 : Int) (b0_2 : Bool) : Option (List T) :=
  bif !b0_2 then
    some [T.s (⟨#[]⟩ : ByteArray), T.st [T.sl l0_0, T.i .i64 n0_1, T.b b0_2]]
  else
    (c 132 [T.sl l0_0, T.i .i64 n0_1]).bind fun r118 =>
    some [T.s (asS (nth r118 0)), T.st [T.sl l0_0, T.i .i64 (asI (nth r118 1)), T.b (asB (nth r118 2))]]
def f91 (c : Orc) (lf : Nat) (l0_0 : List T) (n0_1 : Int) (b0_2 : Bool) : Option (List T) := f91_t c lf l0_0 n0_1 b0_2
theorem f91_raw (c : Orc) (lf : Nat) (l0_0 : List T) (n0_1 : Int) (b0_2 : Bool) : funK c env lf 6 fi91 [.st [.sl l0_0, .i .i64 n0_1, .b b0_2]] = f91_t c lf l0_0 n0_1 b0_2 := by kernel_rfl
theorem f91_eq (c : Orc) (lf : Nat) (l0_0 : List T) (n0_1 : Int) (b0_2 : Bool) : funK c env lf 6 fi91 [.st [.sl l0_0, .i .i64 n0_1, .b b0_2]] = f91 c lf l0_0 n0_1 b0_2 := by
  refine (f91_raw c lf l0_0 n0_1 b0_2).trans ?_
  rfl
/-- (*loop.example/g00285/impl.reader).count -/
def f73_t (c : Orc) (lf : Nat) (l0_0 : List T) (n0_1 : Int) (b0_2 : Bool) : Option (List T) :=
  (c 72 [T.st [T.sl l0_0, T.i .i64 n0_1, T.b b0_2]]).bind fun r119 =>
  bif iLt (IntKind.wrap .i64 ((l0_0.length : Int) - (asI (T.cell (nth r119 1) 1)))) (asI (nth r119 0)) then
    some [T.i .i64 0, T.st [T.sl l0_0, T.i .i64 (asI (T.cell (nth r119 1) 1)), T.b false]]
  else
    some [T.i .i64 (asI (nth r119 0)), T.st [T.sl l0_0, T.i .i64 (asI (T.cell (nth r119 1) 1)), T.b (asB (T.cell (nth r119 1) 2))]]
def f73 (c : Orc) (lf : Nat) (l0_0 : List T) (n0_1 : Int) (b0_2 : Bool) : Option (List T) := f73_t c lf l0_0 n0_1 b0_2
theorem f73_raw (c : Orc) (lf : Nat) (l0_0 : List T) (n0_1 : Int) (b0_2 : Bool) : funK c env lf 6 fi73 [.st [.sl l0_0, .i .i64 n0_1, .b b0_2]] = f73_t c lf l0_0 n0_1 b0_2 := by kernel_rfl
theorem f73_eq (c : Orc) (lf : Nat) (l0_0 : List T) (n0_1 : Int) (b0_2 : Bool) : funK c env lf 6 fi73 [.st [.sl l0_0, .i .i64 n0_1, .b b0_2]] = f73 c lf l0_0 n0_1 b0_2 := by
  refine (f73_raw c lf l0_0 n0_1 b0_2).trans ?_
  rfl
/-- (*loop.example/g00285/impl.reader).attrs, the loop at region 3. -/
def f92_0_s (c : Orc) (lf : Nat) (l0_0 : List T) (r130 : List T) (L : Int → Int → Bool → List T → Option (List T)) (x133 : Int) (x134 : Int) (x135 : Bool) (x136 : List T) : Option (List T) :=
  bif iLt x133 (asI (nth r130 0)) then
    (c 91 [T.st [T.sl l0_0, T.i .i64 x134, T.b x135]]).bind fun r137 =>
    (c 91 [T.st [T.sl l0_0, T.i .i64 (asI (T.cell (nth r137 1) 1)), T.b (asB (T.cell (nth r137 1) 2))]]).bind fun r138 =>
    bif nLe (x136.length + ([T.st [T.s (asS (nth r137 0)), T.s (asS (nth r138 0))]] : List T).length) LIM then
    L (IntKind.wrap .i64 (x133 + 1)) (asI (T.cell (nth r138 1) 1)) (asB (T.cell (nth r138 1) 2)) (x136 ++ ([T.st [T.s (asS (nth r137 0)), T.s (asS (nth r138 0))]] : List T))
    else none
  else
    some [T.i .i64 0, T.sl l0_0, T.i .i64 x134, T.b x135, T.sl x136]
def f92_0_c (l0_0 : List T) (r130 : List T) (x133 : Int) (x134 : Int) (x135 : Bool) (x136 : List T) : CSt := ⟨[.bp 0 0, .rf 4 [] 0 none, .i .i64 (asI (nth r130 0)), .i .i64 x133], [.box [.ro 1 false [.i .u8] l0_0, .i .i64 x134, .b x135], .dead, .dead, .dead, .row true [.s, .s] x136 0 false]⟩
theorem f92_0_round (c : Orc) (lf : Nat) (l0_0 : List T) (r130 : List T) (L : CSt → Option (List T)) (x133 : Int) (x134 : Int) (x135 : Bool) (x136 : List T) :
    roundK c env lf 6 fi92 4 3 [] [0, 3, 8, 9] (x92_3_0) L (f92_0_c l0_0 r130 x133 x134 x135 x136) = f92_0_s c lf l0_0 r130 (fun x133 x134 x135 x136 => L (f92_0_c l0_0 r130 x133 x134 x135 x136)) x133 x134 x135 x136 := by kernel_rfl
def f92_0 (c : Orc) (lf : Nat) (l0_0 : List T) (r130 : List T) : Nat → Int → Int → Bool → List T → Option (List T)
  | 0 => fun _ _ _ _ => none
  | n + 1 => fun x133 x134 x135 x136 => f92_0_s c lf l0_0 r130 (f92_0 c lf l0_0 r130 n) x133 x134 x135 x136
theorem f92_0_u (c : Orc) (lf : Nat) (l0_0 : List T) (r130 : List T) (n : Nat) (x133 : Int) (x134 : Int) (x135 : Bool) (x136 : List T) : f92_0 c lf l0_0 r130 (n + 1) x133 x134 x135 x136 = f92_0_s c lf l0_0 r130 (f92_0 c lf l0_0 r130 n) x133 x134 x135 x136 := rfl
theorem f92_0_eq (c : Orc) (lf : Nat) (l0_0 : List T) (r130 : List T) (n : Nat) (x133 : Int) (x134 : Int) (x135 : Bool) (x136 : List T) :
    lpK c env lf 6 fi92 4 3 [] [0, 3, 8, 9] (x92_3_0) n (f92_0_c l0_0 r130 x133 x134 x135 x136) = f92_0 c lf l0_0 r130 n x133 x134 x135 x136 := by
  induction n generalizing x133 x134 x135 x136 with
  | zero => rfl
  | succ n ih =>
    refine (f92_0_round c lf l0_0 r130 _ x133 x134 x135 x136).trans ?_
    have e : (fun x133 x134 x135 x136 => lpK c env lf 6 fi92 4 3 [] [0, 3, 8, 9] (x92_3_0) n (f92_0_c l0_0 r130 x133 x134 x135 x136)) = f92_0 c lf l0_0 r130 n := by funext x133 x134 x135 x136; exact ih x133 x134 x135 x136
    show f92_0_s c lf l0_0 r130 (fun x133 x134 x135 x136 => lpK c env lf 6 fi92 4 3 [] [0, 3, 8, 9] (x92_3_0) n (f92_0_c l0_0 r130 x133 x134 x135 x136)) x133 x134 x135 x136 = _
    rw [e]; rfl
/-- (*loop.example/g00285/impl.reader).attrs -/
def f92_t (c : Orc) (lf : Nat) (lp0 : List T → List T → Int → Int → Bool → List T → Option (List T)) (l0_0 : List T) (n0_1 : Int) (b0_2 : Bool) : Option (List T) :=
  (c 73 [T.st [T.sl l0_0, T.i .i64 n0_1, T.b b0_2]]).bind fun r130 =>
  (lp0 l0_0 r130 0 (asI (T.cell (nth r130 1) 1)) (asB (T.cell (nth r130 1) 2)) ([] : List T)).bind fun r139 =>
  some [T.sl (asL (nth r139 4)), T.st [T.sl (asL (nth r139 1)), T.i .i64 (asI (nth r139 2)), T.b (asB (nth r139 3))]]
def f92 (c : Orc) (lf : Nat) (l0_0 : List T) (n0_1 : Int) (b0_2 : Bool) : Option (List T) := f92_t c lf (fun (l0_0 : List T) (r130 : List T) (x133 : Int) (x134 : Int) (x135 : Bool) (x136 : List T) => f92_0 c lf l0_0 r130 lf x133 x134 x135 x136) l0_0 n0_1 b0_2
theorem f92_raw (c : Orc) (lf : Nat) (l0_0 : List T) (n0_1 : Int) (b0_2 : Bool) : funK c env lf 6 fi92 [.st [.sl l0_0, .i .i64 n0_1, .b b0_2]] = f92_t c lf (fun (l0_0 : List T) (r130 : List T) (x133 : Int) (x134 : Int) (x135 : Bool) (x136 : List T) => lpK c env lf 6 fi92 4 3 [] [0, 3, 8, 9] (x92_3_0) lf (f92_0_c l0_0 r130 x133 x134 x135 x136)) l0_0 n0_1 b0_2 := by kernel_rfl
theorem f92_eq (c : Orc) (lf : Nat) (l0_0 : List T) (n0_1 : Int) (b0_2 : Bool) : funK c env lf 6 fi92 [.st [.sl l0_0, .i .i64 n0_1, .b b0_2]] = f92 c lf l0_0 n0_1 b0_2 := by
  refine (f92_raw c lf l0_0 n0_1 b0_2).trans ?_
  have e0 : (fun (l0_0 : List T) (r130 : List T) (x133 : Int) (x134 : Int) (x135 : Bool) (x136 : List T) => lpK c env lf 6 fi92 4 3 [] [0, 3, 8, 9] (x92_3_0) lf (f92_0_c l0_0 r130 x133 x134 x135 x136)) = (fun (l0_0 : List T) (r130 : List T) (x133 : Int) (x134 : Int) (x135 : Bool) (x136 : List T) => f92_0 c lf l0_0 r130 lf x133 x134 x135 x136) := by funext l0_0 r130 x133 x134 x135 x136; exact f92_0_eq c lf l0_0 r130 lf x133 x134 x135 x136
  rw [e0]; rfl
/-- (*loop.example/g00285/impl.reader).done -/
def f74_t (c : Orc) (lf : Nat) (l0_0 : List T) (n0_1 : Int) (b0_2 : Bool) : Option (List T) :=
  bif b0_2 then
    some [T.b (n0_1 == (l0_0.length : Int)), T.st [T.sl l0_0, T.i .i64 n0_1, T.b b0_2]]
  else
    some [T.b false, T.st [T.sl l0_0, T.i .i64 n0_1, T.b b0_2]]
def f74 (c : Orc) (lf : Nat) (l0_0 : List T) (n0_1 : Int) (b0_2 : Bool) : Option (List T) := f74_t c lf l0_0 n0_1 b0_2
theorem f74_raw (c : Orc) (lf : Nat) (l0_0 : List T) (n0_1 : Int) (b0_2 : Bool) : funK c env lf 6 fi74 [.st [.sl l0_0, .i .i64 n0_1, .b b0_2]] = f74_t c lf l0_0 n0_1 b0_2 := by kernel_rfl
theorem f74_eq (c : Orc) (lf : Nat) (l0_0 : List T) (n0_1 : Int) (b0_2 : Bool) : funK c env lf 6 fi74 [.st [.sl l0_0, .i .i64 n0_1, .b b0_2]] = f74 c lf l0_0 n0_1 b0_2 := by
  refine (f74_raw c lf l0_0 n0_1 b0_2).trans ?_
  rfl
/-- loop.example/g00285/impl.from -/
def f76_t (c : Orc) (lf : Nat) (n0 : Int) (n1 : Int) (n2 : Int) : Option (List T) :=
  bif iLe n1 n0 then
    some [T.b (iLe n0 n2)]
  else
    some [T.b false]
def f76 (c : Orc) (lf : Nat) (n0 : Int) (n1 : Int) (n2 : Int) : Option (List T) := f76_t c lf n0 n1 n2
theorem f76_raw (c : Orc) (lf : Nat) (n0 : Int) (n1 : Int) (n2 : Int) : funK c env lf 6 fi76 [.i .i64 n0, .i .i64 n1, .i .i64 n2] = f76_t c lf n0 n1 n2 := by kernel_rfl
theorem f76_eq (c : Orc) (lf : Nat) (n0 : Int) (n1 : Int) (n2 : Int) : funK c env lf 6 fi76 [.i .i64 n0, .i .i64 n1, .i .i64 n2] = f76 c lf n0 n1 n2 := by
  refine (f76_raw c lf n0 n1 n2).trans ?_
  rfl
/-- loop.example/g00285/impl.NameOk, the loop at region 2. -/
def f90_0_s (c : Orc) (lf : Nat) (s0 : ByteArray) (L : Int → Option (List T)) (x142 : Int) : Option (List T) :=
  bif iLt x142 (s0.size : Int) then
    bif inR x142 s0.size then
    bif iLt (byteAt s0 x142) 97 then
      bif iLt (byteAt s0 x142) 48 then
        bif (byteAt s0 x142) != 95 then
          bif (byteAt s0 x142) != 45 then
            bif (byteAt s0 x142) != 46 then
              some [T.i .i64 0, T.b false]
            else
              L (IntKind.wrap .i64 (x142 + 1))
          else
            L (IntKind.wrap .i64 (x142 + 1))
        else
          L (IntKind.wrap .i64 (x142 + 1))
      else
        bif iLt 57 (byteAt s0 x142) then
          bif (byteAt s0 x142) != 95 then
            bif (byteAt s0 x142) != 45 then
              bif (byteAt s0 x142) != 46 then
                some [T.i .i64 0, T.b false]
              else
                L (IntKind.wrap .i64 (x142 + 1))
            else
              L (IntKind.wrap .i64 (x142 + 1))
          else
            L (IntKind.wrap .i64 (x142 + 1))
        else
          L (IntKind.wrap .i64 (x142 + 1))
    else
      bif iLt 122 (byteAt s0 x142) then
        bif iLt (byteAt s0 x142) 48 then
          bif (byteAt s0 x142) != 95 then
            bif (byteAt s0 x142) != 45 then
              bif (byteAt s0 x142) != 46 then
                some [T.i .i64 0, T.b false]
              else
                L (IntKind.wrap .i64 (x142 + 1))
            else
              L (IntKind.wrap .i64 (x142 + 1))
          else
            L (IntKind.wrap .i64 (x142 + 1))
        else
          bif iLt 57 (byteAt s0 x142) then
            bif (byteAt s0 x142) != 95 then
              bif (byteAt s0 x142) != 45 then
                bif (byteAt s0 x142) != 46 then
                  some [T.i .i64 0, T.b false]
                else
                  L (IntKind.wrap .i64 (x142 + 1))
              else
                L (IntKind.wrap .i64 (x142 + 1))
            else
              L (IntKind.wrap .i64 (x142 + 1))
          else
            L (IntKind.wrap .i64 (x142 + 1))
      else
        L (IntKind.wrap .i64 (x142 + 1))
    else none
  else
    some [T.i .i64 1, T.s s0]
def f90_0_c (s0 : ByteArray) (x142 : Int) : CSt := ⟨[.s s0, .i .i64 (s0.size : Int), .i .i64 x142], [.dead]⟩
theorem f90_0_round (c : Orc) (lf : Nat) (s0 : ByteArray) (L : CSt → Option (List T)) (x142 : Int) :
    roundK c env lf 6 fi90 1 2 [] [0, 6, 7] (x90_2_0) L (f90_0_c s0 x142) = f90_0_s c lf s0 (fun x142 => L (f90_0_c s0 x142)) x142 := by kernel_rfl
def f90_0 (c : Orc) (lf : Nat) (s0 : ByteArray) : Nat → Int → Option (List T)
  | 0 => fun _ => none
  | n + 1 => fun x142 => f90_0_s c lf s0 (f90_0 c lf s0 n) x142
theorem f90_0_u (c : Orc) (lf : Nat) (s0 : ByteArray) (n : Nat) (x142 : Int) : f90_0 c lf s0 (n + 1) x142 = f90_0_s c lf s0 (f90_0 c lf s0 n) x142 := rfl
theorem f90_0_eq (c : Orc) (lf : Nat) (s0 : ByteArray) (n : Nat) (x142 : Int) :
    lpK c env lf 6 fi90 1 2 [] [0, 6, 7] (x90_2_0) n (f90_0_c s0 x142) = f90_0 c lf s0 n x142 := by
  induction n generalizing x142 with
  | zero => rfl
  | succ n ih =>
    refine (f90_0_round c lf s0 _ x142).trans ?_
    have e : (fun x142 => lpK c env lf 6 fi90 1 2 [] [0, 6, 7] (x90_2_0) n (f90_0_c s0 x142)) = f90_0 c lf s0 n := by funext x142; exact ih x142
    show f90_0_s c lf s0 (fun x142 => lpK c env lf 6 fi90 1 2 [] [0, 6, 7] (x90_2_0) n (f90_0_c s0 x142)) x142 = _
    rw [e]; rfl
/-- loop.example/g00285/impl.NameOk -/
def f90_t (c : Orc) (lf : Nat) (lp0 : ByteArray → Int → Option (List T)) (s0 : ByteArray) : Option (List T) :=
  (lp0 s0 0).bind fun r143 =>
  bif asI (nth r143 0) == 0 then
    some [T.b (asB (nth r143 1))]
  else
    bif iLe 1 ((asS (nth r143 1)).size : Int) then
      bif iLe ((asS (nth r143 1)).size : Int) 14 then
        bif !((asS (nth r143 1)).toList == (⟨#[46]⟩ : ByteArray).toList) then
          some [T.b (!((asS (nth r143 1)).toList == (⟨#[46, 46]⟩ : ByteArray).toList))]
        else
          some [T.b false]
      else
        some [T.b false]
    else
      some [T.b false]
def f90 (c : Orc) (lf : Nat) (s0 : ByteArray) : Option (List T) := f90_t c lf (fun (s0 : ByteArray) (x142 : Int) => f90_0 c lf s0 lf x142) s0
theorem f90_raw (c : Orc) (lf : Nat) (s0 : ByteArray) : funK c env lf 6 fi90 [.s s0] = f90_t c lf (fun (s0 : ByteArray) (x142 : Int) => lpK c env lf 6 fi90 1 2 [] [0, 6, 7] (x90_2_0) lf (f90_0_c s0 x142)) s0 := by kernel_rfl
theorem f90_eq (c : Orc) (lf : Nat) (s0 : ByteArray) : funK c env lf 6 fi90 [.s s0] = f90 c lf s0 := by
  refine (f90_raw c lf s0).trans ?_
  have e0 : (fun (s0 : ByteArray) (x142 : Int) => lpK c env lf 6 fi90 1 2 [] [0, 6, 7] (x90_2_0) lf (f90_0_c s0 x142)) = (fun (s0 : ByteArray) (x142 : Int) => f90_0 c lf s0 lf x142) := by funext s0 x142; exact f90_0_eq c lf s0 lf x142
  rw [e0]; rfl
/-- loop.example/g00285/impl.attrsOk, the loop at region 2. -/
def f89_0_s (c : Orc) (lf : Nat) (l0 : List T) (L : Int → Option (List T)) (x152 : Int) : Option (List T) :=
  bif iLt x152 (l0.length : Int) then
    bif inR x152 l0.length then
    (c 90 [T.s (asS (T.cell (l0.getD x152.toNat T.u) 0))]).bind fun r153 =>
    bif !(asB (nth r153 0)) then
      some [T.i .i64 0, T.b false]
    else
      (c 76 [T.i .i64 ((asS (T.cell (l0.getD x152.toNat T.u) 1)).size : Int), T.i .i64 1, T.i .i64 16]).bind fun r154 =>
      bif !(asB (nth r154 0)) then
        some [T.i .i64 0, T.b false]
      else
        bif iLt 0 x152 then
          bif inR (IntKind.wrap .i64 (x152 - 1)) l0.length then
          bif !(Op.bytesLess (asS (T.cell (l0.getD ((IntKind.wrap .i64 (x152 - 1)).toNat) T.u) 0)).toList (asS (T.cell (l0.getD x152.toNat T.u) 0)).toList) then
            some [T.i .i64 0, T.b false]
          else
            L (IntKind.wrap .i64 (x152 + 1))
          else none
        else
          L (IntKind.wrap .i64 (x152 + 1))
    else none
  else
    some [T.i .i64 1, T.sl l0]
def f89_0_c (l0 : List T) (x152 : Int) : CSt := ⟨[.ro 0 true [.s, .s] l0, .ro 0 true [.s, .s] l0, .i .i64 (l0.length : Int), .i .i64 x152], [.dead]⟩
theorem f89_0_round (c : Orc) (lf : Nat) (l0 : List T) (L : CSt → Option (List T)) (x152 : Int) :
    roundK c env lf 6 fi89 1 2 [] [0, 5, 6, 7] (x89_2_0) L (f89_0_c l0 x152) = f89_0_s c lf l0 (fun x152 => L (f89_0_c l0 x152)) x152 := by kernel_rfl
def f89_0 (c : Orc) (lf : Nat) (l0 : List T) : Nat → Int → Option (List T)
  | 0 => fun _ => none
  | n + 1 => fun x152 => f89_0_s c lf l0 (f89_0 c lf l0 n) x152
theorem f89_0_u (c : Orc) (lf : Nat) (l0 : List T) (n : Nat) (x152 : Int) : f89_0 c lf l0 (n + 1) x152 = f89_0_s c lf l0 (f89_0 c lf l0 n) x152 := rfl
theorem f89_0_eq (c : Orc) (lf : Nat) (l0 : List T) (n : Nat) (x152 : Int) :
    lpK c env lf 6 fi89 1 2 [] [0, 5, 6, 7] (x89_2_0) n (f89_0_c l0 x152) = f89_0 c lf l0 n x152 := by
  induction n generalizing x152 with
  | zero => rfl
  | succ n ih =>
    refine (f89_0_round c lf l0 _ x152).trans ?_
    have e : (fun x152 => lpK c env lf 6 fi89 1 2 [] [0, 5, 6, 7] (x89_2_0) n (f89_0_c l0 x152)) = f89_0 c lf l0 n := by funext x152; exact ih x152
    show f89_0_s c lf l0 (fun x152 => lpK c env lf 6 fi89 1 2 [] [0, 5, 6, 7] (x89_2_0) n (f89_0_c l0 x152)) x152 = _
    rw [e]; rfl
/-- loop.example/g00285/impl.attrsOk -/
def f89_t (c : Orc) (lf : Nat) (lp0 : List T → Int → Option (List T)) (l0 : List T) : Option (List T) :=
  (lp0 l0 0).bind fun r155 =>
  bif asI (nth r155 0) == 0 then
    some [T.b (asB (nth r155 1))]
  else
    some [T.b (iLe ((asL (nth r155 1)).length : Int) 4)]
def f89 (c : Orc) (lf : Nat) (l0 : List T) : Option (List T) := f89_t c lf (fun (l0 : List T) (x152 : Int) => f89_0 c lf l0 lf x152) l0
theorem f89_raw (c : Orc) (lf : Nat) (l0 : List T) : funK c env lf 6 fi89 [.sl l0] = f89_t c lf (fun (l0 : List T) (x152 : Int) => lpK c env lf 6 fi89 1 2 [] [0, 5, 6, 7] (x89_2_0) lf (f89_0_c l0 x152)) l0 := by kernel_rfl
theorem f89_eq (c : Orc) (lf : Nat) (l0 : List T) : funK c env lf 6 fi89 [.sl l0] = f89 c lf l0 := by
  refine (f89_raw c lf l0).trans ?_
  have e0 : (fun (l0 : List T) (x152 : Int) => lpK c env lf 6 fi89 1 2 [] [0, 5, 6, 7] (x89_2_0) lf (f89_0_c l0 x152)) = (fun (l0 : List T) (x152 : Int) => f89_0 c lf l0 lf x152) := by funext l0 x152; exact f89_0_eq c lf l0 lf x152
  rw [e0]; rfl
/-- loop.example/g00285/impl.InodeOk, the loop at region 4. -/
def f35_0_s (c : Orc) (lf : Nat) (l0_3 : List T) (l0_4 : List T) (l0_5 : List T) (n0_0 : Int) (n0_1 : Int) (n0_2 : Int) (L : Int → Option (List T)) (x169 : Int) : Option (List T) :=
  bif iLt x169 (l0_4.length : Int) then
    bif inR x169 l0_4.length then
    (c 90 [T.s (asS (T.cell (l0_4.getD x169.toNat T.u) 0))]).bind fun r170 =>
    bif !(asB (nth r170 0)) then
      some [T.i .i64 0, T.b false]
    else
      (c 76 [T.i .i64 (asI (T.cell (l0_4.getD x169.toNat T.u) 1)), T.i .i64 2, T.i .i64 1000]).bind fun r171 =>
      bif !(asB (nth r171 0)) then
        some [T.i .i64 0, T.b false]
      else
        bif iLt 0 x169 then
          bif inR (IntKind.wrap .i64 (x169 - 1)) l0_4.length then
          bif !(Op.bytesLess (asS (T.cell (l0_4.getD ((IntKind.wrap .i64 (x169 - 1)).toNat) T.u) 0)).toList (asS (T.cell (l0_4.getD x169.toNat T.u) 0)).toList) then
            some [T.i .i64 0, T.b false]
          else
            L (IntKind.wrap .i64 (x169 + 1))
          else none
        else
          L (IntKind.wrap .i64 (x169 + 1))
    else none
  else
    some [T.i .i64 1, T.i .i64 n0_0, T.i .i64 n0_1, T.i .i64 n0_2, T.sl l0_3, T.sl l0_4, T.sl l0_5]
def f35_0_c (l0_3 : List T) (l0_4 : List T) (l0_5 : List T) (n0_0 : Int) (n0_1 : Int) (n0_2 : Int) (x169 : Int) : CSt := ⟨[.bp 6 0, .ro 0 true [.s, .i .i64] l0_4, .i .i64 (l0_4.length : Int), .i .i64 x169], [.dead, .dead, .dead, .dead, .dead, .dead, .box [.i .i64 n0_0, .i .i64 n0_1, .i .i64 n0_2, .ro 0 false [.i .u8] l0_3, .ro 0 true [.s, .i .i64] l0_4, .ro 0 true [.s, .s] l0_5]]⟩
theorem f35_0_round (c : Orc) (lf : Nat) (l0_3 : List T) (l0_4 : List T) (l0_5 : List T) (n0_0 : Int) (n0_1 : Int) (n0_2 : Int) (L : CSt → Option (List T)) (x169 : Int) :
    roundK c env lf 6 fi35 6 4 [] [1, 28, 29, 30] (x35_4_0) L (f35_0_c l0_3 l0_4 l0_5 n0_0 n0_1 n0_2 x169) = f35_0_s c lf l0_3 l0_4 l0_5 n0_0 n0_1 n0_2 (fun x169 => L (f35_0_c l0_3 l0_4 l0_5 n0_0 n0_1 n0_2 x169)) x169 := by kernel_rfl
def f35_0 (c : Orc) (lf : Nat) (l0_3 : List T) (l0_4 : List T) (l0_5 : List T) (n0_0 : Int) (n0_1 : Int) (n0_2 : Int) : Nat → Int → Option (List T)
  | 0 => fun _ => none
  | n + 1 => fun x169 => f35_0_s c lf l0_3 l0_4 l0_5 n0_0 n0_1 n0_2 (f35_0 c lf l0_3 l0_4 l0_5 n0_0 n0_1 n0_2 n) x169
theorem f35_0_u (c : Orc) (lf : Nat) (l0_3 : List T) (l0_4 : List T) (l0_5 : List T) (n0_0 : Int) (n0_1 : Int) (n0_2 : Int) (n : Nat) (x169 : Int) : f35_0 c lf l0_3 l0_4 l0_5 n0_0 n0_1 n0_2 (n + 1) x169 = f35_0_s c lf l0_3 l0_4 l0_5 n0_0 n0_1 n0_2 (f35_0 c lf l0_3 l0_4 l0_5 n0_0 n0_1 n0_2 n) x169 := rfl
theorem f35_0_eq (c : Orc) (lf : Nat) (l0_3 : List T) (l0_4 : List T) (l0_5 : List T) (n0_0 : Int) (n0_1 : Int) (n0_2 : Int) (n : Nat) (x169 : Int) :
    lpK c env lf 6 fi35 6 4 [] [1, 28, 29, 30] (x35_4_0) n (f35_0_c l0_3 l0_4 l0_5 n0_0 n0_1 n0_2 x169) = f35_0 c lf l0_3 l0_4 l0_5 n0_0 n0_1 n0_2 n x169 := by
  induction n generalizing x169 with
  | zero => rfl
  | succ n ih =>
    refine (f35_0_round c lf l0_3 l0_4 l0_5 n0_0 n0_1 n0_2 _ x169).trans ?_
    have e : (fun x169 => lpK c env lf 6 fi35 6 4 [] [1, 28, 29, 30] (x35_4_0) n (f35_0_c l0_3 l0_4 l0_5 n0_0 n0_1 n0_2 x169)) = f35_0 c lf l0_3 l0_4 l0_5 n0_0 n0_1 n0_2 n := by funext x169; exact ih x169
    show f35_0_s c lf l0_3 l0_4 l0_5 n0_0 n0_1 n0_2 (fun x169 => lpK c env lf 6 fi35 6 4 [] [1, 28, 29, 30] (x35_4_0) n (f35_0_c l0_3 l0_4 l0_5 n0_0 n0_1 n0_2 x169)) x169 = _
    rw [e]; rfl
/-- loop.example/g00285/impl.InodeOk -/
def f35_t (c : Orc) (lf : Nat) (lp0 : List T → List T → List T → Int → Int → Int → Int → Option (List T)) (n0_0 : Int) (n0_1 : Int) (n0_2 : Int) (l0_3 : List T) (l0_4 : List T) (l0_5 : List T) : Option (List T) :=
  (c 76 [T.i .i64 n0_0, T.i .i64 1, T.i .i64 1000]).bind fun r165 =>
  bif !(asB (nth r165 0)) then
    some [T.b false]
  else
    bif iLt 100 (l0_3.length : Int) then
      some [T.b false]
    else
      bif iLt 10 (l0_4.length : Int) then
        some [T.b false]
      else
        (c 89 [T.sl l0_5]).bind fun r166 =>
        bif !(asB (nth r166 0)) then
          some [T.b false]
        else
          (lp0 l0_3 l0_4 l0_5 n0_0 n0_1 n0_2 0).bind fun r172 =>
          bif asI (nth r172 0) == 0 then
            some [T.b (asB (nth r172 1))]
          else
            (c 76 [T.i .i64 (asI (nth r172 3)), T.i .i64 0, T.i .i64 1000]).bind fun r173 =>
            bif !(asB (nth r173 0)) then
              some [T.b false]
            else
              bif !(((asI (nth r172 3)) == 0) == ((asI (nth r172 1)) == 1)) then
                some [T.b false]
              else
                bif (asI (nth r172 2)) == 1 then
                  some [T.b (((asL (nth r172 5)).length : Int) == 0)]
                else
                  bif (asI (nth r172 2)) == 2 then
                    bif ((asL (nth r172 4)).length : Int) == 0 then
                      some [T.b (iLe (asI (nth r172 3)) 1)]
                    else
                      some [T.b false]
                  else
                    some [T.b false]
def f35 (c : Orc) (lf : Nat) (n0_0 : Int) (n0_1 : Int) (n0_2 : Int) (l0_3 : List T) (l0_4 : List T) (l0_5 : List T) : Option (List T) := f35_t c lf (fun (l0_3 : List T) (l0_4 : List T) (l0_5 : List T) (n0_0 : Int) (n0_1 : Int) (n0_2 : Int) (x169 : Int) => f35_0 c lf l0_3 l0_4 l0_5 n0_0 n0_1 n0_2 lf x169) n0_0 n0_1 n0_2 l0_3 l0_4 l0_5
theorem f35_raw (c : Orc) (lf : Nat) (n0_0 : Int) (n0_1 : Int) (n0_2 : Int) (l0_3 : List T) (l0_4 : List T) (l0_5 : List T) : funK c env lf 6 fi35 [.st [.i .i64 n0_0, .i .i64 n0_1, .i .i64 n0_2, .sl l0_3, .sl l0_4, .sl l0_5]] = f35_t c lf (fun (l0_3 : List T) (l0_4 : List T) (l0_5 : List T) (n0_0 : Int) (n0_1 : Int) (n0_2 : Int) (x169 : Int) => lpK c env lf 6 fi35 6 4 [] [1, 28, 29, 30] (x35_4_0) lf (f35_0_c l0_3 l0_4 l0_5 n0_0 n0_1 n0_2 x169)) n0_0 n0_1 n0_2 l0_3 l0_4 l0_5 := by kernel_rfl
theorem f35_eq (c : Orc) (lf : Nat) (n0_0 : Int) (n0_1 : Int) (n0_2 : Int) (l0_3 : List T) (l0_4 : List T) (l0_5 : List T) : funK c env lf 6 fi35 [.st [.i .i64 n0_0, .i .i64 n0_1, .i .i64 n0_2, .sl l0_3, .sl l0_4, .sl l0_5]] = f35 c lf n0_0 n0_1 n0_2 l0_3 l0_4 l0_5 := by
  refine (f35_raw c lf n0_0 n0_1 n0_2 l0_3 l0_4 l0_5).trans ?_
  have e0 : (fun (l0_3 : List T) (l0_4 : List T) (l0_5 : List T) (n0_0 : Int) (n0_1 : Int) (n0_2 : Int) (x169 : Int) => lpK c env lf 6 fi35 6 4 [] [1, 28, 29, 30] (x35_4_0) lf (f35_0_c l0_3 l0_4 l0_5 n0_0 n0_1 n0_2 x169)) = (fun (l0_3 : List T) (l0_4 : List T) (l0_5 : List T) (n0_0 : Int) (n0_1 : Int) (n0_2 : Int) (x169 : Int) => f35_0 c lf l0_3 l0_4 l0_5 n0_0 n0_1 n0_2 lf x169) := by funext l0_3 l0_4 l0_5 n0_0 n0_1 n0_2 x169; exact f35_0_eq c lf l0_3 l0_4 l0_5 n0_0 n0_1 n0_2 lf x169
  rw [e0]; rfl
/-- loop.example/g00285/impl.GetInode, the loop at region 8. -/
def f36_0_s (c : Orc) (lf : Nat) (l0 : List T) (r191 : List T) (r192 : List T) (r193 : List T) (r194 : List T) (r195 : List T) (L : Int → Int → Bool → List T → Option (List T)) (x198 : Int) (x199 : Int) (x200 : Bool) (x201 : List T) : Option (List T) :=
  bif iLt x198 (asI (nth r195 0)) then
    (c 91 [T.st [T.sl l0, T.i .i64 x199, T.b x200]]).bind fun r202 =>
    (c 72 [T.st [T.sl l0, T.i .i64 (asI (T.cell (nth r202 1) 1)), T.b (asB (T.cell (nth r202 1) 2))]]).bind fun r203 =>
    bif nLe (x201.length + ([T.st [T.s (asS (nth r202 0)), T.i .i64 (asI (nth r203 0))]] : List T).length) LIM then
    L (IntKind.wrap .i64 (x198 + 1)) (asI (T.cell (nth r203 1) 1)) (asB (T.cell (nth r203 1) 2)) (x201 ++ ([T.st [T.s (asS (nth r202 0)), T.i .i64 (asI (nth r203 0))]] : List T))
    else none
  else
    some [T.i .i64 0, T.i .i64 0, T.i .i64 0, T.i .i64 0, T.sl ([] : List T), T.sl ([] : List T), T.sl ([] : List T), T.sl l0, T.i .i64 x199, T.b x200, T.i .i64 (asI (nth r191 0)), T.i .i64 (asI (nth r192 0)), T.i .i64 (asI (nth r193 0)), T.sl (listOf (asS (nth r194 0))), T.sl x201, T.sl ([] : List T)]
def f36_0_c (l0 : List T) (r191 : List T) (r192 : List T) (r193 : List T) (r194 : List T) (r195 : List T) (x198 : Int) (x199 : Int) (x200 : Bool) (x201 : List T) : CSt := ⟨[.bp 1 0, .bp 5 0, .bp 6 0, .i .i64 (asI (nth r195 0)), .i .i64 x198], [.dead, .box [.i .i64 0, .i .i64 0, .i .i64 0, .rf 2 [] 0 none, .rf 3 [] 0 none, .rf 4 [] 0 none], .row false [.i .u8] ([] : List T) 0 false, .row true [.s, .i .i64] ([] : List T) 0 false, .row true [.s, .s] ([] : List T) 0 false, .box [.ro 0 false [.i .u8] l0, .i .i64 x199, .b x200], .box [.i .i64 (asI (nth r191 0)), .i .i64 (asI (nth r192 0)), .i .i64 (asI (nth r193 0)), .rf 7 [] 0 none, .rf 8 [] 0 none, .rf 9 [] 0 none], .row false [.i .u8] (listOf (asS (nth r194 0))) 0 false, .row true [.s, .i .i64] x201 0 false, .row true [.s, .s] ([] : List T) 0 false]⟩
theorem f36_0_round (c : Orc) (lf : Nat) (l0 : List T) (r191 : List T) (r192 : List T) (r193 : List T) (r194 : List T) (r195 : List T) (L : CSt → Option (List T)) (x198 : Int) (x199 : Int) (x200 : Bool) (x201 : List T) :
    roundK c env lf 6 fi36 1 8 [] [2, 4, 5, 26, 27] (x36_8_0) L (f36_0_c l0 r191 r192 r193 r194 r195 x198 x199 x200 x201) = f36_0_s c lf l0 r191 r192 r193 r194 r195 (fun x198 x199 x200 x201 => L (f36_0_c l0 r191 r192 r193 r194 r195 x198 x199 x200 x201)) x198 x199 x200 x201 := by kernel_rfl
def f36_0 (c : Orc) (lf : Nat) (l0 : List T) (r191 : List T) (r192 : List T) (r193 : List T) (r194 : List T) (r195 : List T) : Nat → Int → Int → Bool → List T → Option (List T)
  | 0 => fun _ _ _ _ => none
  | n + 1 => fun x198 x199 x200 x201 => f36_0_s c lf l0 r191 r192 r193 r194 r195 (f36_0 c lf l0 r191 r192 r193 r194 r195 n) x198 x199 x200 x201
theorem f36_0_u (c : Orc) (lf : Nat) (l0 : List T) (r191 : List T) (r192 : List T) (r193 : List T) (r194 : List T) (r195 : List T) (n : Nat) (x198 : Int) (x199 : Int) (x200 : Bool) (x201 : List T) : f36_0 c lf l0 r191 r192 r193 r194 r195 (n + 1) x198 x199 x200 x201 = f36_0_s c lf l0 r191 r192 r193 r194 r195 (f36_0 c lf l0 r191 r192 r193 r194 r195 n) x198 x199 x200 x201 := rfl
theorem f36_0_eq (c : Orc) (lf : Nat) (l0 : List T) (r191 : List T) (r192 : List T) (r193 : List T) (r194 : List T) (r195 : List T) (n : Nat) (x198 : Int) (x199 : Int) (x200 : Bool) (x201 : List T) :
    lpK c env lf 6 fi36 1 8 [] [2, 4, 5, 26, 27] (x36_8_0) n (f36_0_c l0 r191 r192 r193 r194 r195 x198 x199 x200 x201) = f36_0 c lf l0 r191 r192 r193 r194 r195 n x198 x199 x200 x201 := by
  induction n generalizing x198 x199 x200 x201 with
  | zero => rfl
  | succ n ih =>
    refine (f36_0_round c lf l0 r191 r192 r193 r194 r195 _ x198 x199 x200 x201).trans ?_
    have e : (fun x198 x199 x200 x201 => lpK c env lf 6 fi36 1 8 [] [2, 4, 5, 26, 27] (x36_8_0) n (f36_0_c l0 r191 r192 r193 r194 r195 x198 x199 x200 x201)) = f36_0 c lf l0 r191 r192 r193 r194 r195 n := by funext x198 x199 x200 x201; exact ih x198 x199 x200 x201
    show f36_0_s c lf l0 r191 r192 r193 r194 r195 (fun x198 x199 x200 x201 => lpK c env lf 6 fi36 1 8 [] [2, 4, 5, 26, 27] (x36_8_0) n (f36_0_c l0 r191 r192 r193 r194 r195 x198 x199 x200 x201)) x198 x199 x200 x201 = _
    rw [e]; rfl
/-- loop.example/g00285/impl.GetInode -/
def f36_t (c : Orc) (lf : Nat) (lp0 : List T → List T → List T → List T → List T → List T → Int → Int → Bool → List T → Option (List T)) (l0 : List T) : Option (List T) :=
  (c 72 [T.st [T.sl l0, T.i .i64 0, T.b true]]).bind fun r191 =>
  (c 72 [T.st [T.sl l0, T.i .i64 (asI (T.cell (nth r191 1) 1)), T.b (asB (T.cell (nth r191 1) 2))]]).bind fun r192 =>
  (c 72 [T.st [T.sl l0, T.i .i64 (asI (T.cell (nth r192 1) 1)), T.b (asB (T.cell (nth r192 1) 2))]]).bind fun r193 =>
  (c 91 [T.st [T.sl l0, T.i .i64 (asI (T.cell (nth r193 1) 1)), T.b (asB (T.cell (nth r193 1) 2))]]).bind fun r194 =>
  bif nLe (asS (nth r194 0)).size LIM then
  (c 73 [T.st [T.sl l0, T.i .i64 (asI (T.cell (nth r194 1) 1)), T.b (asB (T.cell (nth r194 1) 2))]]).bind fun r195 =>
  (lp0 l0 r191 r192 r193 r194 r195 0 (asI (T.cell (nth r195 1) 1)) (asB (T.cell (nth r195 1) 2)) ([] : List T)).bind fun r204 =>
  (c 92 [T.st [T.sl (asL (nth r204 7)), T.i .i64 (asI (nth r204 8)), T.b (asB (nth r204 9))]]).bind fun r205 =>
  (c 74 [T.st [T.sl (asL (nth r204 7)), T.i .i64 (asI (T.cell (nth r205 1) 1)), T.b (asB (T.cell (nth r205 1) 2))]]).bind fun r206 =>
  bif !(asB (nth r206 0)) then
    some [T.st [T.i .i64 0, T.i .i64 0, T.i .i64 0, T.sl [], T.sl [], T.sl []], T.b false]
  else
    (c 35 [T.st [T.i .i64 (asI (nth r204 10)), T.i .i64 (asI (nth r204 11)), T.i .i64 (asI (nth r204 12)), T.sl (asL (nth r204 13)), T.sl (asL (nth r204 14)), T.sl (asL (nth r205 0))]]).bind fun r207 =>
    bif !(asB (nth r207 0)) then
      some [T.st [T.i .i64 0, T.i .i64 0, T.i .i64 0, T.sl [], T.sl [], T.sl []], T.b false]
    else
      some [T.st [T.i .i64 (asI (nth r204 10)), T.i .i64 (asI (nth r204 11)), T.i .i64 (asI (nth r204 12)), T.sl (asL (nth r204 13)), T.sl (asL (nth r204 14)), T.sl (asL (nth r205 0))], T.b true]
  else none
def f36 (c : Orc) (lf : Nat) (l0 : List T) : Option (List T) := f36_t c lf (fun (l0 : List T) (r191 : List T) (r192 : List T) (r193 : List T) (r194 : List T) (r195 : List T) (x198 : Int) (x199 : Int) (x200 : Bool) (x201 : List T) => f36_0 c lf l0 r191 r192 r193 r194 r195 lf x198 x199 x200 x201) l0
theorem f36_raw (c : Orc) (lf : Nat) (l0 : List T) : funK c env lf 6 fi36 [.sl l0] = f36_t c lf (fun (l0 : List T) (r191 : List T) (r192 : List T) (r193 : List T) (r194 : List T) (r195 : List T) (x198 : Int) (x199 : Int) (x200 : Bool) (x201 : List T) => lpK c env lf 6 fi36 1 8 [] [2, 4, 5, 26, 27] (x36_8_0) lf (f36_0_c l0 r191 r192 r193 r194 r195 x198 x199 x200 x201)) l0 := by kernel_rfl
theorem f36_eq (c : Orc) (lf : Nat) (l0 : List T) : funK c env lf 6 fi36 [.sl l0] = f36 c lf l0 := by
  refine (f36_raw c lf l0).trans ?_
  have e0 : (fun (l0 : List T) (r191 : List T) (r192 : List T) (r193 : List T) (r194 : List T) (r195 : List T) (x198 : Int) (x199 : Int) (x200 : Bool) (x201 : List T) => lpK c env lf 6 fi36 1 8 [] [2, 4, 5, 26, 27] (x36_8_0) lf (f36_0_c l0 r191 r192 r193 r194 r195 x198 x199 x200 x201)) = (fun (l0 : List T) (r191 : List T) (r192 : List T) (r193 : List T) (r194 : List T) (r195 : List T) (x198 : Int) (x199 : Int) (x200 : Bool) (x201 : List T) => f36_0 c lf l0 r191 r192 r193 r194 r195 lf x198 x199 x200 x201) := by funext l0 r191 r192 r193 r194 r195 x198 x199 x200 x201; exact f36_0_eq c lf l0 r191 r192 r193 r194 r195 lf x198 x199 x200 x201
  rw [e0]; rfl
/-- loop.example/g00285/laws.eqByteS, the loop at region 4. -/
def f27_0_s (c : Orc) (lf : Nat) (l0 : List T) (l1 : List T) (L : Int → Option (List T)) (x210 : Int) : Option (List T) :=
  bif iLt x210 (l0.length : Int) then
    bif inR x210 l0.length then
    bif inR x210 l1.length then
    bif (asI (l0.getD x210.toNat T.u)) != (asI (l1.getD x210.toNat T.u)) then
      some [T.i .i64 0, T.b false]
    else
      L (IntKind.wrap .i64 (x210 + 1))
    else none
    else none
  else
    some [T.i .i64 1]
def f27_0_c (l0 : List T) (l1 : List T) (x210 : Int) : CSt := ⟨[.ro 0 false [.i .u8] l0, .ro 0 false [.i .u8] l1, .i .i64 x210], [.dead, .dead]⟩
theorem f27_0_round (c : Orc) (lf : Nat) (l0 : List T) (l1 : List T) (L : CSt → Option (List T)) (x210 : Int) :
    roundK c env lf 6 fi27 2 4 [] [0, 1, 5] (x27_4_0) L (f27_0_c l0 l1 x210) = f27_0_s c lf l0 l1 (fun x210 => L (f27_0_c l0 l1 x210)) x210 := by kernel_rfl
def f27_0 (c : Orc) (lf : Nat) (l0 : List T) (l1 : List T) : Nat → Int → Option (List T)
  | 0 => fun _ => none
  | n + 1 => fun x210 => f27_0_s c lf l0 l1 (f27_0 c lf l0 l1 n) x210
theorem f27_0_u (c : Orc) (lf : Nat) (l0 : List T) (l1 : List T) (n : Nat) (x210 : Int) : f27_0 c lf l0 l1 (n + 1) x210 = f27_0_s c lf l0 l1 (f27_0 c lf l0 l1 n) x210 := rfl
theorem f27_0_eq (c : Orc) (lf : Nat) (l0 : List T) (l1 : List T) (n : Nat) (x210 : Int) :
    lpK c env lf 6 fi27 2 4 [] [0, 1, 5] (x27_4_0) n (f27_0_c l0 l1 x210) = f27_0 c lf l0 l1 n x210 := by
  induction n generalizing x210 with
  | zero => rfl
  | succ n ih =>
    refine (f27_0_round c lf l0 l1 _ x210).trans ?_
    have e : (fun x210 => lpK c env lf 6 fi27 2 4 [] [0, 1, 5] (x27_4_0) n (f27_0_c l0 l1 x210)) = f27_0 c lf l0 l1 n := by funext x210; exact ih x210
    show f27_0_s c lf l0 l1 (fun x210 => lpK c env lf 6 fi27 2 4 [] [0, 1, 5] (x27_4_0) n (f27_0_c l0 l1 x210)) x210 = _
    rw [e]; rfl
/-- loop.example/g00285/laws.eqByteS -/
def f27_t (c : Orc) (lf : Nat) (lp0 : List T → List T → Int → Option (List T)) (l0 : List T) (l1 : List T) : Option (List T) :=
  bif (l0.length : Int) != (l1.length : Int) then
    some [T.b false]
  else
    (lp0 l0 l1 0).bind fun r211 =>
    bif asI (nth r211 0) == 0 then
      some [T.b (asB (nth r211 1))]
    else
      some [T.b true]
def f27 (c : Orc) (lf : Nat) (l0 : List T) (l1 : List T) : Option (List T) := f27_t c lf (fun (l0 : List T) (l1 : List T) (x210 : Int) => f27_0 c lf l0 l1 lf x210) l0 l1
theorem f27_raw (c : Orc) (lf : Nat) (l0 : List T) (l1 : List T) : funK c env lf 6 fi27 [.sl l0, .sl l1] = f27_t c lf (fun (l0 : List T) (l1 : List T) (x210 : Int) => lpK c env lf 6 fi27 2 4 [] [0, 1, 5] (x27_4_0) lf (f27_0_c l0 l1 x210)) l0 l1 := by kernel_rfl
theorem f27_eq (c : Orc) (lf : Nat) (l0 : List T) (l1 : List T) : funK c env lf 6 fi27 [.sl l0, .sl l1] = f27 c lf l0 l1 := by
  refine (f27_raw c lf l0 l1).trans ?_
  have e0 : (fun (l0 : List T) (l1 : List T) (x210 : Int) => lpK c env lf 6 fi27 2 4 [] [0, 1, 5] (x27_4_0) lf (f27_0_c l0 l1 x210)) = (fun (l0 : List T) (l1 : List T) (x210 : Int) => f27_0 c lf l0 l1 lf x210) := by funext l0 l1 x210; exact f27_0_eq c lf l0 l1 lf x210
  rw [e0]; rfl
/-- loop.example/g00285/laws.eqEnt -/
def f141_t (c : Orc) (lf : Nat) (s0_0 : ByteArray) (n0_1 : Int) (s1_0 : ByteArray) (n1_1 : Int) : Option (List T) :=
  bif !(s0_0.toList == s1_0.toList) then
    some [T.b false]
  else
    bif n0_1 != n1_1 then
      some [T.b false]
    else
      some [T.b true]
def f141 (c : Orc) (lf : Nat) (s0_0 : ByteArray) (n0_1 : Int) (s1_0 : ByteArray) (n1_1 : Int) : Option (List T) := f141_t c lf s0_0 n0_1 s1_0 n1_1
theorem f141_raw (c : Orc) (lf : Nat) (s0_0 : ByteArray) (n0_1 : Int) (s1_0 : ByteArray) (n1_1 : Int) : funK c env lf 6 fi141 [.st [.s s0_0, .i .i64 n0_1], .st [.s s1_0, .i .i64 n1_1]] = f141_t c lf s0_0 n0_1 s1_0 n1_1 := by kernel_rfl
theorem f141_eq (c : Orc) (lf : Nat) (s0_0 : ByteArray) (n0_1 : Int) (s1_0 : ByteArray) (n1_1 : Int) : funK c env lf 6 fi141 [.st [.s s0_0, .i .i64 n0_1], .st [.s s1_0, .i .i64 n1_1]] = f141 c lf s0_0 n0_1 s1_0 n1_1 := by
  refine (f141_raw c lf s0_0 n0_1 s1_0 n1_1).trans ?_
  rfl
/-- loop.example/g00285/laws.eqEntS, the loop at region 4. -/
def f110_0_s (c : Orc) (lf : Nat) (l0 : List T) (l1 : List T) (L : Int → Option (List T)) (x217 : Int) : Option (List T) :=
  bif iLt x217 (l0.length : Int) then
    bif inR x217 l0.length then
    bif inR x217 l1.length then
    (c 141 [T.st [T.s (asS (T.cell (l0.getD x217.toNat T.u) 0)), T.i .i64 (asI (T.cell (l0.getD x217.toNat T.u) 1))], T.st [T.s (asS (T.cell (l1.getD x217.toNat T.u) 0)), T.i .i64 (asI (T.cell (l1.getD x217.toNat T.u) 1))]]).bind fun r218 =>
    bif !(asB (nth r218 0)) then
      some [T.i .i64 0, T.b false]
    else
      L (IntKind.wrap .i64 (x217 + 1))
    else none
    else none
  else
    some [T.i .i64 1]
def f110_0_c (l0 : List T) (l1 : List T) (x217 : Int) : CSt := ⟨[.ro 0 true [.s, .i .i64] l0, .ro 0 true [.s, .i .i64] l1, .i .i64 x217], [.dead, .dead]⟩
theorem f110_0_round (c : Orc) (lf : Nat) (l0 : List T) (l1 : List T) (L : CSt → Option (List T)) (x217 : Int) :
    roundK c env lf 6 fi110 2 4 [] [0, 1, 5] (x110_4_0) L (f110_0_c l0 l1 x217) = f110_0_s c lf l0 l1 (fun x217 => L (f110_0_c l0 l1 x217)) x217 := by kernel_rfl
def f110_0 (c : Orc) (lf : Nat) (l0 : List T) (l1 : List T) : Nat → Int → Option (List T)
  | 0 => fun _ => none
  | n + 1 => fun x217 => f110_0_s c lf l0 l1 (f110_0 c lf l0 l1 n) x217
theorem f110_0_u (c : Orc) (lf : Nat) (l0 : List T) (l1 : List T) (n : Nat) (x217 : Int) : f110_0 c lf l0 l1 (n + 1) x217 = f110_0_s c lf l0 l1 (f110_0 c lf l0 l1 n) x217 := rfl
theorem f110_0_eq (c : Orc) (lf : Nat) (l0 : List T) (l1 : List T) (n : Nat) (x217 : Int) :
    lpK c env lf 6 fi110 2 4 [] [0, 1, 5] (x110_4_0) n (f110_0_c l0 l1 x217) = f110_0 c lf l0 l1 n x217 := by
  induction n generalizing x217 with
  | zero => rfl
  | succ n ih =>
    refine (f110_0_round c lf l0 l1 _ x217).trans ?_
    have e : (fun x217 => lpK c env lf 6 fi110 2 4 [] [0, 1, 5] (x110_4_0) n (f110_0_c l0 l1 x217)) = f110_0 c lf l0 l1 n := by funext x217; exact ih x217
    show f110_0_s c lf l0 l1 (fun x217 => lpK c env lf 6 fi110 2 4 [] [0, 1, 5] (x110_4_0) n (f110_0_c l0 l1 x217)) x217 = _
    rw [e]; rfl
/-- loop.example/g00285/laws.eqEntS -/
def f110_t (c : Orc) (lf : Nat) (lp0 : List T → List T → Int → Option (List T)) (l0 : List T) (l1 : List T) : Option (List T) :=
  bif (l0.length : Int) != (l1.length : Int) then
    some [T.b false]
  else
    (lp0 l0 l1 0).bind fun r219 =>
    bif asI (nth r219 0) == 0 then
      some [T.b (asB (nth r219 1))]
    else
      some [T.b true]
def f110 (c : Orc) (lf : Nat) (l0 : List T) (l1 : List T) : Option (List T) := f110_t c lf (fun (l0 : List T) (l1 : List T) (x217 : Int) => f110_0 c lf l0 l1 lf x217) l0 l1
theorem f110_raw (c : Orc) (lf : Nat) (l0 : List T) (l1 : List T) : funK c env lf 6 fi110 [.sl l0, .sl l1] = f110_t c lf (fun (l0 : List T) (l1 : List T) (x217 : Int) => lpK c env lf 6 fi110 2 4 [] [0, 1, 5] (x110_4_0) lf (f110_0_c l0 l1 x217)) l0 l1 := by kernel_rfl
theorem f110_eq (c : Orc) (lf : Nat) (l0 : List T) (l1 : List T) : funK c env lf 6 fi110 [.sl l0, .sl l1] = f110 c lf l0 l1 := by
  refine (f110_raw c lf l0 l1).trans ?_
  have e0 : (fun (l0 : List T) (l1 : List T) (x217 : Int) => lpK c env lf 6 fi110 2 4 [] [0, 1, 5] (x110_4_0) lf (f110_0_c l0 l1 x217)) = (fun (l0 : List T) (l1 : List T) (x217 : Int) => f110_0 c lf l0 l1 lf x217) := by funext l0 l1 x217; exact f110_0_eq c lf l0 l1 lf x217
  rw [e0]; rfl
/-- loop.example/g00285/laws.eqAttr -/
def f142_t (c : Orc) (lf : Nat) (s0_0 : ByteArray) (s0_1 : ByteArray) (s1_0 : ByteArray) (s1_1 : ByteArray) : Option (List T) :=
  bif !(s0_0.toList == s1_0.toList) then
    some [T.b false]
  else
    bif !(s0_1.toList == s1_1.toList) then
      some [T.b false]
    else
      some [T.b true]
def f142 (c : Orc) (lf : Nat) (s0_0 : ByteArray) (s0_1 : ByteArray) (s1_0 : ByteArray) (s1_1 : ByteArray) : Option (List T) := f142_t c lf s0_0 s0_1 s1_0 s1_1
theorem f142_raw (c : Orc) (lf : Nat) (s0_0 : ByteArray) (s0_1 : ByteArray) (s1_0 : ByteArray) (s1_1 : ByteArray) : funK c env lf 6 fi142 [.st [.s s0_0, .s s0_1], .st [.s s1_0, .s s1_1]] = f142_t c lf s0_0 s0_1 s1_0 s1_1 := by kernel_rfl
theorem f142_eq (c : Orc) (lf : Nat) (s0_0 : ByteArray) (s0_1 : ByteArray) (s1_0 : ByteArray) (s1_1 : ByteArray) : funK c env lf 6 fi142 [.st [.s s0_0, .s s0_1], .st [.s s1_0, .s s1_1]] = f142 c lf s0_0 s0_1 s1_0 s1_1 := by
  refine (f142_raw c lf s0_0 s0_1 s1_0 s1_1).trans ?_
  rfl
/-- loop.example/g00285/laws.eqAttrS, the loop at region 4. -/
def f111_0_s (c : Orc) (lf : Nat) (l0 : List T) (l1 : List T) (L : Int → Option (List T)) (x225 : Int) : Option (List T) :=
  bif iLt x225 (l0.length : Int) then
    bif inR x225 l0.length then
    bif inR x225 l1.length then
    (c 142 [T.st [T.s (asS (T.cell (l0.getD x225.toNat T.u) 0)), T.s (asS (T.cell (l0.getD x225.toNat T.u) 1))], T.st [T.s (asS (T.cell (l1.getD x225.toNat T.u) 0)), T.s (asS (T.cell (l1.getD x225.toNat T.u) 1))]]).bind fun r226 =>
    bif !(asB (nth r226 0)) then
      some [T.i .i64 0, T.b false]
    else
      L (IntKind.wrap .i64 (x225 + 1))
    else none
    else none
  else
    some [T.i .i64 1]
def f111_0_c (l0 : List T) (l1 : List T) (x225 : Int) : CSt := ⟨[.ro 0 true [.s, .s] l0, .ro 0 true [.s, .s] l1, .i .i64 x225], [.dead, .dead]⟩
theorem f111_0_round (c : Orc) (lf : Nat) (l0 : List T) (l1 : List T) (L : CSt → Option (List T)) (x225 : Int) :
    roundK c env lf 6 fi111 2 4 [] [0, 1, 5] (x111_4_0) L (f111_0_c l0 l1 x225) = f111_0_s c lf l0 l1 (fun x225 => L (f111_0_c l0 l1 x225)) x225 := by kernel_rfl
def f111_0 (c : Orc) (lf : Nat) (l0 : List T) (l1 : List T) : Nat → Int → Option (List T)
  | 0 => fun _ => none
  | n + 1 => fun x225 => f111_0_s c lf l0 l1 (f111_0 c lf l0 l1 n) x225
theorem f111_0_u (c : Orc) (lf : Nat) (l0 : List T) (l1 : List T) (n : Nat) (x225 : Int) : f111_0 c lf l0 l1 (n + 1) x225 = f111_0_s c lf l0 l1 (f111_0 c lf l0 l1 n) x225 := rfl
theorem f111_0_eq (c : Orc) (lf : Nat) (l0 : List T) (l1 : List T) (n : Nat) (x225 : Int) :
    lpK c env lf 6 fi111 2 4 [] [0, 1, 5] (x111_4_0) n (f111_0_c l0 l1 x225) = f111_0 c lf l0 l1 n x225 := by
  induction n generalizing x225 with
  | zero => rfl
  | succ n ih =>
    refine (f111_0_round c lf l0 l1 _ x225).trans ?_
    have e : (fun x225 => lpK c env lf 6 fi111 2 4 [] [0, 1, 5] (x111_4_0) n (f111_0_c l0 l1 x225)) = f111_0 c lf l0 l1 n := by funext x225; exact ih x225
    show f111_0_s c lf l0 l1 (fun x225 => lpK c env lf 6 fi111 2 4 [] [0, 1, 5] (x111_4_0) n (f111_0_c l0 l1 x225)) x225 = _
    rw [e]; rfl
/-- loop.example/g00285/laws.eqAttrS -/
def f111_t (c : Orc) (lf : Nat) (lp0 : List T → List T → Int → Option (List T)) (l0 : List T) (l1 : List T) : Option (List T) :=
  bif (l0.length : Int) != (l1.length : Int) then
    some [T.b false]
  else
    (lp0 l0 l1 0).bind fun r227 =>
    bif asI (nth r227 0) == 0 then
      some [T.b (asB (nth r227 1))]
    else
      some [T.b true]
def f111 (c : Orc) (lf : Nat) (l0 : List T) (l1 : List T) : Option (List T) := f111_t c lf (fun (l0 : List T) (l1 : List T) (x225 : Int) => f111_0 c lf l0 l1 lf x225) l0 l1
theorem f111_raw (c : Orc) (lf : Nat) (l0 : List T) (l1 : List T) : funK c env lf 6 fi111 [.sl l0, .sl l1] = f111_t c lf (fun (l0 : List T) (l1 : List T) (x225 : Int) => lpK c env lf 6 fi111 2 4 [] [0, 1, 5] (x111_4_0) lf (f111_0_c l0 l1 x225)) l0 l1 := by kernel_rfl
theorem f111_eq (c : Orc) (lf : Nat) (l0 : List T) (l1 : List T) : funK c env lf 6 fi111 [.sl l0, .sl l1] = f111 c lf l0 l1 := by
  refine (f111_raw c lf l0 l1).trans ?_
  have e0 : (fun (l0 : List T) (l1 : List T) (x225 : Int) => lpK c env lf 6 fi111 2 4 [] [0, 1, 5] (x111_4_0) lf (f111_0_c l0 l1 x225)) = (fun (l0 : List T) (l1 : List T) (x225 : Int) => f111_0 c lf l0 l1 lf x225) := by funext l0 l1 x225; exact f111_0_eq c lf l0 l1 lf x225
  rw [e0]; rfl
/-- loop.example/g00285/laws.eqInode -/
def f55_t (c : Orc) (lf : Nat) (n0_0 : Int) (n0_1 : Int) (n0_2 : Int) (l0_3 : List T) (l0_4 : List T) (l0_5 : List T) (n1_0 : Int) (n1_1 : Int) (n1_2 : Int) (l1_3 : List T) (l1_4 : List T) (l1_5 : List T) : Option (List T) :=
  bif n0_0 != n1_0 then
    some [T.b false]
  else
    bif n0_1 != n1_1 then
      some [T.b false]
    else
      bif n0_2 != n1_2 then
        some [T.b false]
      else
        (c 27 [T.sl l0_3, T.sl l1_3]).bind fun r228 =>
        bif !(asB (nth r228 0)) then
          some [T.b false]
        else
          (c 110 [T.sl l0_4, T.sl l1_4]).bind fun r229 =>
          bif !(asB (nth r229 0)) then
            some [T.b false]
          else
            (c 111 [T.sl l0_5, T.sl l1_5]).bind fun r230 =>
            bif !(asB (nth r230 0)) then
              some [T.b false]
            else
              some [T.b true]
def f55 (c : Orc) (lf : Nat) (n0_0 : Int) (n0_1 : Int) (n0_2 : Int) (l0_3 : List T) (l0_4 : List T) (l0_5 : List T) (n1_0 : Int) (n1_1 : Int) (n1_2 : Int) (l1_3 : List T) (l1_4 : List T) (l1_5 : List T) : Option (List T) := f55_t c lf n0_0 n0_1 n0_2 l0_3 l0_4 l0_5 n1_0 n1_1 n1_2 l1_3 l1_4 l1_5
theorem f55_raw (c : Orc) (lf : Nat) (n0_0 : Int) (n0_1 : Int) (n0_2 : Int) (l0_3 : List T) (l0_4 : List T) (l0_5 : List T) (n1_0 : Int) (n1_1 : Int) (n1_2 : Int) (l1_3 : List T) (l1_4 : List T) (l1_5 : List T) : funK c env lf 6 fi55 [.st [.i .i64 n0_0, .i .i64 n0_1, .i .i64 n0_2, .sl l0_3, .sl l0_4, .sl l0_5], .st [.i .i64 n1_0, .i .i64 n1_1, .i .i64 n1_2, .sl l1_3, .sl l1_4, .sl l1_5]] = f55_t c lf n0_0 n0_1 n0_2 l0_3 l0_4 l0_5 n1_0 n1_1 n1_2 l1_3 l1_4 l1_5 := by kernel_rfl
theorem f55_eq (c : Orc) (lf : Nat) (n0_0 : Int) (n0_1 : Int) (n0_2 : Int) (l0_3 : List T) (l0_4 : List T) (l0_5 : List T) (n1_0 : Int) (n1_1 : Int) (n1_2 : Int) (l1_3 : List T) (l1_4 : List T) (l1_5 : List T) : funK c env lf 6 fi55 [.st [.i .i64 n0_0, .i .i64 n0_1, .i .i64 n0_2, .sl l0_3, .sl l0_4, .sl l0_5], .st [.i .i64 n1_0, .i .i64 n1_1, .i .i64 n1_2, .sl l1_3, .sl l1_4, .sl l1_5]] = f55 c lf n0_0 n0_1 n0_2 l0_3 l0_4 l0_5 n1_0 n1_1 n1_2 l1_3 l1_4 l1_5 := by
  refine (f55_raw c lf n0_0 n0_1 n0_2 l0_3 l0_4 l0_5 n1_0 n1_1 n1_2 l1_3 l1_4 l1_5).trans ?_
  rfl
/-- loop.example/g00285/laws.markByteS, the loop at region 2. -/
def f30_0_s (c : Orc) (lf : Nat) (L : Int → Int → List T → Option (List T)) (x235 : Int) (x236 : Int) (x237 : List T) : Option (List T) :=
  bif iLt x236 (x237.length : Int) then
    bif inR x236 x237.length then
    L (IntKind.wrap .i64 (x235 + 1)) (IntKind.wrap .i64 (x236 + 1)) (x237.set x236.toNat (T.i .u8 (IntKind.wrap .u8 x235)))
    else none
  else
    some [T.i .i64 0, T.i .i64 x235, T.sl x237]
def f30_0_c (x235 : Int) (x236 : Int) (x237 : List T) : CSt := ⟨[.rf 0 [] 0 none, .i .i64 x235, .i .i64 x236], [.row false [.i .u8] x237 0 false, .dead]⟩
theorem f30_0_round (c : Orc) (lf : Nat) (L : CSt → Option (List T)) (x235 : Int) (x236 : Int) (x237 : List T) :
    roundK c env lf 6 fi30 2 2 [] [0, 1, 5] (x30_2_0) L (f30_0_c x235 x236 x237) = f30_0_s c lf (fun x235 x236 x237 => L (f30_0_c x235 x236 x237)) x235 x236 x237 := by kernel_rfl
def f30_0 (c : Orc) (lf : Nat) : Nat → Int → Int → List T → Option (List T)
  | 0 => fun _ _ _ => none
  | n + 1 => fun x235 x236 x237 => f30_0_s c lf (f30_0 c lf n) x235 x236 x237
theorem f30_0_u (c : Orc) (lf : Nat) (n : Nat) (x235 : Int) (x236 : Int) (x237 : List T) : f30_0 c lf (n + 1) x235 x236 x237 = f30_0_s c lf (f30_0 c lf n) x235 x236 x237 := rfl
theorem f30_0_eq (c : Orc) (lf : Nat) (n : Nat) (x235 : Int) (x236 : Int) (x237 : List T) :
    lpK c env lf 6 fi30 2 2 [] [0, 1, 5] (x30_2_0) n (f30_0_c x235 x236 x237) = f30_0 c lf n x235 x236 x237 := by
  induction n generalizing x235 x236 x237 with
  | zero => rfl
  | succ n ih =>
    refine (f30_0_round c lf _ x235 x236 x237).trans ?_
    have e : (fun x235 x236 x237 => lpK c env lf 6 fi30 2 2 [] [0, 1, 5] (x30_2_0) n (f30_0_c x235 x236 x237)) = f30_0 c lf n := by funext x235 x236 x237; exact ih x235 x236 x237
    show f30_0_s c lf (fun x235 x236 x237 => lpK c env lf 6 fi30 2 2 [] [0, 1, 5] (x30_2_0) n (f30_0_c x235 x236 x237)) x235 x236 x237 = _
    rw [e]; rfl
/-- loop.example/g00285/laws.markByteS -/
def f30_t (c : Orc) (lf : Nat) (lp0 : Int → Int → List T → Option (List T)) (l0 : List T) (n1 : Int) : Option (List T) :=
  (lp0 n1 0 l0).bind fun r238 =>
  some [T.i .i64 (asI (nth r238 1)), T.sl (asL (nth r238 2))]
def f30 (c : Orc) (lf : Nat) (l0 : List T) (n1 : Int) : Option (List T) := f30_t c lf (fun (x235 : Int) (x236 : Int) (x237 : List T) => f30_0 c lf lf x235 x236 x237) l0 n1
theorem f30_raw (c : Orc) (lf : Nat) (l0 : List T) (n1 : Int) : funK c env lf 6 fi30 [.sl l0, .i .i64 n1] = f30_t c lf (fun (x235 : Int) (x236 : Int) (x237 : List T) => lpK c env lf 6 fi30 2 2 [] [0, 1, 5] (x30_2_0) lf (f30_0_c x235 x236 x237)) l0 n1 := by kernel_rfl
theorem f30_eq (c : Orc) (lf : Nat) (l0 : List T) (n1 : Int) : funK c env lf 6 fi30 [.sl l0, .i .i64 n1] = f30 c lf l0 n1 := by
  refine (f30_raw c lf l0 n1).trans ?_
  have e0 : (fun (x235 : Int) (x236 : Int) (x237 : List T) => lpK c env lf 6 fi30 2 2 [] [0, 1, 5] (x30_2_0) lf (f30_0_c x235 x236 x237)) = (fun (x235 : Int) (x236 : Int) (x237 : List T) => f30_0 c lf lf x235 x236 x237) := by funext x235 x236 x237; exact f30_0_eq c lf lf x235 x236 x237
  rw [e0]; rfl
/-- loop.example/g00285/laws.markText, the loop at region 4. -/
def f130_0_s (c : Orc) (lf : Nat) (L : Int → ByteArray → Option (List T)) (x242 : Int) (x243 : ByteArray) : Option (List T) :=
  bif iLt 0 x242 then
    bif nLe ((bytesOf ([T.i .u8 (IntKind.wrap .u8 (IntKind.wrap .i64 (48 + (x242.tmod 10))))] : List T)).size + x243.size) LIM then
    L (IntKind.wrap .i64 (x242.tdiv 10)) ((bytesOf ([T.i .u8 (IntKind.wrap .u8 (IntKind.wrap .i64 (48 + (x242.tmod 10))))] : List T)) ++ x243)
    else none
  else
    some [T.i .i64 0, T.s x243]
def f130_0_c (x242 : Int) (x243 : ByteArray) : CSt := ⟨[.i .i64 x242, .s x243], [.dead]⟩
theorem f130_0_round (c : Orc) (lf : Nat) (L : CSt → Option (List T)) (x242 : Int) (x243 : ByteArray) :
    roundK c env lf 6 fi130 1 4 [] [0, 3] (x130_4_0) L (f130_0_c x242 x243) = f130_0_s c lf (fun x242 x243 => L (f130_0_c x242 x243)) x242 x243 := by kernel_rfl
def f130_0 (c : Orc) (lf : Nat) : Nat → Int → ByteArray → Option (List T)
  | 0 => fun _ _ => none
  | n + 1 => fun x242 x243 => f130_0_s c lf (f130_0 c lf n) x242 x243
theorem f130_0_u (c : Orc) (lf : Nat) (n : Nat) (x242 : Int) (x243 : ByteArray) : f130_0 c lf (n + 1) x242 x243 = f130_0_s c lf (f130_0 c lf n) x242 x243 := rfl
theorem f130_0_eq (c : Orc) (lf : Nat) (n : Nat) (x242 : Int) (x243 : ByteArray) :
    lpK c env lf 6 fi130 1 4 [] [0, 3] (x130_4_0) n (f130_0_c x242 x243) = f130_0 c lf n x242 x243 := by
  induction n generalizing x242 x243 with
  | zero => rfl
  | succ n ih =>
    refine (f130_0_round c lf _ x242 x243).trans ?_
    have e : (fun x242 x243 => lpK c env lf 6 fi130 1 4 [] [0, 3] (x130_4_0) n (f130_0_c x242 x243)) = f130_0 c lf n := by funext x242 x243; exact ih x242 x243
    show f130_0_s c lf (fun x242 x243 => lpK c env lf 6 fi130 1 4 [] [0, 3] (x130_4_0) n (f130_0_c x242 x243)) x242 x243 = _
    rw [e]; rfl
/-- loop.example/g00285/laws.markText -/
def f130_t (c : Orc) (lf : Nat) (lp0 : Int → ByteArray → Option (List T)) (n0 : Int) : Option (List T) :=
  bif iLe n0 0 then
    some [T.s (⟨#[109, 48]⟩ : ByteArray)]
  else
    (lp0 n0 (⟨#[]⟩ : ByteArray)).bind fun r244 =>
    bif nLe ((⟨#[109]⟩ : ByteArray).size + (asS (nth r244 1)).size) LIM then
    some [T.s ((⟨#[109]⟩ : ByteArray) ++ (asS (nth r244 1)))]
    else none
def f130 (c : Orc) (lf : Nat) (n0 : Int) : Option (List T) := f130_t c lf (fun (x242 : Int) (x243 : ByteArray) => f130_0 c lf lf x242 x243) n0
theorem f130_raw (c : Orc) (lf : Nat) (n0 : Int) : funK c env lf 6 fi130 [.i .i64 n0] = f130_t c lf (fun (x242 : Int) (x243 : ByteArray) => lpK c env lf 6 fi130 1 4 [] [0, 3] (x130_4_0) lf (f130_0_c x242 x243)) n0 := by kernel_rfl
theorem f130_eq (c : Orc) (lf : Nat) (n0 : Int) : funK c env lf 6 fi130 [.i .i64 n0] = f130 c lf n0 := by
  refine (f130_raw c lf n0).trans ?_
  have e0 : (fun (x242 : Int) (x243 : ByteArray) => lpK c env lf 6 fi130 1 4 [] [0, 3] (x130_4_0) lf (f130_0_c x242 x243)) = (fun (x242 : Int) (x243 : ByteArray) => f130_0 c lf lf x242 x243) := by funext x242 x243; exact f130_0_eq c lf lf x242 x243
  rw [e0]; rfl
/-- loop.example/g00285/laws.markEntS, the loop at region 2. -/
def f112_0_s (c : Orc) (lf : Nat) (L : Int → Int → List T → Option (List T)) (x252 : Int) (x253 : Int) (x254 : List T) : Option (List T) :=
  bif iLt x253 (x254.length : Int) then
    (c 130 [T.i .i64 x252]).bind fun r255 =>
    bif inR x253 x254.length then
    bif inR x253 ((x254.set x253.toNat (T.setc (x254.getD x253.toNat T.u) 0 (T.s (asS (nth r255 0))))).length) then
    L (IntKind.wrap .i64 ((IntKind.wrap .i64 (x252 + 1)) + 1)) (IntKind.wrap .i64 (x253 + 1)) ((x254.set x253.toNat (T.setc (x254.getD x253.toNat T.u) 0 (T.s (asS (nth r255 0))))).set x253.toNat (T.setc ((x254.set x253.toNat (T.setc (x254.getD x253.toNat T.u) 0 (T.s (asS (nth r255 0))))).getD x253.toNat T.u) 1 (T.i .i64 (IntKind.wrap .i64 (x252 + 1)))))
    else none
    else none
  else
    some [T.i .i64 0, T.i .i64 x252, T.sl x254]
def f112_0_c (x252 : Int) (x253 : Int) (x254 : List T) : CSt := ⟨[.rf 0 [] 0 none, .i .i64 x252, .i .i64 x253], [.row true [.s, .i .i64] x254 0 false, .dead]⟩
theorem f112_0_round (c : Orc) (lf : Nat) (L : CSt → Option (List T)) (x252 : Int) (x253 : Int) (x254 : List T) :
    roundK c env lf 6 fi112 2 2 [] [0, 1, 5] (x112_2_0) L (f112_0_c x252 x253 x254) = f112_0_s c lf (fun x252 x253 x254 => L (f112_0_c x252 x253 x254)) x252 x253 x254 := by kernel_rfl
def f112_0 (c : Orc) (lf : Nat) : Nat → Int → Int → List T → Option (List T)
  | 0 => fun _ _ _ => none
  | n + 1 => fun x252 x253 x254 => f112_0_s c lf (f112_0 c lf n) x252 x253 x254
theorem f112_0_u (c : Orc) (lf : Nat) (n : Nat) (x252 : Int) (x253 : Int) (x254 : List T) : f112_0 c lf (n + 1) x252 x253 x254 = f112_0_s c lf (f112_0 c lf n) x252 x253 x254 := rfl
theorem f112_0_eq (c : Orc) (lf : Nat) (n : Nat) (x252 : Int) (x253 : Int) (x254 : List T) :
    lpK c env lf 6 fi112 2 2 [] [0, 1, 5] (x112_2_0) n (f112_0_c x252 x253 x254) = f112_0 c lf n x252 x253 x254 := by
  induction n generalizing x252 x253 x254 with
  | zero => rfl
  | succ n ih =>
    refine (f112_0_round c lf _ x252 x253 x254).trans ?_
    have e : (fun x252 x253 x254 => lpK c env lf 6 fi112 2 2 [] [0, 1, 5] (x112_2_0) n (f112_0_c x252 x253 x254)) = f112_0 c lf n := by funext x252 x253 x254; exact ih x252 x253 x254
    show f112_0_s c lf (fun x252 x253 x254 => lpK c env lf 6 fi112 2 2 [] [0, 1, 5] (x112_2_0) n (f112_0_c x252 x253 x254)) x252 x253 x254 = _
    rw [e]; rfl
/-- loop.example/g00285/laws.markEntS -/
def f112_t (c : Orc) (lf : Nat) (lp0 : Int → Int → List T → Option (List T)) (l0 : List T) (n1 : Int) : Option (List T) :=
  (lp0 n1 0 l0).bind fun r256 =>
  some [T.i .i64 (asI (nth r256 1)), T.sl (asL (nth r256 2))]
def f112 (c : Orc) (lf : Nat) (l0 : List T) (n1 : Int) : Option (List T) := f112_t c lf (fun (x252 : Int) (x253 : Int) (x254 : List T) => f112_0 c lf lf x252 x253 x254) l0 n1
theorem f112_raw (c : Orc) (lf : Nat) (l0 : List T) (n1 : Int) : funK c env lf 6 fi112 [.sl l0, .i .i64 n1] = f112_t c lf (fun (x252 : Int) (x253 : Int) (x254 : List T) => lpK c env lf 6 fi112 2 2 [] [0, 1, 5] (x112_2_0) lf (f112_0_c x252 x253 x254)) l0 n1 := by kernel_rfl
theorem f112_eq (c : Orc) (lf : Nat) (l0 : List T) (n1 : Int) : funK c env lf 6 fi112 [.sl l0, .i .i64 n1] = f112 c lf l0 n1 := by
  refine (f112_raw c lf l0 n1).trans ?_
  have e0 : (fun (x252 : Int) (x253 : Int) (x254 : List T) => lpK c env lf 6 fi112 2 2 [] [0, 1, 5] (x112_2_0) lf (f112_0_c x252 x253 x254)) = (fun (x252 : Int) (x253 : Int) (x254 : List T) => f112_0 c lf lf x252 x253 x254) := by funext x252 x253 x254; exact f112_0_eq c lf lf x252 x253 x254
  rw [e0]; rfl
/-- loop.example/g00285/laws.markAttrS, the loop at region 2. -/
def f113_0_s (c : Orc) (lf : Nat) (L : Int → Int → List T → Option (List T)) (x267 : Int) (x268 : Int) (x269 : List T) : Option (List T) :=
  bif iLt x268 (x269.length : Int) then
    (c 130 [T.i .i64 x267]).bind fun r270 =>
    bif inR x268 x269.length then
    (c 130 [T.i .i64 (IntKind.wrap .i64 (x267 + 1))]).bind fun r271 =>
    bif inR x268 ((x269.set x268.toNat (T.setc (x269.getD x268.toNat T.u) 0 (T.s (asS (nth r270 0))))).length) then
    L (IntKind.wrap .i64 ((IntKind.wrap .i64 (x267 + 1)) + 1)) (IntKind.wrap .i64 (x268 + 1)) ((x269.set x268.toNat (T.setc (x269.getD x268.toNat T.u) 0 (T.s (asS (nth r270 0))))).set x268.toNat (T.setc ((x269.set x268.toNat (T.setc (x269.getD x268.toNat T.u) 0 (T.s (asS (nth r270 0))))).getD x268.toNat T.u) 1 (T.s (asS (nth r271 0)))))
    else none
    else none
  else
    some [T.i .i64 0, T.i .i64 x267, T.sl x269]
def f113_0_c (x267 : Int) (x268 : Int) (x269 : List T) : CSt := ⟨[.rf 0 [] 0 none, .i .i64 x267, .i .i64 x268], [.row true [.s, .s] x269 0 false, .dead]⟩
theorem f113_0_round (c : Orc) (lf : Nat) (L : CSt → Option (List T)) (x267 : Int) (x268 : Int) (x269 : List T) :
    roundK c env lf 6 fi113 2 2 [] [0, 1, 5] (x113_2_0) L (f113_0_c x267 x268 x269) = f113_0_s c lf (fun x267 x268 x269 => L (f113_0_c x267 x268 x269)) x267 x268 x269 := by kernel_rfl
def f113_0 (c : Orc) (lf : Nat) : Nat → Int → Int → List T → Option (List T)
  | 0 => fun _ _ _ => none
  | n + 1 => fun x267 x268 x269 => f113_0_s c lf (f113_0 c lf n) x267 x268 x269
theorem f113_0_u (c : Orc) (lf : Nat) (n : Nat) (x267 : Int) (x268 : Int) (x269 : List T) : f113_0 c lf (n + 1) x267 x268 x269 = f113_0_s c lf (f113_0 c lf n) x267 x268 x269 := rfl
theorem f113_0_eq (c : Orc) (lf : Nat) (n : Nat) (x267 : Int) (x268 : Int) (x269 : List T) :
    lpK c env lf 6 fi113 2 2 [] [0, 1, 5] (x113_2_0) n (f113_0_c x267 x268 x269) = f113_0 c lf n x267 x268 x269 := by
  induction n generalizing x267 x268 x269 with
  | zero => rfl
  | succ n ih =>
    refine (f113_0_round c lf _ x267 x268 x269).trans ?_
    have e : (fun x267 x268 x269 => lpK c env lf 6 fi113 2 2 [] [0, 1, 5] (x113_2_0) n (f113_0_c x267 x268 x269)) = f113_0 c lf n := by funext x267 x268 x269; exact ih x267 x268 x269
    show f113_0_s c lf (fun x267 x268 x269 => lpK c env lf 6 fi113 2 2 [] [0, 1, 5] (x113_2_0) n (f113_0_c x267 x268 x269)) x267 x268 x269 = _
    rw [e]; rfl
/-- loop.example/g00285/laws.markAttrS -/
def f113_t (c : Orc) (lf : Nat) (lp0 : Int → Int → List T → Option (List T)) (l0 : List T) (n1 : Int) : Option (List T) :=
  (lp0 n1 0 l0).bind fun r272 =>
  some [T.i .i64 (asI (nth r272 1)), T.sl (asL (nth r272 2))]
def f113 (c : Orc) (lf : Nat) (l0 : List T) (n1 : Int) : Option (List T) := f113_t c lf (fun (x267 : Int) (x268 : Int) (x269 : List T) => f113_0 c lf lf x267 x268 x269) l0 n1
theorem f113_raw (c : Orc) (lf : Nat) (l0 : List T) (n1 : Int) : funK c env lf 6 fi113 [.sl l0, .i .i64 n1] = f113_t c lf (fun (x267 : Int) (x268 : Int) (x269 : List T) => lpK c env lf 6 fi113 2 2 [] [0, 1, 5] (x113_2_0) lf (f113_0_c x267 x268 x269)) l0 n1 := by kernel_rfl
theorem f113_eq (c : Orc) (lf : Nat) (l0 : List T) (n1 : Int) : funK c env lf 6 fi113 [.sl l0, .i .i64 n1] = f113 c lf l0 n1 := by
  refine (f113_raw c lf l0 n1).trans ?_
  have e0 : (fun (x267 : Int) (x268 : Int) (x269 : List T) => lpK c env lf 6 fi113 2 2 [] [0, 1, 5] (x113_2_0) lf (f113_0_c x267 x268 x269)) = (fun (x267 : Int) (x268 : Int) (x269 : List T) => f113_0 c lf lf x267 x268 x269) := by funext x267 x268 x269; exact f113_0_eq c lf lf x267 x268 x269
  rw [e0]; rfl
/-- loop.example/g00285/laws.markInode -/
def f56_t (c : Orc) (lf : Nat) (n0_0 : Int) (n0_1 : Int) (n0_2 : Int) (l0_3 : List T) (l0_4 : List T) (l0_5 : List T) (n1 : Int) : Option (List T) :=
  (c 30 [T.sl l0_3, T.i .i64 n1]).bind fun r273 =>
  (c 112 [T.sl l0_4, T.i .i64 (asI (nth r273 0))]).bind fun r274 =>
  (c 113 [T.sl l0_5, T.i .i64 (asI (nth r274 0))]).bind fun r275 =>
  some [T.i .i64 (asI (nth r275 0)), T.sl (asL (nth r273 1)), T.sl (asL (nth r274 1)), T.sl (asL (nth r275 1))]
def f56 (c : Orc) (lf : Nat) (n0_0 : Int) (n0_1 : Int) (n0_2 : Int) (l0_3 : List T) (l0_4 : List T) (l0_5 : List T) (n1 : Int) : Option (List T) := f56_t c lf n0_0 n0_1 n0_2 l0_3 l0_4 l0_5 n1
theorem f56_raw (c : Orc) (lf : Nat) (n0_0 : Int) (n0_1 : Int) (n0_2 : Int) (l0_3 : List T) (l0_4 : List T) (l0_5 : List T) (n1 : Int) : funK c env lf 6 fi56 [.st [.i .i64 n0_0, .i .i64 n0_1, .i .i64 n0_2, .sl l0_3, .sl l0_4, .sl l0_5], .i .i64 n1] = f56_t c lf n0_0 n0_1 n0_2 l0_3 l0_4 l0_5 n1 := by kernel_rfl
theorem f56_eq (c : Orc) (lf : Nat) (n0_0 : Int) (n0_1 : Int) (n0_2 : Int) (l0_3 : List T) (l0_4 : List T) (l0_5 : List T) (n1 : Int) : funK c env lf 6 fi56 [.st [.i .i64 n0_0, .i .i64 n0_1, .i .i64 n0_2, .sl l0_3, .sl l0_4, .sl l0_5], .i .i64 n1] = f56 c lf n0_0 n0_1 n0_2 l0_3 l0_4 l0_5 n1 := by
  refine (f56_raw c lf n0_0 n0_1 n0_2 l0_3 l0_4 l0_5 n1).trans ?_
  rfl
/-- loop.example/g00285/laws.heldByteS, the loop at region 2. -/
def f31_0_s (c : Orc) (lf : Nat) (l0 : List T) (L : Int → Int → Option (List T)) (x279 : Int) (x280 : Int) : Option (List T) :=
  bif iLt x280 (l0.length : Int) then
    bif inR x280 l0.length then
    bif (asI (l0.getD x280.toNat T.u)) != (IntKind.wrap .u8 x279) then
      some [T.i .i64 0, T.i .i64 (-1)]
    else
      L (IntKind.wrap .i64 (x279 + 1)) (IntKind.wrap .i64 (x280 + 1))
    else none
  else
    some [T.i .i64 1, T.i .i64 x279]
def f31_0_c (l0 : List T) (x279 : Int) (x280 : Int) : CSt := ⟨[.ro 0 false [.i .u8] l0, .i .i64 x279, .i .i64 x280], [.dead, .dead]⟩
theorem f31_0_round (c : Orc) (lf : Nat) (l0 : List T) (L : CSt → Option (List T)) (x279 : Int) (x280 : Int) :
    roundK c env lf 6 fi31 2 2 [] [0, 1, 5] (x31_2_0) L (f31_0_c l0 x279 x280) = f31_0_s c lf l0 (fun x279 x280 => L (f31_0_c l0 x279 x280)) x279 x280 := by kernel_rfl
def f31_0 (c : Orc) (lf : Nat) (l0 : List T) : Nat → Int → Int → Option (List T)
  | 0 => fun _ _ => none
  | n + 1 => fun x279 x280 => f31_0_s c lf l0 (f31_0 c lf l0 n) x279 x280
theorem f31_0_u (c : Orc) (lf : Nat) (l0 : List T) (n : Nat) (x279 : Int) (x280 : Int) : f31_0 c lf l0 (n + 1) x279 x280 = f31_0_s c lf l0 (f31_0 c lf l0 n) x279 x280 := rfl
theorem f31_0_eq (c : Orc) (lf : Nat) (l0 : List T) (n : Nat) (x279 : Int) (x280 : Int) :
    lpK c env lf 6 fi31 2 2 [] [0, 1, 5] (x31_2_0) n (f31_0_c l0 x279 x280) = f31_0 c lf l0 n x279 x280 := by
  induction n generalizing x279 x280 with
  | zero => rfl
  | succ n ih =>
    refine (f31_0_round c lf l0 _ x279 x280).trans ?_
    have e : (fun x279 x280 => lpK c env lf 6 fi31 2 2 [] [0, 1, 5] (x31_2_0) n (f31_0_c l0 x279 x280)) = f31_0 c lf l0 n := by funext x279 x280; exact ih x279 x280
    show f31_0_s c lf l0 (fun x279 x280 => lpK c env lf 6 fi31 2 2 [] [0, 1, 5] (x31_2_0) n (f31_0_c l0 x279 x280)) x279 x280 = _
    rw [e]; rfl
/-- loop.example/g00285/laws.heldByteS -/
def f31_t (c : Orc) (lf : Nat) (lp0 : List T → Int → Int → Option (List T)) (l0 : List T) (n1 : Int) : Option (List T) :=
  (lp0 l0 n1 0).bind fun r281 =>
  bif asI (nth r281 0) == 0 then
    some [T.i .i64 (asI (nth r281 1))]
  else
    some [T.i .i64 (asI (nth r281 1))]
def f31 (c : Orc) (lf : Nat) (l0 : List T) (n1 : Int) : Option (List T) := f31_t c lf (fun (l0 : List T) (x279 : Int) (x280 : Int) => f31_0 c lf l0 lf x279 x280) l0 n1
theorem f31_raw (c : Orc) (lf : Nat) (l0 : List T) (n1 : Int) : funK c env lf 6 fi31 [.sl l0, .i .i64 n1] = f31_t c lf (fun (l0 : List T) (x279 : Int) (x280 : Int) => lpK c env lf 6 fi31 2 2 [] [0, 1, 5] (x31_2_0) lf (f31_0_c l0 x279 x280)) l0 n1 := by kernel_rfl
theorem f31_eq (c : Orc) (lf : Nat) (l0 : List T) (n1 : Int) : funK c env lf 6 fi31 [.sl l0, .i .i64 n1] = f31 c lf l0 n1 := by
  refine (f31_raw c lf l0 n1).trans ?_
  have e0 : (fun (l0 : List T) (x279 : Int) (x280 : Int) => lpK c env lf 6 fi31 2 2 [] [0, 1, 5] (x31_2_0) lf (f31_0_c l0 x279 x280)) = (fun (l0 : List T) (x279 : Int) (x280 : Int) => f31_0 c lf l0 lf x279 x280) := by funext l0 x279 x280; exact f31_0_eq c lf l0 lf x279 x280
  rw [e0]; rfl
/-- loop.example/g00285/laws.heldEntS, the loop at region 2. -/
def f114_0_s (c : Orc) (lf : Nat) (l0 : List T) (L : Int → Int → Option (List T)) (x288 : Int) (x289 : Int) : Option (List T) :=
  bif iLt x289 (l0.length : Int) then
    bif inR x289 l0.length then
    (c 130 [T.i .i64 x288]).bind fun r290 =>
    bif !((asS (T.cell (l0.getD x289.toNat T.u) 0)).toList == (asS (nth r290 0)).toList) then
      some [T.i .i64 0, T.i .i64 (-1)]
    else
      bif inR x289 l0.length then
      bif (asI (T.cell (l0.getD x289.toNat T.u) 1)) != (IntKind.wrap .i64 (x288 + 1)) then
        some [T.i .i64 0, T.i .i64 (-1)]
      else
        L (IntKind.wrap .i64 ((IntKind.wrap .i64 (x288 + 1)) + 1)) (IntKind.wrap .i64 (x289 + 1))
      else none
    else none
  else
    some [T.i .i64 1, T.i .i64 x288]
def f114_0_c (l0 : List T) (x288 : Int) (x289 : Int) : CSt := ⟨[.ro 0 true [.s, .i .i64] l0, .i .i64 x288, .i .i64 x289], [.dead, .dead]⟩
theorem f114_0_round (c : Orc) (lf : Nat) (l0 : List T) (L : CSt → Option (List T)) (x288 : Int) (x289 : Int) :
    roundK c env lf 6 fi114 2 2 [] [0, 1, 5] (x114_2_0) L (f114_0_c l0 x288 x289) = f114_0_s c lf l0 (fun x288 x289 => L (f114_0_c l0 x288 x289)) x288 x289 := by kernel_rfl
def f114_0 (c : Orc) (lf : Nat) (l0 : List T) : Nat → Int → Int → Option (List T)
  | 0 => fun _ _ => none
  | n + 1 => fun x288 x289 => f114_0_s c lf l0 (f114_0 c lf l0 n) x288 x289
theorem f114_0_u (c : Orc) (lf : Nat) (l0 : List T) (n : Nat) (x288 : Int) (x289 : Int) : f114_0 c lf l0 (n + 1) x288 x289 = f114_0_s c lf l0 (f114_0 c lf l0 n) x288 x289 := rfl
theorem f114_0_eq (c : Orc) (lf : Nat) (l0 : List T) (n : Nat) (x288 : Int) (x289 : Int) :
    lpK c env lf 6 fi114 2 2 [] [0, 1, 5] (x114_2_0) n (f114_0_c l0 x288 x289) = f114_0 c lf l0 n x288 x289 := by
  induction n generalizing x288 x289 with
  | zero => rfl
  | succ n ih =>
    refine (f114_0_round c lf l0 _ x288 x289).trans ?_
    have e : (fun x288 x289 => lpK c env lf 6 fi114 2 2 [] [0, 1, 5] (x114_2_0) n (f114_0_c l0 x288 x289)) = f114_0 c lf l0 n := by funext x288 x289; exact ih x288 x289
    show f114_0_s c lf l0 (fun x288 x289 => lpK c env lf 6 fi114 2 2 [] [0, 1, 5] (x114_2_0) n (f114_0_c l0 x288 x289)) x288 x289 = _
    rw [e]; rfl
/-- loop.example/g00285/laws.heldEntS -/
def f114_t (c : Orc) (lf : Nat) (lp0 : List T → Int → Int → Option (List T)) (l0 : List T) (n1 : Int) : Option (List T) :=
  (lp0 l0 n1 0).bind fun r291 =>
  bif asI (nth r291 0) == 0 then
    some [T.i .i64 (asI (nth r291 1))]
  else
    some [T.i .i64 (asI (nth r291 1))]
def f114 (c : Orc) (lf : Nat) (l0 : List T) (n1 : Int) : Option (List T) := f114_t c lf (fun (l0 : List T) (x288 : Int) (x289 : Int) => f114_0 c lf l0 lf x288 x289) l0 n1
theorem f114_raw (c : Orc) (lf : Nat) (l0 : List T) (n1 : Int) : funK c env lf 6 fi114 [.sl l0, .i .i64 n1] = f114_t c lf (fun (l0 : List T) (x288 : Int) (x289 : Int) => lpK c env lf 6 fi114 2 2 [] [0, 1, 5] (x114_2_0) lf (f114_0_c l0 x288 x289)) l0 n1 := by kernel_rfl
theorem f114_eq (c : Orc) (lf : Nat) (l0 : List T) (n1 : Int) : funK c env lf 6 fi114 [.sl l0, .i .i64 n1] = f114 c lf l0 n1 := by
  refine (f114_raw c lf l0 n1).trans ?_
  have e0 : (fun (l0 : List T) (x288 : Int) (x289 : Int) => lpK c env lf 6 fi114 2 2 [] [0, 1, 5] (x114_2_0) lf (f114_0_c l0 x288 x289)) = (fun (l0 : List T) (x288 : Int) (x289 : Int) => f114_0 c lf l0 lf x288 x289) := by funext l0 x288 x289; exact f114_0_eq c lf l0 lf x288 x289
  rw [e0]; rfl
/-- loop.example/g00285/laws.heldAttrS, the loop at region 2. -/
def f115_0_s (c : Orc) (lf : Nat) (l0 : List T) (L : Int → Int → Option (List T)) (x301 : Int) (x302 : Int) : Option (List T) :=
  bif iLt x302 (l0.length : Int) then
    bif inR x302 l0.length then
    (c 130 [T.i .i64 x301]).bind fun r303 =>
    bif !((asS (T.cell (l0.getD x302.toNat T.u) 0)).toList == (asS (nth r303 0)).toList) then
      some [T.i .i64 0, T.i .i64 (-1)]
    else
      bif inR x302 l0.length then
      (c 130 [T.i .i64 (IntKind.wrap .i64 (x301 + 1))]).bind fun r304 =>
      bif !((asS (T.cell (l0.getD x302.toNat T.u) 1)).toList == (asS (nth r304 0)).toList) then
        some [T.i .i64 0, T.i .i64 (-1)]
      else
        L (IntKind.wrap .i64 ((IntKind.wrap .i64 (x301 + 1)) + 1)) (IntKind.wrap .i64 (x302 + 1))
      else none
    else none
  else
    some [T.i .i64 1, T.i .i64 x301]
def f115_0_c (l0 : List T) (x301 : Int) (x302 : Int) : CSt := ⟨[.ro 0 true [.s, .s] l0, .i .i64 x301, .i .i64 x302], [.dead, .dead]⟩
theorem f115_0_round (c : Orc) (lf : Nat) (l0 : List T) (L : CSt → Option (List T)) (x301 : Int) (x302 : Int) :
    roundK c env lf 6 fi115 2 2 [] [0, 1, 5] (x115_2_0) L (f115_0_c l0 x301 x302) = f115_0_s c lf l0 (fun x301 x302 => L (f115_0_c l0 x301 x302)) x301 x302 := by kernel_rfl
def f115_0 (c : Orc) (lf : Nat) (l0 : List T) : Nat → Int → Int → Option (List T)
  | 0 => fun _ _ => none
  | n + 1 => fun x301 x302 => f115_0_s c lf l0 (f115_0 c lf l0 n) x301 x302
theorem f115_0_u (c : Orc) (lf : Nat) (l0 : List T) (n : Nat) (x301 : Int) (x302 : Int) : f115_0 c lf l0 (n + 1) x301 x302 = f115_0_s c lf l0 (f115_0 c lf l0 n) x301 x302 := rfl
theorem f115_0_eq (c : Orc) (lf : Nat) (l0 : List T) (n : Nat) (x301 : Int) (x302 : Int) :
    lpK c env lf 6 fi115 2 2 [] [0, 1, 5] (x115_2_0) n (f115_0_c l0 x301 x302) = f115_0 c lf l0 n x301 x302 := by
  induction n generalizing x301 x302 with
  | zero => rfl
  | succ n ih =>
    refine (f115_0_round c lf l0 _ x301 x302).trans ?_
    have e : (fun x301 x302 => lpK c env lf 6 fi115 2 2 [] [0, 1, 5] (x115_2_0) n (f115_0_c l0 x301 x302)) = f115_0 c lf l0 n := by funext x301 x302; exact ih x301 x302
    show f115_0_s c lf l0 (fun x301 x302 => lpK c env lf 6 fi115 2 2 [] [0, 1, 5] (x115_2_0) n (f115_0_c l0 x301 x302)) x301 x302 = _
    rw [e]; rfl
/-- loop.example/g00285/laws.heldAttrS -/
def f115_t (c : Orc) (lf : Nat) (lp0 : List T → Int → Int → Option (List T)) (l0 : List T) (n1 : Int) : Option (List T) :=
  (lp0 l0 n1 0).bind fun r305 =>
  bif asI (nth r305 0) == 0 then
    some [T.i .i64 (asI (nth r305 1))]
  else
    some [T.i .i64 (asI (nth r305 1))]
def f115 (c : Orc) (lf : Nat) (l0 : List T) (n1 : Int) : Option (List T) := f115_t c lf (fun (l0 : List T) (x301 : Int) (x302 : Int) => f115_0 c lf l0 lf x301 x302) l0 n1
theorem f115_raw (c : Orc) (lf : Nat) (l0 : List T) (n1 : Int) : funK c env lf 6 fi115 [.sl l0, .i .i64 n1] = f115_t c lf (fun (l0 : List T) (x301 : Int) (x302 : Int) => lpK c env lf 6 fi115 2 2 [] [0, 1, 5] (x115_2_0) lf (f115_0_c l0 x301 x302)) l0 n1 := by kernel_rfl
theorem f115_eq (c : Orc) (lf : Nat) (l0 : List T) (n1 : Int) : funK c env lf 6 fi115 [.sl l0, .i .i64 n1] = f115 c lf l0 n1 := by
  refine (f115_raw c lf l0 n1).trans ?_
  have e0 : (fun (l0 : List T) (x301 : Int) (x302 : Int) => lpK c env lf 6 fi115 2 2 [] [0, 1, 5] (x115_2_0) lf (f115_0_c l0 x301 x302)) = (fun (l0 : List T) (x301 : Int) (x302 : Int) => f115_0 c lf l0 lf x301 x302) := by funext l0 x301 x302; exact f115_0_eq c lf l0 lf x301 x302
  rw [e0]; rfl
/-- loop.example/g00285/laws.heldInode -/
def f57_t (c : Orc) (lf : Nat) (n0_0 : Int) (n0_1 : Int) (n0_2 : Int) (l0_3 : List T) (l0_4 : List T) (l0_5 : List T) (n1 : Int) : Option (List T) :=
  (c 31 [T.sl l0_3, T.i .i64 n1]).bind fun r306 =>
  bif iLt (asI (nth r306 0)) 0 then
    some [T.i .i64 (-1)]
  else
    (c 114 [T.sl l0_4, T.i .i64 (asI (nth r306 0))]).bind fun r307 =>
    bif iLt (asI (nth r307 0)) 0 then
      some [T.i .i64 (-1)]
    else
      (c 115 [T.sl l0_5, T.i .i64 (asI (nth r307 0))]).bind fun r308 =>
      bif iLt (asI (nth r308 0)) 0 then
        some [T.i .i64 (-1)]
      else
        some [T.i .i64 (asI (nth r308 0))]
def f57 (c : Orc) (lf : Nat) (n0_0 : Int) (n0_1 : Int) (n0_2 : Int) (l0_3 : List T) (l0_4 : List T) (l0_5 : List T) (n1 : Int) : Option (List T) := f57_t c lf n0_0 n0_1 n0_2 l0_3 l0_4 l0_5 n1
theorem f57_raw (c : Orc) (lf : Nat) (n0_0 : Int) (n0_1 : Int) (n0_2 : Int) (l0_3 : List T) (l0_4 : List T) (l0_5 : List T) (n1 : Int) : funK c env lf 6 fi57 [.st [.i .i64 n0_0, .i .i64 n0_1, .i .i64 n0_2, .sl l0_3, .sl l0_4, .sl l0_5], .i .i64 n1] = f57_t c lf n0_0 n0_1 n0_2 l0_3 l0_4 l0_5 n1 := by kernel_rfl
theorem f57_eq (c : Orc) (lf : Nat) (n0_0 : Int) (n0_1 : Int) (n0_2 : Int) (l0_3 : List T) (l0_4 : List T) (l0_5 : List T) (n1 : Int) : funK c env lf 6 fi57 [.st [.i .i64 n0_0, .i .i64 n0_1, .i .i64 n0_2, .sl l0_3, .sl l0_4, .sl l0_5], .i .i64 n1] = f57 c lf n0_0 n0_1 n0_2 l0_3 l0_4 l0_5 n1 := by
  refine (f57_raw c lf n0_0 n0_1 n0_2 l0_3 l0_4 l0_5 n1).trans ?_
  rfl
/-- loop.example/g00285/laws.FnExactGetInode -/
def f10_t (c : Orc) (lf : Nat) (l0 : List T) : Option (List T) :=
  bif iLt 1048576 (l0.length : Int) then
    some [T.b true]
  else
    (c 45 [T.sl l0]).bind fun r309 =>
    (c 54 [T.sl (asL (nth r309 0))]).bind fun r310 =>
    (c 45 [T.sl l0]).bind fun r311 =>
    (c 36 [T.sl (asL (nth r311 0))]).bind fun r312 =>
    (c 55 [T.st [T.i .i64 (asI (T.cell (nth r312 0) 0)), T.i .i64 (asI (T.cell (nth r312 0) 1)), T.i .i64 (asI (T.cell (nth r312 0) 2)), T.sl (asL (T.cell (nth r312 0) 3)), T.sl (asL (T.cell (nth r312 0) 4)), T.sl (asL (T.cell (nth r312 0) 5))], T.st [T.i .i64 (asI (T.cell (nth r310 0) 0)), T.i .i64 (asI (T.cell (nth r310 0) 1)), T.i .i64 (asI (T.cell (nth r310 0) 2)), T.sl (asL (T.cell (nth r310 0) 3)), T.sl (asL (T.cell (nth r310 0) 4)), T.sl (asL (T.cell (nth r310 0) 5))]]).bind fun r313 =>
    bif !(asB (nth r313 0)) then
      some [T.b false]
    else
      bif !((asB (nth r312 1)) == (asB (nth r310 1))) then
        some [T.b false]
      else
        (c 45 [T.sl l0]).bind fun r314 =>
        (c 27 [T.sl (asL (nth r311 0)), T.sl (asL (nth r314 0))]).bind fun r315 =>
        bif !(asB (nth r315 0)) then
          some [T.b false]
        else
          (c 30 [T.sl (asL (nth r311 0)), T.i .i64 1]).bind fun r316 =>
          bif iLt (asI (nth r316 0)) 0 then
            some [T.b false]
          else
            (c 55 [T.st [T.i .i64 (asI (T.cell (nth r312 0) 0)), T.i .i64 (asI (T.cell (nth r312 0) 1)), T.i .i64 (asI (T.cell (nth r312 0) 2)), T.sl (asL (T.cell (nth r312 0) 3)), T.sl (asL (T.cell (nth r312 0) 4)), T.sl (asL (T.cell (nth r312 0) 5))], T.st [T.i .i64 (asI (T.cell (nth r310 0) 0)), T.i .i64 (asI (T.cell (nth r310 0) 1)), T.i .i64 (asI (T.cell (nth r310 0) 2)), T.sl (asL (T.cell (nth r310 0) 3)), T.sl (asL (T.cell (nth r310 0) 4)), T.sl (asL (T.cell (nth r310 0) 5))]]).bind fun r317 =>
            bif !(asB (nth r317 0)) then
              some [T.b false]
            else
              bif !((asB (nth r312 1)) == (asB (nth r310 1))) then
                some [T.b false]
              else
                (c 56 [T.st [T.i .i64 (asI (T.cell (nth r312 0) 0)), T.i .i64 (asI (T.cell (nth r312 0) 1)), T.i .i64 (asI (T.cell (nth r312 0) 2)), T.sl (asL (T.cell (nth r312 0) 3)), T.sl (asL (T.cell (nth r312 0) 4)), T.sl (asL (T.cell (nth r312 0) 5))], T.i .i64 1]).bind fun r318 =>
                (c 57 [T.st [T.i .i64 (asI (T.cell (nth r312 0) 0)), T.i .i64 (asI (T.cell (nth r312 0) 1)), T.i .i64 (asI (T.cell (nth r312 0) 2)), T.sl (asL (nth r318 1)), T.sl (asL (nth r318 2)), T.sl (asL (nth r318 3))], T.i .i64 1]).bind fun r319 =>
                bif iLt (asI (nth r319 0)) 0 then
                  some [T.b false]
                else
                  bif (asI (nth r319 0)) != (asI (nth r318 0)) then
                    some [T.b false]
                  else
                    (c 45 [T.sl l0]).bind fun r320 =>
                    (c 36 [T.sl (asL (nth r320 0))]).bind fun r321 =>
                    (c 55 [T.st [T.i .i64 (asI (T.cell (nth r321 0) 0)), T.i .i64 (asI (T.cell (nth r321 0) 1)), T.i .i64 (asI (T.cell (nth r321 0) 2)), T.sl (asL (T.cell (nth r321 0) 3)), T.sl (asL (T.cell (nth r321 0) 4)), T.sl (asL (T.cell (nth r321 0) 5))], T.st [T.i .i64 (asI (T.cell (nth r310 0) 0)), T.i .i64 (asI (T.cell (nth r310 0) 1)), T.i .i64 (asI (T.cell (nth r310 0) 2)), T.sl (asL (T.cell (nth r310 0) 3)), T.sl (asL (T.cell (nth r310 0) 4)), T.sl (asL (T.cell (nth r310 0) 5))]]).bind fun r322 =>
                    bif !(asB (nth r322 0)) then
                      some [T.b false]
                    else
                      bif !((asB (nth r321 1)) == (asB (nth r310 1))) then
                        some [T.b false]
                      else
                        (c 57 [T.st [T.i .i64 (asI (T.cell (nth r312 0) 0)), T.i .i64 (asI (T.cell (nth r312 0) 1)), T.i .i64 (asI (T.cell (nth r312 0) 2)), T.sl (asL (nth r318 1)), T.sl (asL (nth r318 2)), T.sl (asL (nth r318 3))], T.i .i64 1]).bind fun r323 =>
                        bif iLt (asI (nth r323 0)) 0 then
                          some [T.b false]
                        else
                          bif (asI (nth r323 0)) != (asI (nth r318 0)) then
                            some [T.b false]
                          else
                            some [T.b true]
def f10 (c : Orc) (lf : Nat) (l0 : List T) : Option (List T) := f10_t c lf l0
theorem f10_raw (c : Orc) (lf : Nat) (l0 : List T) : funK c env lf 6 fi10 [.sl l0] = f10_t c lf l0 := by kernel_rfl
theorem f10_eq (c : Orc) (lf : Nat) (l0 : List T) : funK c env lf 6 fi10 [.sl l0] = f10 c lf l0 := by
  refine (f10_raw c lf l0).trans ?_
  rfl
end Go.Proofs.Ytockabaoaneplaa.T
