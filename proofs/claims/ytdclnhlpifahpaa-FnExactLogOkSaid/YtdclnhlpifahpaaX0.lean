/- What functions of the law FnExactLogOk come to, in trees; no condition. -/
import Derived.Test.YtdclnhlpifahpaaRows
import Derived.Test.YtdclnhlpifahpaaV4
import Derived.KernelRfl
set_option linter.unusedVariables false
set_option linter.constructorNameAsVariable false
set_option linter.unusedSimpArgs false
set_option linter.unnecessarySimpa false
namespace Go.Proofs.Ytdclnhlpifahpaa.T
open Go Go.Proofs.YtdclnhlpifahpaaV
def tyTab : List (Nat × Ti) := [
  (3, ⟨false, [.i .i64], .o⟩),
  (4, ⟨false, [.b], .o⟩),
  (5, ⟨false, [.i .u8], .o⟩),
  (9, ⟨false, [.s], .o⟩),
  (35, ⟨false, [.sl true [.sl true [.b, .sl false [.i .u8]], .i .i64, .b]], .sl 269⟩),
  (37, ⟨true, [.sl true [.sl true [.b, .sl false [.i .u8]], .i .i64, .b]], .st [(0, 35)]⟩),
  (38, ⟨false, [.sl true [.i .i64, .i .i64, .i .i64]], .sl 221⟩),
  (40, ⟨true, [.sl true [.sl true [.b, .sl false [.i .u8]], .i .i64, .b], .i .i64, .sl true [.i .i64, .i .i64, .i .i64], .b], .st [(0, 37), (1, 3), (2, 38), (3, 4)]⟩),
  (42, ⟨true, [.sl true [.sl true [.b, .sl false [.i .u8]], .i .i64, .b], .i .i64, .sl true [.i .i64, .i .i64, .i .i64], .b, .i .i64], .st [(0, 40), (4, 3)]⟩),
  (45, ⟨false, [.sl true [.sl true [.b, .sl false [.i .u8]], .i .i64, .b]], .sl 137⟩),
  (47, ⟨true, [.sl true [.sl true [.b, .sl false [.i .u8]], .i .i64, .b]], .st [(0, 45)]⟩),
  (48, ⟨false, [.sl true [.i .i64, .i .i64, .i .i64]], .sl 76⟩),
  (50, ⟨true, [.sl true [.sl true [.b, .sl false [.i .u8]], .i .i64, .b], .i .i64, .sl true [.i .i64, .i .i64, .i .i64], .b], .st [(0, 47), (1, 3), (2, 48), (3, 4)]⟩),
  (52, ⟨true, [.sl true [.sl true [.b, .sl false [.i .u8]], .i .i64, .b], .i .i64, .sl true [.i .i64, .i .i64, .i .i64], .b, .i .i64], .st [(0, 50), (4, 3)]⟩),
  (56, ⟨false, [.sl false [.i .u8]], .sl 5⟩),
  (58, ⟨true, [.i .i64, .i .i64, .sl false [.i .u8]], .st [(0, 3), (1, 3), (2, 56)]⟩),
  (76, ⟨true, [.i .i64, .i .i64, .i .i64], .st [(0, 3), (1, 3), (2, 3)]⟩),
  (120, ⟨false, [.o], .o⟩),
  (135, ⟨false, [.sl true [.b, .sl false [.i .u8]]], .sl 142⟩),
  (137, ⟨true, [.sl true [.b, .sl false [.i .u8]], .i .i64, .b], .st [(0, 135), (1, 3), (2, 4)]⟩),
  (142, ⟨true, [.b, .sl false [.i .u8]], .st [(0, 4), (1, 56)]⟩),
  (172, ⟨false, [.i .u64], .o⟩),
  (173, ⟨false, [.o], .o⟩),
  (175, ⟨true, [.sl false [.i .u8], .i .i64, .b], .st [(0, 56), (1, 3), (2, 4)]⟩),
  (221, ⟨true, [.i .i64, .i .i64, .i .i64], .st [(0, 3), (1, 3), (2, 3)]⟩),
  (229, ⟨false, [.o], .o⟩),
  (231, ⟨true, [.sl false [.i .u8], .i .i64, .b], .st [(0, 56), (1, 3), (2, 4)]⟩),
  (237, ⟨false, [.i .u32], .o⟩),
  (267, ⟨false, [.sl true [.b, .sl false [.i .u8]]], .sl 299⟩),
  (269, ⟨true, [.sl true [.b, .sl false [.i .u8]], .i .i64, .b], .st [(0, 267), (1, 3), (2, 4)]⟩),
  (299, ⟨true, [.b, .sl false [.i .u8]], .st [(0, 4), (1, 56)]⟩)]
noncomputable def fi259 : Fi := ⟨Try.f259, [], false, [.ro (.sl false [.i .u8]), .v (.i .i64)], [.v (.i .i64)]⟩
noncomputable def fi252 : Fi := ⟨Try.f252, [], false, [.ag [.v (.b), .ro (.sl false [.i .u8])], .v (.i .i64)], [.v (.i .i64)]⟩
def x242_5_0 : List (Ex × List Nat × CSt) := [(.ret, [4], ⟨[.i .i64 0], [.dead, .dead]⟩), ((.ex 0), [1], ⟨[.i .i64 0], [.dead, .dead]⟩)]
noncomputable def fi242 : Fi := ⟨Try.f242, [⟨5, [0, 1, 5], [], [(⟨[.ro 0 true [.b, .sl false [.i .u8]] [], .i .i64 0, .i .i64 0], [.dead, .dead]⟩, x242_5_0)]⟩], false, [.ro (.sl true [.b, .sl false [.i .u8]]), .v (.i .i64)], [.v (.i .i64)]⟩
noncomputable def fi219 : Fi := ⟨Try.f219, [], false, [.ag [.ro (.sl true [.b, .sl false [.i .u8]]), .v (.i .i64), .v (.b)], .v (.i .i64)], [.v (.i .i64)]⟩
def x175_5_0 : List (Ex × List Nat × CSt) := [(.ret, [4], ⟨[.i .i64 0], [.dead, .dead]⟩), ((.ex 0), [1], ⟨[.i .i64 0], [.dead, .dead]⟩)]
noncomputable def fi175 : Fi := ⟨Try.f175, [⟨5, [0, 1, 5], [], [(⟨[.ro 0 true [.sl true [.b, .sl false [.i .u8]], .i .i64, .b] [], .i .i64 0, .i .i64 0], [.dead, .dead]⟩, x175_5_0)]⟩], false, [.ro (.sl true [.sl true [.b, .sl false [.i .u8]], .i .i64, .b]), .v (.i .i64)], [.v (.i .i64)]⟩
noncomputable def fi122 : Fi := ⟨Try.f122, [], false, [.ag [.ro (.sl true [.sl true [.b, .sl false [.i .u8]], .i .i64, .b])], .v (.i .i64)], [.v (.i .i64)]⟩
noncomputable def fi123 : Fi := ⟨Try.f123, [], false, [.ro (.sl true [.i .i64, .i .i64, .i .i64]), .v (.i .i64)], [.v (.i .i64)]⟩
noncomputable def fi69 : Fi := ⟨Try.f69, [], false, [.ag [.ro (.sl true [.sl true [.b, .sl false [.i .u8]], .i .i64, .b]), .v (.i .i64), .ro (.sl true [.i .i64, .i .i64, .i .i64]), .v (.b)], .v (.i .i64)], [.v (.i .i64)]⟩
noncomputable def fi18 : Fi := ⟨Try.f18, [], false, [.ag [.ro (.sl true [.sl true [.b, .sl false [.i .u8]], .i .i64, .b]), .v (.i .i64), .ro (.sl true [.i .i64, .i .i64, .i .i64]), .v (.b), .v (.i .i64)], .v (.i .i64)], [.v (.i .i64)]⟩
def x47_3_0 : List (Ex × List Nat × CSt) := [((.ex 0), [3], ⟨[.rf 1 [] 0 none], [.dead, .row false [.i .u8] [] 0 false]⟩)]
noncomputable def fi47 : Fi := ⟨Try.f47, [⟨3, [0, 3, 4], [], [(⟨[.ro 0 false [.i .u8] [], .rf 1 [] 0 none, .i .i64 0], [.dead, .row false [.i .u8] [] 0 false]⟩, x47_3_0)]⟩], false, [.ro (.sl false [.i .u8])], [.ow (.sl false [.i .u8])]⟩
noncomputable def fi253 : Fi := ⟨Try.f253, [], false, [.ag [.v (.b), .ro (.sl false [.i .u8])]], [.ag [.v (.b), .ow (.sl false [.i .u8])]]⟩
def x243_3_0 : List (Ex × List Nat × CSt) := [((.ex 0), [3], ⟨[.rf 1 [] 0 none], [.dead, .row true [.b, .sl false [.i .u8]] [] 0 false]⟩)]
noncomputable def fi243 : Fi := ⟨Try.f243, [⟨3, [0, 3, 4], [], [(⟨[.ro 0 true [.b, .sl false [.i .u8]] [], .rf 1 [] 0 none, .i .i64 0], [.dead, .row true [.b, .sl false [.i .u8]] [] 0 false]⟩, x243_3_0)]⟩], false, [.ro (.sl true [.b, .sl false [.i .u8]])], [.ow (.sl true [.b, .sl false [.i .u8]])]⟩
noncomputable def fi220 : Fi := ⟨Try.f220, [], false, [.ag [.ro (.sl true [.b, .sl false [.i .u8]]), .v (.i .i64), .v (.b)]], [.ag [.ow (.sl true [.b, .sl false [.i .u8]]), .v (.i .i64), .v (.b)]]⟩
def x177_3_0 : List (Ex × List Nat × CSt) := [((.ex 0), [3], ⟨[.rf 1 [] 0 none], [.dead, .row true [.sl true [.b, .sl false [.i .u8]], .i .i64, .b] [] 0 false]⟩)]
noncomputable def fi177 : Fi := ⟨Try.f177, [⟨3, [0, 3, 4], [], [(⟨[.ro 0 true [.sl true [.b, .sl false [.i .u8]], .i .i64, .b] [], .rf 1 [] 0 none, .i .i64 0], [.dead, .row true [.sl true [.b, .sl false [.i .u8]], .i .i64, .b] [] 0 false]⟩, x177_3_0)]⟩], false, [.ro (.sl true [.sl true [.b, .sl false [.i .u8]], .i .i64, .b])], [.ow (.sl true [.sl true [.b, .sl false [.i .u8]], .i .i64, .b])]⟩
noncomputable def fi126 : Fi := ⟨Try.f126, [], false, [.ag [.ro (.sl true [.sl true [.b, .sl false [.i .u8]], .i .i64, .b])]], [.ag [.ow (.sl true [.sl true [.b, .sl false [.i .u8]], .i .i64, .b])]]⟩
noncomputable def fi178 : Fi := ⟨Try.f178, [], false, [.ag [.v (.i .i64), .v (.i .i64), .v (.i .i64)]], [.ag [.v (.i .i64), .v (.i .i64), .v (.i .i64)]]⟩
def x127_3_0 : List (Ex × List Nat × CSt) := [((.ex 0), [3], ⟨[.rf 1 [] 0 none], [.dead, .row true [.i .i64, .i .i64, .i .i64] [] 0 false]⟩)]
noncomputable def fi127 : Fi := ⟨Try.f127, [⟨3, [0, 3, 4], [], [(⟨[.ro 0 true [.i .i64, .i .i64, .i .i64] [], .rf 1 [] 0 none, .i .i64 0], [.dead, .row true [.i .i64, .i .i64, .i .i64] [] 0 false]⟩, x127_3_0)]⟩], false, [.ro (.sl true [.i .i64, .i .i64, .i .i64])], [.ow (.sl true [.i .i64, .i .i64, .i .i64])]⟩
noncomputable def fi73 : Fi := ⟨Try.f73, [], false, [.ag [.ro (.sl true [.sl true [.b, .sl false [.i .u8]], .i .i64, .b]), .v (.i .i64), .ro (.sl true [.i .i64, .i .i64, .i .i64]), .v (.b)]], [.ag [.ow (.sl true [.sl true [.b, .sl false [.i .u8]], .i .i64, .b]), .v (.i .i64), .ow (.sl true [.i .i64, .i .i64, .i .i64]), .v (.b)]]⟩
noncomputable def fi20 : Fi := ⟨Try.f20, [], false, [.ag [.ro (.sl true [.sl true [.b, .sl false [.i .u8]], .i .i64, .b]), .v (.i .i64), .ro (.sl true [.i .i64, .i .i64, .i .i64]), .v (.b), .v (.i .i64)]], [.ag [.ow (.sl true [.sl true [.b, .sl false [.i .u8]], .i .i64, .b]), .v (.i .i64), .ow (.sl true [.i .i64, .i .i64, .i .i64]), .v (.b), .v (.i .i64)]]⟩
noncomputable def fi71 : Fi := ⟨Try.f71, [], false, [.v (.i .i64), .v (.i .i64), .v (.i .i64)], [.v (.b)]⟩
def x176_4_0 : List (Ex × List Nat × CSt) := [(.ret, [2], ⟨[.b false], [.dead, .dead, .dead]⟩), ((.ex 0), [], ⟨[], [.dead, .dead, .dead]⟩)]
noncomputable def fi176 : Fi := ⟨Try.f176, [⟨4, [1, 3], [], [(⟨[.bp 3 0, .i .i64 0], [.dead, .dead, .dead, .box [.ro 0 true [.b, .sl false [.i .u8]] [], .i .i64 0, .b false]]⟩, x176_4_0)]⟩], false, [.ag [.ro (.sl true [.b, .sl false [.i .u8]]), .v (.i .i64), .v (.b)]], [.v (.b)]⟩
def x124_2_0 : List (Ex × List Nat × CSt) := [(.ret, [2], ⟨[.b false], [.dead]⟩), ((.ex 0), [1], ⟨[.bp 1 0], [.dead, .box [.ro 0 true [.sl true [.b, .sl false [.i .u8]], .i .i64, .b] []]]⟩)]
noncomputable def fi124 : Fi := ⟨Try.f124, [⟨2, [1, 3], [], [(⟨[.bp 1 0, .i .i64 0], [.dead, .box [.ro 0 true [.sl true [.b, .sl false [.i .u8]], .i .i64, .b] []]]⟩, x124_2_0)]⟩], false, [.ag [.ro (.sl true [.sl true [.b, .sl false [.i .u8]], .i .i64, .b])]], [.v (.b)]⟩
def x125_2_0 : List (Ex × List Nat × CSt) := [(.ret, [2], ⟨[.b false], [.dead]⟩), ((.ex 0), [0], ⟨[.ro 0 true [.i .i64, .i .i64, .i .i64] []], [.dead]⟩)]
noncomputable def fi125 : Fi := ⟨Try.f125, [⟨2, [0, 3], [], [(⟨[.ro 0 true [.i .i64, .i .i64, .i .i64] [], .i .i64 0], [.dead]⟩, x125_2_0)]⟩], false, [.ro (.sl true [.i .i64, .i .i64, .i .i64])], [.v (.b)]⟩
noncomputable def fi70 : Fi := ⟨Try.f70, [], false, [.ag [.ro (.sl true [.sl true [.b, .sl false [.i .u8]], .i .i64, .b]), .v (.i .i64), .ro (.sl true [.i .i64, .i .i64, .i .i64]), .v (.b)]], [.v (.b)]⟩
def x181_3_0 : List (Ex × List Nat × CSt) := [(.ret, [4, 5, 6], ⟨[.i .i64 0, .i .i64 0, .b false], [.dead, .dead]⟩), ((.ex 0), [], ⟨[], [.dead, .dead]⟩)]
noncomputable def fi181 : Fi := ⟨Try.f181, [⟨3, [0, 1, 7, 8], [], [(⟨[.ro 0 false [.i .u8] [], .i .i64 0, .i .i64 0, .i .i64 0], [.dead, .dead]⟩, x181_3_0)]⟩], false, [.ro (.sl false [.i .u8]), .v (.i .i64)], [.v (.i .i64), .v (.i .i64), .v (.b)]⟩
noncomputable def fi131 : Fi := ⟨Try.f131, [], false, [.bx [.ro (.sl false [.i .u8]), .v (.i .i64), .v (.b)]], [.v (.i .i64)]⟩
noncomputable def fi182 : Fi := ⟨Try.f182, [], false, [.ro (.sl false [.i .u8]), .v (.i .i64)], [.v (.s), .v (.i .i64), .v (.b)]⟩
noncomputable def fi132 : Fi := ⟨Try.f132, [], false, [.bx [.ro (.sl false [.i .u8]), .v (.i .i64), .v (.b)]], [.v (.s)]⟩
def x133_3_0 : List (Ex × List Nat × CSt) := [((.ex 0), [3], ⟨[.i .i64 0], [.dead]⟩)]
def x133_7_0 : List (Ex × List Nat × CSt) := [((.ex 2), [0, 3, 4], ⟨[.ro 0 false [.i .u8] [], .i .i64 0, .i .i64 0], [.dead]⟩)]
noncomputable def fi133 : Fi := ⟨Try.f133, [⟨3, [0, 3, 4], [], [(⟨[.ro 0 false [.i .u8] [], .i .i64 0, .i .i64 0], [.dead]⟩, x133_3_0)]⟩, ⟨7, [0, 3, 4, 5], [], [(⟨[.ro 0 false [.i .u8] [], .i .i64 0, .i .i64 0, .i .i64 0], [.dead]⟩, x133_7_0)]⟩], false, [.ro (.sl false [.i .u8])], [.v (.i .i64)]⟩
noncomputable def fi103 : Fi := ⟨Try.f103, [], false, [.ag [.v (.i .i64), .v (.i .i64), .ro (.sl false [.i .u8])]], [.v (.b)]⟩
def x80_6_0 : List (Ex × List Nat × CSt) := [((.ex 0), [0, 2, 4, 5], ⟨[.ro 0 false [.i .u8] [], .bp 1 0, .i .i64 0, .i .i64 0], [.dead, .box [.i .i64 0, .i .i64 0, .rf 2 [] 0 none], .row false [.i .u8] [] 0 false]⟩)]
noncomputable def fi80 : Fi := ⟨Try.f80, [⟨6, [0, 2, 4, 5, 6], [], [(⟨[.ro 0 false [.i .u8] [], .bp 1 0, .i .i64 0, .i .i64 0, .i .i64 0], [.dead, .box [.i .i64 0, .i .i64 0, .rf 2 [] 0 none], .row false [.i .u8] [] 0 false]⟩, x80_6_0)]⟩], false, [.ro (.sl false [.i .u8])], [.ag [.v (.i .i64), .v (.i .i64), .ow (.sl false [.i .u8])], .v (.b)]⟩
def x72_3_0 : List (Ex × List Nat × CSt) := [((.ex 0), [3], ⟨[.i .i64 0], [.dead]⟩)]
def x72_6_0 : List (Ex × List Nat × CSt) := [((.ex 2), [1, 3, 4], ⟨[.bp 1 0, .i .i64 0, .i .i64 0], [.dead, .box [.ro 0 true [.sl true [.b, .sl false [.i .u8]], .i .i64, .b] []]]⟩)]
noncomputable def fi72 : Fi := ⟨Try.f72, [⟨3, [1, 3, 4], [], [(⟨[.bp 1 0, .i .i64 0, .i .i64 0], [.dead, .box [.ro 0 true [.sl true [.b, .sl false [.i .u8]], .i .i64, .b] []]]⟩, x72_3_0)]⟩, ⟨6, [1, 3, 4, 5], [], [(⟨[.bp 1 0, .i .i64 0, .i .i64 0, .i .i64 0], [.dead, .box [.ro 0 true [.sl true [.b, .sl false [.i .u8]], .i .i64, .b] []]]⟩, x72_6_0)]⟩], false, [.ag [.ro (.sl true [.sl true [.b, .sl false [.i .u8]], .i .i64, .b])]], [.v (.i .i64)]⟩
noncomputable def fi19 : Fi := ⟨Try.f19, [], false, [.ag [.ro (.sl true [.sl true [.b, .sl false [.i .u8]], .i .i64, .b]), .v (.i .i64), .ro (.sl true [.i .i64, .i .i64, .i .i64]), .v (.b), .v (.i .i64)]], [.v (.b)]⟩
noncomputable def fi75 : Fi := ⟨Try.f75, [], false, [.v (.i .i64), .v (.i .i64), .v (.i .i64)], [.v (.b)]⟩
def x128_2_0 : List (Ex × List Nat × CSt) := [(.ret, [2], ⟨[.b false], [.dead]⟩), ((.ex 0), [1], ⟨[.bp 1 0], [.dead, .box [.ro 0 true [.sl true [.b, .sl false [.i .u8]], .i .i64, .b] []]]⟩)]
def x128_7_0 : List (Ex × List Nat × CSt) := [(.ret, [2], ⟨[.b false], [.dead]⟩), ((.ex 2), [1, 8, 9, 10], ⟨[.bp 1 0, .ro 0 true [.sl true [.b, .sl false [.i .u8]], .i .i64, .b] [], .i .i64 0, .i .i64 0], [.dead, .box [.ro 0 true [.sl true [.b, .sl false [.i .u8]], .i .i64, .b] []]]⟩)]
noncomputable def fi128 : Fi := ⟨Try.f128, [⟨2, [1, 8, 9, 10], [], [(⟨[.bp 1 0, .ro 0 true [.sl true [.b, .sl false [.i .u8]], .i .i64, .b] [], .i .i64 0, .i .i64 0], [.dead, .box [.ro 0 true [.sl true [.b, .sl false [.i .u8]], .i .i64, .b] []]]⟩, x128_2_0)]⟩, ⟨7, [1, 4, 8, 9, 10, 25, 26, 27], [], [(⟨[.bp 1 0, .bp 2 0, .ro 0 true [.sl true [.b, .sl false [.i .u8]], .i .i64, .b] [], .i .i64 0, .i .i64 0, .ro 0 true [.b, .sl false [.i .u8]] [], .i .i64 0, .i .i64 0], [.dead, .box [.ro 0 true [.sl true [.b, .sl false [.i .u8]], .i .i64, .b] []], .box [.ro 0 true [.b, .sl false [.i .u8]] [], .i .i64 0, .b false]]⟩, x128_7_0)]⟩], false, [.ag [.ro (.sl true [.sl true [.b, .sl false [.i .u8]], .i .i64, .b])]], [.v (.b)]⟩
def x74_2_0 : List (Ex × List Nat × CSt) := [(.ret, [2], ⟨[.b false], [.dead, .dead, .dead, .dead]⟩), ((.ex 0), [1], ⟨[.bp 4 0], [.dead, .dead, .dead, .dead, .box [.ro 0 true [.sl true [.b, .sl false [.i .u8]], .i .i64, .b] [], .i .i64 0, .ro 0 true [.i .i64, .i .i64, .i .i64] [], .b false]]⟩)]
noncomputable def fi74 : Fi := ⟨Try.f74, [⟨2, [1, 6, 7, 8], [], [(⟨[.bp 4 0, .ro 0 true [.i .i64, .i .i64, .i .i64] [], .i .i64 0, .i .i64 0], [.dead, .dead, .dead, .dead, .box [.ro 0 true [.sl true [.b, .sl false [.i .u8]], .i .i64, .b] [], .i .i64 0, .ro 0 true [.i .i64, .i .i64, .i .i64] [], .b false]]⟩, x74_2_0)]⟩], false, [.ag [.ro (.sl true [.sl true [.b, .sl false [.i .u8]], .i .i64, .b]), .v (.i .i64), .ro (.sl true [.i .i64, .i .i64, .i .i64]), .v (.b)]], [.v (.b)]⟩
noncomputable def fi77 : Fi := ⟨Try.f77, [], true, [], []⟩
noncomputable def fi94 : Fi := ⟨Try.f94, [], false, [.ag [.ro (.sl true [.sl true [.b, .sl false [.i .u8]], .i .i64, .b])], .v (.i .i64)], [.v (.b)]⟩
noncomputable def fi147 : Fi := ⟨Try.f147, [], false, [.ro (.sl false [.i .u8])], [.ow (.sl false [.i .u8])]⟩
noncomputable def fi134 : Fi := ⟨Try.f134, [], false, [.ag [.ro (.sl true [.sl true [.b, .sl false [.i .u8]], .i .i64, .b])], .v (.i .i64), .v (.i .i64)], [.ow (.sl false [.i .u8]), .v (.b)]⟩
def x146_3_0 : List (Ex × List Nat × CSt) := [((.ex 0), [3], ⟨[.i .u32 0], [.dead]⟩)]
def x146_7_0 : List (Ex × List Nat × CSt) := [((.ex 2), [3, 7, 8, 9], ⟨[.i .u32 0, .ro 0 false [.i .u8] [], .i .i64 0, .i .i64 0], [.dead]⟩)]
noncomputable def fi146 : Fi := ⟨Try.f146, [⟨3, [3, 7, 8, 9], [], [(⟨[.i .u32 0, .ro 0 false [.i .u8] [], .i .i64 0, .i .i64 0], [.dead]⟩, x146_3_0)]⟩, ⟨7, [3, 7, 8, 9, 17], [], [(⟨[.i .u32 0, .ro 0 false [.i .u8] [], .i .i64 0, .i .i64 0, .i .i64 0], [.dead]⟩, x146_7_0)]⟩], false, [.ro (.sl false [.i .u8])], [.v (.i .i64)]⟩
noncomputable def fi91 : Fi := ⟨Try.f91, [], false, [.ro (.sl false [.i .u8])], [.ow (.sl false [.i .u8])]⟩
noncomputable def fi183 : Fi := ⟨Try.f183, [], false, [.ro (.sl false [.i .u8])], [.ro (.sl false [.i .u8]), .v (.b)]⟩
def x222_6_0 : List (Ex × List Nat × CSt) := [((.ex 0), [], ⟨[], [.dead, .dead]⟩), (.ret, [4, 5, 6], ⟨[.i .i64 0, .i .i64 0, .b false], [.dead, .dead]⟩)]
noncomputable def fi222 : Fi := ⟨Try.f222, [⟨6, [0, 1, 7, 8, 9], [], [(⟨[.ro 0 false [.i .u8] [], .i .i64 0, .i .i64 0, .i .i64 0, .i .i64 0], [.dead, .dead]⟩, x222_6_0)]⟩], false, [.ro (.sl false [.i .u8]), .v (.i .i64)], [.v (.i .i64), .v (.i .i64), .v (.b)]⟩
noncomputable def fi184 : Fi := ⟨Try.f184, [], false, [.bx [.ro (.sl false [.i .u8]), .v (.i .i64), .v (.b)]], [.v (.i .i64)]⟩
noncomputable def fi223 : Fi := ⟨Try.f223, [], false, [.ro (.sl false [.i .u8]), .v (.i .i64)], [.v (.s), .v (.i .i64), .v (.b)]⟩
noncomputable def fi185 : Fi := ⟨Try.f185, [], false, [.bx [.ro (.sl false [.i .u8]), .v (.i .i64), .v (.b)]], [.v (.s)]⟩
noncomputable def fi186 : Fi := ⟨Try.f186, [], false, [.bx [.ro (.sl false [.i .u8]), .v (.i .i64), .v (.b)]], [.v (.b)]⟩
noncomputable def fi89 : Fi := ⟨Try.f89, [], false, [.ag [.v (.i .i64), .v (.i .i64), .ro (.sl false [.i .u8])]], [.v (.b)]⟩
noncomputable def fi135 : Fi := ⟨Try.f135, [], false, [.ro (.sl false [.i .u8])], [.ag [.v (.i .i64), .v (.i .i64), .ow (.sl false [.i .u8])], .v (.b)]⟩
noncomputable def fi81 : Fi := ⟨Try.f81, [], false, [.ag [.ro (.sl true [.sl true [.b, .sl false [.i .u8]], .i .i64, .b]), .v (.i .i64), .ro (.sl true [.i .i64, .i .i64, .i .i64]), .v (.b), .v (.i .i64)], .v (.i .i64)], [.ag [.v (.i .i64), .v (.i .i64), .ow (.sl false [.i .u8])], .v (.b)]⟩
def x76_2_0 : List (Ex × List Nat × CSt) := [((.ex 0), [], ⟨[], [.box [.b false], .box [.ro 0 true [.sl true [.b, .sl false [.i .u8]], .i .i64, .b] [], .i .i64 0, .ro 0 true [.i .i64, .i .i64, .i .i64] [], .b false, .i .i64 0]]⟩)]
noncomputable def fi76 : Fi := ⟨Try.f76, [⟨2, [1, 2, 12, 13], [], [(⟨[.fn 77 [.bp 0 0, .bp 1 0], .bp 2 0, .i .i64 0, .i .i64 0], [.box [.b false], .box [.ro 0 true [.sl true [.b, .sl false [.i .u8]], .i .i64, .b] [], .i .i64 0, .ro 0 true [.i .i64, .i .i64, .i .i64] [], .b false, .i .i64 0], .box [.ro 0 true [.sl true [.b, .sl false [.i .u8]], .i .i64, .b] [], .i .i64 0, .ro 0 true [.i .i64, .i .i64, .i .i64] [], .b false, .i .i64 0]]⟩, x76_2_0)]⟩], true, [], []⟩
noncomputable def fi21 : Fi := ⟨Try.f21, [], false, [.ag [.ro (.sl true [.sl true [.b, .sl false [.i .u8]], .i .i64, .b]), .v (.i .i64), .ro (.sl true [.i .i64, .i .i64, .i .i64]), .v (.b), .v (.i .i64)]], [.v (.b)]⟩
def x48_4_0 : List (Ex × List Nat × CSt) := [(.ret, [4], ⟨[.b false], [.dead, .dead]⟩), ((.ex 0), [], ⟨[], [.dead, .dead]⟩)]
noncomputable def fi48 : Fi := ⟨Try.f48, [⟨4, [0, 1, 5], [], [(⟨[.ro 0 false [.i .u8] [], .ro 0 false [.i .u8] [], .i .i64 0], [.dead, .dead]⟩, x48_4_0)]⟩], false, [.ro (.sl false [.i .u8]), .ro (.sl false [.i .u8])], [.v (.b)]⟩
noncomputable def fi254 : Fi := ⟨Try.f254, [], false, [.ag [.v (.b), .ro (.sl false [.i .u8])], .ag [.v (.b), .ro (.sl false [.i .u8])]], [.v (.b)]⟩
def x244_4_0 : List (Ex × List Nat × CSt) := [(.ret, [4], ⟨[.b false], [.dead, .dead]⟩), ((.ex 0), [], ⟨[], [.dead, .dead]⟩)]
noncomputable def fi244 : Fi := ⟨Try.f244, [⟨4, [0, 1, 5], [], [(⟨[.ro 0 true [.b, .sl false [.i .u8]] [], .ro 0 true [.b, .sl false [.i .u8]] [], .i .i64 0], [.dead, .dead]⟩, x244_4_0)]⟩], false, [.ro (.sl true [.b, .sl false [.i .u8]]), .ro (.sl true [.b, .sl false [.i .u8]])], [.v (.b)]⟩
noncomputable def fi221 : Fi := ⟨Try.f221, [], false, [.ag [.ro (.sl true [.b, .sl false [.i .u8]]), .v (.i .i64), .v (.b)], .ag [.ro (.sl true [.b, .sl false [.i .u8]]), .v (.i .i64), .v (.b)]], [.v (.b)]⟩
def x179_4_0 : List (Ex × List Nat × CSt) := [(.ret, [4], ⟨[.b false], [.dead, .dead]⟩), ((.ex 0), [], ⟨[], [.dead, .dead]⟩)]
noncomputable def fi179 : Fi := ⟨Try.f179, [⟨4, [0, 1, 5], [], [(⟨[.ro 0 true [.sl true [.b, .sl false [.i .u8]], .i .i64, .b] [], .ro 0 true [.sl true [.b, .sl false [.i .u8]], .i .i64, .b] [], .i .i64 0], [.dead, .dead]⟩, x179_4_0)]⟩], false, [.ro (.sl true [.sl true [.b, .sl false [.i .u8]], .i .i64, .b]), .ro (.sl true [.sl true [.b, .sl false [.i .u8]], .i .i64, .b])], [.v (.b)]⟩
noncomputable def fi129 : Fi := ⟨Try.f129, [], false, [.ag [.ro (.sl true [.sl true [.b, .sl false [.i .u8]], .i .i64, .b])], .ag [.ro (.sl true [.sl true [.b, .sl false [.i .u8]], .i .i64, .b])]], [.v (.b)]⟩
noncomputable def fi180 : Fi := ⟨Try.f180, [], false, [.ag [.v (.i .i64), .v (.i .i64), .v (.i .i64)], .ag [.v (.i .i64), .v (.i .i64), .v (.i .i64)]], [.v (.b)]⟩
def x130_4_0 : List (Ex × List Nat × CSt) := [(.ret, [4], ⟨[.b false], [.dead, .dead]⟩), ((.ex 0), [], ⟨[], [.dead, .dead]⟩)]
noncomputable def fi130 : Fi := ⟨Try.f130, [⟨4, [0, 1, 5], [], [(⟨[.ro 0 true [.i .i64, .i .i64, .i .i64] [], .ro 0 true [.i .i64, .i .i64, .i .i64] [], .i .i64 0], [.dead, .dead]⟩, x130_4_0)]⟩], false, [.ro (.sl true [.i .i64, .i .i64, .i .i64]), .ro (.sl true [.i .i64, .i .i64, .i .i64])], [.v (.b)]⟩
noncomputable def fi78 : Fi := ⟨Try.f78, [], false, [.ag [.ro (.sl true [.sl true [.b, .sl false [.i .u8]], .i .i64, .b]), .v (.i .i64), .ro (.sl true [.i .i64, .i .i64, .i .i64]), .v (.b)], .ag [.ro (.sl true [.sl true [.b, .sl false [.i .u8]], .i .i64, .b]), .v (.i .i64), .ro (.sl true [.i .i64, .i .i64, .i .i64]), .v (.b)]], [.v (.b)]⟩
noncomputable def fi22 : Fi := ⟨Try.f22, [], false, [.ag [.ro (.sl true [.sl true [.b, .sl false [.i .u8]], .i .i64, .b]), .v (.i .i64), .ro (.sl true [.i .i64, .i .i64, .i .i64]), .v (.b), .v (.i .i64)], .ag [.ro (.sl true [.sl true [.b, .sl false [.i .u8]], .i .i64, .b]), .v (.i .i64), .ro (.sl true [.i .i64, .i .i64, .i .i64]), .v (.b), .v (.i .i64)]], [.v (.b)]⟩
noncomputable def fi4 : Fi := ⟨Try.f4, [], false, [.ag [.ro (.sl true [.sl true [.b, .sl false [.i .u8]], .i .i64, .b]), .v (.i .i64), .ro (.sl true [.i .i64, .i .i64, .i .i64]), .v (.b), .v (.i .i64)]], [.v (.b)]⟩
noncomputable def fiTab : List (Nat × Fi) := [(259, fi259), (252, fi252), (242, fi242), (219, fi219), (175, fi175), (122, fi122), (123, fi123), (69, fi69), (18, fi18), (47, fi47), (253, fi253), (243, fi243), (220, fi220), (177, fi177), (126, fi126), (178, fi178), (127, fi127), (73, fi73), (20, fi20), (71, fi71), (176, fi176), (124, fi124), (125, fi125), (70, fi70), (181, fi181), (131, fi131), (182, fi182), (132, fi132), (133, fi133), (103, fi103), (80, fi80), (72, fi72), (19, fi19), (75, fi75), (128, fi128), (74, fi74), (77, fi77), (94, fi94), (147, fi147), (134, fi134), (146, fi146), (91, fi91), (183, fi183), (222, fi222), (184, fi184), (223, fi223), (185, fi185), (186, fi186), (89, fi89), (135, fi135), (81, fi81), (76, fi76), (21, fi21), (48, fi48), (254, fi254), (244, fi244), (221, fi221), (179, fi179), (129, fi129), (180, fi180), (130, fi130), (78, fi78), (22, fi22), (4, fi4)]
-- EXT 147 clone 56 5
def X : Nat → Option (List T → Option (List T)) := lookN [(147, cloneF)]
noncomputable def env : Env := ⟨lookN fiTab, lookN tyTab⟩
-- FUNCTIONS
/-- loop.example/g00285/laws.szByteS -/
def f259_t (c : Orc) (lf : Nat) (l0 : List T) (n1 : Int) : Option (List T) :=
  bif iLt (IntKind.wrap .i64 (n1 - (l0.length : Int))) 0 then
    some [T.i .i64 (-1)]
  else
    some [T.i .i64 (IntKind.wrap .i64 (n1 - (l0.length : Int)))]
def f259 (c : Orc) (lf : Nat) (l0 : List T) (n1 : Int) : Option (List T) := f259_t c lf l0 n1
theorem f259_raw (c : Orc) (lf : Nat) (l0 : List T) (n1 : Int) : funK c env lf 6 fi259 [.sl l0, .i .i64 n1] = f259_t c lf l0 n1 := by kernel_rfl
theorem f259_eq (c : Orc) (lf : Nat) (l0 : List T) (n1 : Int) : funK c env lf 6 fi259 [.sl l0, .i .i64 n1] = f259 c lf l0 n1 := by
  refine (f259_raw c lf l0 n1).trans ?_
  rfl
/-- loop.example/g00285/laws.szPage -/
def f252_t (c : Orc) (lf : Nat) (b0_0 : Bool) (l0_1 : List T) (n1 : Int) : Option (List T) :=
  (c 259 [T.sl l0_1, T.i .i64 n1]).bind fun r1 =>
  bif iLt (asI (nth r1 0)) 0 then
    some [T.i .i64 (-1)]
  else
    some [T.i .i64 (asI (nth r1 0))]
def f252 (c : Orc) (lf : Nat) (b0_0 : Bool) (l0_1 : List T) (n1 : Int) : Option (List T) := f252_t c lf b0_0 l0_1 n1
theorem f252_raw (c : Orc) (lf : Nat) (b0_0 : Bool) (l0_1 : List T) (n1 : Int) : funK c env lf 6 fi252 [.st [.b b0_0, .sl l0_1], .i .i64 n1] = f252_t c lf b0_0 l0_1 n1 := by kernel_rfl
theorem f252_eq (c : Orc) (lf : Nat) (b0_0 : Bool) (l0_1 : List T) (n1 : Int) : funK c env lf 6 fi252 [.st [.b b0_0, .sl l0_1], .i .i64 n1] = f252 c lf b0_0 l0_1 n1 := by
  refine (f252_raw c lf b0_0 l0_1 n1).trans ?_
  rfl
/-- loop.example/g00285/laws.szPageS, the loop at region 5. -/
def f242_0_s (c : Orc) (lf : Nat) (l0 : List T) (L : Int → Int → Option (List T)) (x8 : Int) (x9 : Int) : Option (List T) :=
  bif iLt x9 (l0.length : Int) then
    bif inR x9 l0.length then
    (c 252 [T.st [T.b (asB (T.cell (l0.getD x9.toNat T.u) 0)), T.sl (asL (T.cell (l0.getD x9.toNat T.u) 1))], T.i .i64 x8]).bind fun r10 =>
    bif iLt (asI (nth r10 0)) 0 then
      some [T.i .i64 0, T.i .i64 (-1)]
    else
      L (asI (nth r10 0)) (IntKind.wrap .i64 (x9 + 1))
    else none
  else
    some [T.i .i64 1, T.i .i64 x8]
def f242_0_c (l0 : List T) (x8 : Int) (x9 : Int) : CSt := ⟨[.ro 0 true [.b, .sl false [.i .u8]] l0, .i .i64 x8, .i .i64 x9], [.dead, .dead]⟩
theorem f242_0_round (c : Orc) (lf : Nat) (l0 : List T) (L : CSt → Option (List T)) (x8 : Int) (x9 : Int) :
    roundK c env lf 6 fi242 2 5 [] [0, 1, 5] (x242_5_0) L (f242_0_c l0 x8 x9) = f242_0_s c lf l0 (fun x8 x9 => L (f242_0_c l0 x8 x9)) x8 x9 := by kernel_rfl
def f242_0 (c : Orc) (lf : Nat) (l0 : List T) : Nat → Int → Int → Option (List T)
  | 0 => fun _ _ => none
  | n + 1 => fun x8 x9 => f242_0_s c lf l0 (f242_0 c lf l0 n) x8 x9
theorem f242_0_u (c : Orc) (lf : Nat) (l0 : List T) (n : Nat) (x8 : Int) (x9 : Int) : f242_0 c lf l0 (n + 1) x8 x9 = f242_0_s c lf l0 (f242_0 c lf l0 n) x8 x9 := rfl
theorem f242_0_eq (c : Orc) (lf : Nat) (l0 : List T) (n : Nat) (x8 : Int) (x9 : Int) :
    lpK c env lf 6 fi242 2 5 [] [0, 1, 5] (x242_5_0) n (f242_0_c l0 x8 x9) = f242_0 c lf l0 n x8 x9 := by
  induction n generalizing x8 x9 with
  | zero => rfl
  | succ n ih =>
    refine (f242_0_round c lf l0 _ x8 x9).trans ?_
    have e : (fun x8 x9 => lpK c env lf 6 fi242 2 5 [] [0, 1, 5] (x242_5_0) n (f242_0_c l0 x8 x9)) = f242_0 c lf l0 n := by funext x8 x9; exact ih x8 x9
    show f242_0_s c lf l0 (fun x8 x9 => lpK c env lf 6 fi242 2 5 [] [0, 1, 5] (x242_5_0) n (f242_0_c l0 x8 x9)) x8 x9 = _
    rw [e]; rfl
/-- loop.example/g00285/laws.szPageS -/
def f242_t (c : Orc) (lf : Nat) (lp0 : List T → Int → Int → Option (List T)) (l0 : List T) (n1 : Int) : Option (List T) :=
  bif iLt (IntKind.wrap .i64 (n1 - (l0.length : Int))) 0 then
    some [T.i .i64 (-1)]
  else
    (lp0 l0 (IntKind.wrap .i64 (n1 - (l0.length : Int))) 0).bind fun r11 =>
    bif asI (nth r11 0) == 0 then
      some [T.i .i64 (asI (nth r11 1))]
    else
      some [T.i .i64 (asI (nth r11 1))]
def f242 (c : Orc) (lf : Nat) (l0 : List T) (n1 : Int) : Option (List T) := f242_t c lf (fun (l0 : List T) (x8 : Int) (x9 : Int) => f242_0 c lf l0 lf x8 x9) l0 n1
theorem f242_raw (c : Orc) (lf : Nat) (l0 : List T) (n1 : Int) : funK c env lf 6 fi242 [.sl l0, .i .i64 n1] = f242_t c lf (fun (l0 : List T) (x8 : Int) (x9 : Int) => lpK c env lf 6 fi242 2 5 [] [0, 1, 5] (x242_5_0) lf (f242_0_c l0 x8 x9)) l0 n1 := by kernel_rfl
theorem f242_eq (c : Orc) (lf : Nat) (l0 : List T) (n1 : Int) : funK c env lf 6 fi242 [.sl l0, .i .i64 n1] = f242 c lf l0 n1 := by
  refine (f242_raw c lf l0 n1).trans ?_
  have e0 : (fun (l0 : List T) (x8 : Int) (x9 : Int) => lpK c env lf 6 fi242 2 5 [] [0, 1, 5] (x242_5_0) lf (f242_0_c l0 x8 x9)) = (fun (l0 : List T) (x8 : Int) (x9 : Int) => f242_0 c lf l0 lf x8 x9) := by funext l0 x8 x9; exact f242_0_eq c lf l0 lf x8 x9
  rw [e0]; rfl
/-- loop.example/g00285/laws.szBlock -/
def f219_t (c : Orc) (lf : Nat) (l0_0 : List T) (n0_1 : Int) (b0_2 : Bool) (n1 : Int) : Option (List T) :=
  (c 242 [T.sl l0_0, T.i .i64 n1]).bind fun r12 =>
  bif iLt (asI (nth r12 0)) 0 then
    some [T.i .i64 (-1)]
  else
    some [T.i .i64 (asI (nth r12 0))]
def f219 (c : Orc) (lf : Nat) (l0_0 : List T) (n0_1 : Int) (b0_2 : Bool) (n1 : Int) : Option (List T) := f219_t c lf l0_0 n0_1 b0_2 n1
theorem f219_raw (c : Orc) (lf : Nat) (l0_0 : List T) (n0_1 : Int) (b0_2 : Bool) (n1 : Int) : funK c env lf 6 fi219 [.st [.sl l0_0, .i .i64 n0_1, .b b0_2], .i .i64 n1] = f219_t c lf l0_0 n0_1 b0_2 n1 := by kernel_rfl
theorem f219_eq (c : Orc) (lf : Nat) (l0_0 : List T) (n0_1 : Int) (b0_2 : Bool) (n1 : Int) : funK c env lf 6 fi219 [.st [.sl l0_0, .i .i64 n0_1, .b b0_2], .i .i64 n1] = f219 c lf l0_0 n0_1 b0_2 n1 := by
  refine (f219_raw c lf l0_0 n0_1 b0_2 n1).trans ?_
  rfl
/-- loop.example/g00285/laws.szBlockS, the loop at region 5. -/
def f175_0_s (c : Orc) (lf : Nat) (l0 : List T) (L : Int → Int → Option (List T)) (x19 : Int) (x20 : Int) : Option (List T) :=
  bif iLt x20 (l0.length : Int) then
    bif inR x20 l0.length then
    (c 219 [T.st [T.sl (asL (T.cell (l0.getD x20.toNat T.u) 0)), T.i .i64 (asI (T.cell (l0.getD x20.toNat T.u) 1)), T.b (asB (T.cell (l0.getD x20.toNat T.u) 2))], T.i .i64 x19]).bind fun r21 =>
    bif iLt (asI (nth r21 0)) 0 then
      some [T.i .i64 0, T.i .i64 (-1)]
    else
      L (asI (nth r21 0)) (IntKind.wrap .i64 (x20 + 1))
    else none
  else
    some [T.i .i64 1, T.i .i64 x19]
def f175_0_c (l0 : List T) (x19 : Int) (x20 : Int) : CSt := ⟨[.ro 0 true [.sl true [.b, .sl false [.i .u8]], .i .i64, .b] l0, .i .i64 x19, .i .i64 x20], [.dead, .dead]⟩
theorem f175_0_round (c : Orc) (lf : Nat) (l0 : List T) (L : CSt → Option (List T)) (x19 : Int) (x20 : Int) :
    roundK c env lf 6 fi175 2 5 [] [0, 1, 5] (x175_5_0) L (f175_0_c l0 x19 x20) = f175_0_s c lf l0 (fun x19 x20 => L (f175_0_c l0 x19 x20)) x19 x20 := by kernel_rfl
def f175_0 (c : Orc) (lf : Nat) (l0 : List T) : Nat → Int → Int → Option (List T)
  | 0 => fun _ _ => none
  | n + 1 => fun x19 x20 => f175_0_s c lf l0 (f175_0 c lf l0 n) x19 x20
theorem f175_0_u (c : Orc) (lf : Nat) (l0 : List T) (n : Nat) (x19 : Int) (x20 : Int) : f175_0 c lf l0 (n + 1) x19 x20 = f175_0_s c lf l0 (f175_0 c lf l0 n) x19 x20 := rfl
theorem f175_0_eq (c : Orc) (lf : Nat) (l0 : List T) (n : Nat) (x19 : Int) (x20 : Int) :
    lpK c env lf 6 fi175 2 5 [] [0, 1, 5] (x175_5_0) n (f175_0_c l0 x19 x20) = f175_0 c lf l0 n x19 x20 := by
  induction n generalizing x19 x20 with
  | zero => rfl
  | succ n ih =>
    refine (f175_0_round c lf l0 _ x19 x20).trans ?_
    have e : (fun x19 x20 => lpK c env lf 6 fi175 2 5 [] [0, 1, 5] (x175_5_0) n (f175_0_c l0 x19 x20)) = f175_0 c lf l0 n := by funext x19 x20; exact ih x19 x20
    show f175_0_s c lf l0 (fun x19 x20 => lpK c env lf 6 fi175 2 5 [] [0, 1, 5] (x175_5_0) n (f175_0_c l0 x19 x20)) x19 x20 = _
    rw [e]; rfl
/-- loop.example/g00285/laws.szBlockS -/
def f175_t (c : Orc) (lf : Nat) (lp0 : List T → Int → Int → Option (List T)) (l0 : List T) (n1 : Int) : Option (List T) :=
  bif iLt (IntKind.wrap .i64 (n1 - (l0.length : Int))) 0 then
    some [T.i .i64 (-1)]
  else
    (lp0 l0 (IntKind.wrap .i64 (n1 - (l0.length : Int))) 0).bind fun r22 =>
    bif asI (nth r22 0) == 0 then
      some [T.i .i64 (asI (nth r22 1))]
    else
      some [T.i .i64 (asI (nth r22 1))]
def f175 (c : Orc) (lf : Nat) (l0 : List T) (n1 : Int) : Option (List T) := f175_t c lf (fun (l0 : List T) (x19 : Int) (x20 : Int) => f175_0 c lf l0 lf x19 x20) l0 n1
theorem f175_raw (c : Orc) (lf : Nat) (l0 : List T) (n1 : Int) : funK c env lf 6 fi175 [.sl l0, .i .i64 n1] = f175_t c lf (fun (l0 : List T) (x19 : Int) (x20 : Int) => lpK c env lf 6 fi175 2 5 [] [0, 1, 5] (x175_5_0) lf (f175_0_c l0 x19 x20)) l0 n1 := by kernel_rfl
theorem f175_eq (c : Orc) (lf : Nat) (l0 : List T) (n1 : Int) : funK c env lf 6 fi175 [.sl l0, .i .i64 n1] = f175 c lf l0 n1 := by
  refine (f175_raw c lf l0 n1).trans ?_
  have e0 : (fun (l0 : List T) (x19 : Int) (x20 : Int) => lpK c env lf 6 fi175 2 5 [] [0, 1, 5] (x175_5_0) lf (f175_0_c l0 x19 x20)) = (fun (l0 : List T) (x19 : Int) (x20 : Int) => f175_0 c lf l0 lf x19 x20) := by funext l0 x19 x20; exact f175_0_eq c lf l0 lf x19 x20
  rw [e0]; rfl
/-- loop.example/g00285/laws.szChip -/
def f122_t (c : Orc) (lf : Nat) (l0_0 : List T) (n1 : Int) : Option (List T) :=
  (c 175 [T.sl l0_0, T.i .i64 n1]).bind fun r23 =>
  bif iLt (asI (nth r23 0)) 0 then
    some [T.i .i64 (-1)]
  else
    some [T.i .i64 (asI (nth r23 0))]
def f122 (c : Orc) (lf : Nat) (l0_0 : List T) (n1 : Int) : Option (List T) := f122_t c lf l0_0 n1
theorem f122_raw (c : Orc) (lf : Nat) (l0_0 : List T) (n1 : Int) : funK c env lf 6 fi122 [.st [.sl l0_0], .i .i64 n1] = f122_t c lf l0_0 n1 := by kernel_rfl
theorem f122_eq (c : Orc) (lf : Nat) (l0_0 : List T) (n1 : Int) : funK c env lf 6 fi122 [.st [.sl l0_0], .i .i64 n1] = f122 c lf l0_0 n1 := by
  refine (f122_raw c lf l0_0 n1).trans ?_
  rfl
/-- loop.example/g00285/laws.szFaultS -/
def f123_t (c : Orc) (lf : Nat) (l0 : List T) (n1 : Int) : Option (List T) :=
  bif iLt (IntKind.wrap .i64 (n1 - (l0.length : Int))) 0 then
    some [T.i .i64 (-1)]
  else
    some [T.i .i64 (IntKind.wrap .i64 (n1 - (l0.length : Int)))]
def f123 (c : Orc) (lf : Nat) (l0 : List T) (n1 : Int) : Option (List T) := f123_t c lf l0 n1
theorem f123_raw (c : Orc) (lf : Nat) (l0 : List T) (n1 : Int) : funK c env lf 6 fi123 [.sl l0, .i .i64 n1] = f123_t c lf l0 n1 := by kernel_rfl
theorem f123_eq (c : Orc) (lf : Nat) (l0 : List T) (n1 : Int) : funK c env lf 6 fi123 [.sl l0, .i .i64 n1] = f123 c lf l0 n1 := by
  refine (f123_raw c lf l0 n1).trans ?_
  rfl
/-- loop.example/g00285/laws.szDev -/
def f69_t (c : Orc) (lf : Nat) (l0_0 : List T) (n0_1 : Int) (l0_2 : List T) (b0_3 : Bool) (n1 : Int) : Option (List T) :=
  (c 122 [T.st [T.sl l0_0], T.i .i64 n1]).bind fun r24 =>
  bif iLt (asI (nth r24 0)) 0 then
    some [T.i .i64 (-1)]
  else
    (c 123 [T.sl l0_2, T.i .i64 (asI (nth r24 0))]).bind fun r25 =>
    bif iLt (asI (nth r25 0)) 0 then
      some [T.i .i64 (-1)]
    else
      some [T.i .i64 (asI (nth r25 0))]
def f69 (c : Orc) (lf : Nat) (l0_0 : List T) (n0_1 : Int) (l0_2 : List T) (b0_3 : Bool) (n1 : Int) : Option (List T) := f69_t c lf l0_0 n0_1 l0_2 b0_3 n1
theorem f69_raw (c : Orc) (lf : Nat) (l0_0 : List T) (n0_1 : Int) (l0_2 : List T) (b0_3 : Bool) (n1 : Int) : funK c env lf 6 fi69 [.st [.sl l0_0, .i .i64 n0_1, .sl l0_2, .b b0_3], .i .i64 n1] = f69_t c lf l0_0 n0_1 l0_2 b0_3 n1 := by kernel_rfl
theorem f69_eq (c : Orc) (lf : Nat) (l0_0 : List T) (n0_1 : Int) (l0_2 : List T) (b0_3 : Bool) (n1 : Int) : funK c env lf 6 fi69 [.st [.sl l0_0, .i .i64 n0_1, .sl l0_2, .b b0_3], .i .i64 n1] = f69 c lf l0_0 n0_1 l0_2 b0_3 n1 := by
  refine (f69_raw c lf l0_0 n0_1 l0_2 b0_3 n1).trans ?_
  rfl
/-- loop.example/g00285/laws.szLog -/
def f18_t (c : Orc) (lf : Nat) (l0_0 : List T) (n0_1 : Int) (l0_2 : List T) (b0_3 : Bool) (n0_4 : Int) (n1 : Int) : Option (List T) :=
  (c 69 [T.st [T.sl l0_0, T.i .i64 n0_1, T.sl l0_2, T.b b0_3], T.i .i64 n1]).bind fun r26 =>
  bif iLt (asI (nth r26 0)) 0 then
    some [T.i .i64 (-1)]
  else
    some [T.i .i64 (asI (nth r26 0))]
def f18 (c : Orc) (lf : Nat) (l0_0 : List T) (n0_1 : Int) (l0_2 : List T) (b0_3 : Bool) (n0_4 : Int) (n1 : Int) : Option (List T) := f18_t c lf l0_0 n0_1 l0_2 b0_3 n0_4 n1
theorem f18_raw (c : Orc) (lf : Nat) (l0_0 : List T) (n0_1 : Int) (l0_2 : List T) (b0_3 : Bool) (n0_4 : Int) (n1 : Int) : funK c env lf 6 fi18 [.st [.sl l0_0, .i .i64 n0_1, .sl l0_2, .b b0_3, .i .i64 n0_4], .i .i64 n1] = f18_t c lf l0_0 n0_1 l0_2 b0_3 n0_4 n1 := by kernel_rfl
theorem f18_eq (c : Orc) (lf : Nat) (l0_0 : List T) (n0_1 : Int) (l0_2 : List T) (b0_3 : Bool) (n0_4 : Int) (n1 : Int) : funK c env lf 6 fi18 [.st [.sl l0_0, .i .i64 n0_1, .sl l0_2, .b b0_3, .i .i64 n0_4], .i .i64 n1] = f18 c lf l0_0 n0_1 l0_2 b0_3 n0_4 n1 := by
  refine (f18_raw c lf l0_0 n0_1 l0_2 b0_3 n0_4 n1).trans ?_
  rfl
/-- loop.example/g00285/laws.toByteS, the loop at region 3. -/
def f47_0_s (c : Orc) (lf : Nat) (l0 : List T) (L : Int → List T → Option (List T)) (x30 : Int) (x31 : List T) : Option (List T) :=
  bif iLt x30 (l0.length : Int) then
    bif inR x30 l0.length then
    bif inR x30 x31.length then
    L (IntKind.wrap .i64 (x30 + 1)) (x31.set x30.toNat (T.i .u8 (asI (l0.getD x30.toNat T.u))))
    else none
    else none
  else
    some [T.i .i64 0, T.sl x31]
def f47_0_c (l0 : List T) (x30 : Int) (x31 : List T) : CSt := ⟨[.ro 0 false [.i .u8] l0, .rf 1 [] 0 none, .i .i64 x30], [.dead, .row false [.i .u8] x31 0 false]⟩
theorem f47_0_round (c : Orc) (lf : Nat) (l0 : List T) (L : CSt → Option (List T)) (x30 : Int) (x31 : List T) :
    roundK c env lf 6 fi47 1 3 [] [0, 3, 4] (x47_3_0) L (f47_0_c l0 x30 x31) = f47_0_s c lf l0 (fun x30 x31 => L (f47_0_c l0 x30 x31)) x30 x31 := by kernel_rfl
def f47_0 (c : Orc) (lf : Nat) (l0 : List T) : Nat → Int → List T → Option (List T)
  | 0 => fun _ _ => none
  | n + 1 => fun x30 x31 => f47_0_s c lf l0 (f47_0 c lf l0 n) x30 x31
theorem f47_0_u (c : Orc) (lf : Nat) (l0 : List T) (n : Nat) (x30 : Int) (x31 : List T) : f47_0 c lf l0 (n + 1) x30 x31 = f47_0_s c lf l0 (f47_0 c lf l0 n) x30 x31 := rfl
theorem f47_0_eq (c : Orc) (lf : Nat) (l0 : List T) (n : Nat) (x30 : Int) (x31 : List T) :
    lpK c env lf 6 fi47 1 3 [] [0, 3, 4] (x47_3_0) n (f47_0_c l0 x30 x31) = f47_0 c lf l0 n x30 x31 := by
  induction n generalizing x30 x31 with
  | zero => rfl
  | succ n ih =>
    refine (f47_0_round c lf l0 _ x30 x31).trans ?_
    have e : (fun x30 x31 => lpK c env lf 6 fi47 1 3 [] [0, 3, 4] (x47_3_0) n (f47_0_c l0 x30 x31)) = f47_0 c lf l0 n := by funext x30 x31; exact ih x30 x31
    show f47_0_s c lf l0 (fun x30 x31 => lpK c env lf 6 fi47 1 3 [] [0, 3, 4] (x47_3_0) n (f47_0_c l0 x30 x31)) x30 x31 = _
    rw [e]; rfl
/-- loop.example/g00285/laws.toByteS -/
def f47_t (c : Orc) (lf : Nat) (lp0 : List T → Int → List T → Option (List T)) (l0 : List T) : Option (List T) :=
  bif iLe 0 (l0.length : Int) && iLe (l0.length : Int) (LIM : Int) && ((l0.length : Int) == (l0.length : Int)) then
  (lp0 l0 0 (List.replicate (l0.length : Int).toNat (T.i .u8 0))).bind fun r32 =>
  some [T.sl (asL (nth r32 1))]
  else none
def f47 (c : Orc) (lf : Nat) (l0 : List T) : Option (List T) := f47_t c lf (fun (l0 : List T) (x30 : Int) (x31 : List T) => f47_0 c lf l0 lf x30 x31) l0
theorem f47_raw (c : Orc) (lf : Nat) (l0 : List T) : funK c env lf 6 fi47 [.sl l0] = f47_t c lf (fun (l0 : List T) (x30 : Int) (x31 : List T) => lpK c env lf 6 fi47 1 3 [] [0, 3, 4] (x47_3_0) lf (f47_0_c l0 x30 x31)) l0 := by kernel_rfl
theorem f47_eq (c : Orc) (lf : Nat) (l0 : List T) : funK c env lf 6 fi47 [.sl l0] = f47 c lf l0 := by
  refine (f47_raw c lf l0).trans ?_
  have e0 : (fun (l0 : List T) (x30 : Int) (x31 : List T) => lpK c env lf 6 fi47 1 3 [] [0, 3, 4] (x47_3_0) lf (f47_0_c l0 x30 x31)) = (fun (l0 : List T) (x30 : Int) (x31 : List T) => f47_0 c lf l0 lf x30 x31) := by funext l0 x30 x31; exact f47_0_eq c lf l0 lf x30 x31
  rw [e0]; rfl
/-- loop.example/g00285/laws.toPage -/
def f253_t (c : Orc) (lf : Nat) (b0_0 : Bool) (l0_1 : List T) : Option (List T) :=
  (c 47 [T.sl l0_1]).bind fun r33 =>
  some [T.st [T.b b0_0, T.sl (asL (nth r33 0))]]
def f253 (c : Orc) (lf : Nat) (b0_0 : Bool) (l0_1 : List T) : Option (List T) := f253_t c lf b0_0 l0_1
theorem f253_raw (c : Orc) (lf : Nat) (b0_0 : Bool) (l0_1 : List T) : funK c env lf 6 fi253 [.st [.b b0_0, .sl l0_1]] = f253_t c lf b0_0 l0_1 := by kernel_rfl
theorem f253_eq (c : Orc) (lf : Nat) (b0_0 : Bool) (l0_1 : List T) : funK c env lf 6 fi253 [.st [.b b0_0, .sl l0_1]] = f253 c lf b0_0 l0_1 := by
  refine (f253_raw c lf b0_0 l0_1).trans ?_
  rfl
/-- loop.example/g00285/laws.toPageS, the loop at region 3. -/
def f243_0_s (c : Orc) (lf : Nat) (l0 : List T) (L : Int → List T → Option (List T)) (x40 : Int) (x41 : List T) : Option (List T) :=
  bif iLt x40 (l0.length : Int) then
    bif inR x40 l0.length then
    (c 253 [T.st [T.b (asB (T.cell (l0.getD x40.toNat T.u) 0)), T.sl (asL (T.cell (l0.getD x40.toNat T.u) 1))]]).bind fun r42 =>
    bif inR x40 x41.length then
    L (IntKind.wrap .i64 (x40 + 1)) (x41.set x40.toNat (T.st [T.b (asB (T.cell (nth r42 0) 0)), T.sl (asL (T.cell (nth r42 0) 1))]))
    else none
    else none
  else
    some [T.i .i64 0, T.sl x41]
def f243_0_c (l0 : List T) (x40 : Int) (x41 : List T) : CSt := ⟨[.ro 0 true [.b, .sl false [.i .u8]] l0, .rf 1 [] 0 none, .i .i64 x40], [.dead, .row true [.b, .sl false [.i .u8]] x41 0 false]⟩
theorem f243_0_round (c : Orc) (lf : Nat) (l0 : List T) (L : CSt → Option (List T)) (x40 : Int) (x41 : List T) :
    roundK c env lf 6 fi243 1 3 [] [0, 3, 4] (x243_3_0) L (f243_0_c l0 x40 x41) = f243_0_s c lf l0 (fun x40 x41 => L (f243_0_c l0 x40 x41)) x40 x41 := by kernel_rfl
def f243_0 (c : Orc) (lf : Nat) (l0 : List T) : Nat → Int → List T → Option (List T)
  | 0 => fun _ _ => none
  | n + 1 => fun x40 x41 => f243_0_s c lf l0 (f243_0 c lf l0 n) x40 x41
theorem f243_0_u (c : Orc) (lf : Nat) (l0 : List T) (n : Nat) (x40 : Int) (x41 : List T) : f243_0 c lf l0 (n + 1) x40 x41 = f243_0_s c lf l0 (f243_0 c lf l0 n) x40 x41 := rfl
theorem f243_0_eq (c : Orc) (lf : Nat) (l0 : List T) (n : Nat) (x40 : Int) (x41 : List T) :
    lpK c env lf 6 fi243 1 3 [] [0, 3, 4] (x243_3_0) n (f243_0_c l0 x40 x41) = f243_0 c lf l0 n x40 x41 := by
  induction n generalizing x40 x41 with
  | zero => rfl
  | succ n ih =>
    refine (f243_0_round c lf l0 _ x40 x41).trans ?_
    have e : (fun x40 x41 => lpK c env lf 6 fi243 1 3 [] [0, 3, 4] (x243_3_0) n (f243_0_c l0 x40 x41)) = f243_0 c lf l0 n := by funext x40 x41; exact ih x40 x41
    show f243_0_s c lf l0 (fun x40 x41 => lpK c env lf 6 fi243 1 3 [] [0, 3, 4] (x243_3_0) n (f243_0_c l0 x40 x41)) x40 x41 = _
    rw [e]; rfl
/-- loop.example/g00285/laws.toPageS -/
def f243_t (c : Orc) (lf : Nat) (lp0 : List T → Int → List T → Option (List T)) (l0 : List T) : Option (List T) :=
  bif iLe 0 (l0.length : Int) && iLe (l0.length : Int) (LIM : Int) && ((l0.length : Int) == (l0.length : Int)) then
  (lp0 l0 0 (List.replicate (l0.length : Int).toNat (T.st [T.b false, T.sl []]))).bind fun r43 =>
  some [T.sl (asL (nth r43 1))]
  else none
def f243 (c : Orc) (lf : Nat) (l0 : List T) : Option (List T) := f243_t c lf (fun (l0 : List T) (x40 : Int) (x41 : List T) => f243_0 c lf l0 lf x40 x41) l0
theorem f243_raw (c : Orc) (lf : Nat) (l0 : List T) : funK c env lf 6 fi243 [.sl l0] = f243_t c lf (fun (l0 : List T) (x40 : Int) (x41 : List T) => lpK c env lf 6 fi243 1 3 [] [0, 3, 4] (x243_3_0) lf (f243_0_c l0 x40 x41)) l0 := by kernel_rfl
theorem f243_eq (c : Orc) (lf : Nat) (l0 : List T) : funK c env lf 6 fi243 [.sl l0] = f243 c lf l0 := by
  refine (f243_raw c lf l0).trans ?_
  have e0 : (fun (l0 : List T) (x40 : Int) (x41 : List T) => lpK c env lf 6 fi243 1 3 [] [0, 3, 4] (x243_3_0) lf (f243_0_c l0 x40 x41)) = (fun (l0 : List T) (x40 : Int) (x41 : List T) => f243_0 c lf l0 lf x40 x41) := by funext l0 x40 x41; exact f243_0_eq c lf l0 lf x40 x41
  rw [e0]; rfl
/-- loop.example/g00285/laws.toBlock -/
def f220_t (c : Orc) (lf : Nat) (l0_0 : List T) (n0_1 : Int) (b0_2 : Bool) : Option (List T) :=
  (c 243 [T.sl l0_0]).bind fun r44 =>
  some [T.st [T.sl (asL (nth r44 0)), T.i .i64 n0_1, T.b b0_2]]
def f220 (c : Orc) (lf : Nat) (l0_0 : List T) (n0_1 : Int) (b0_2 : Bool) : Option (List T) := f220_t c lf l0_0 n0_1 b0_2
theorem f220_raw (c : Orc) (lf : Nat) (l0_0 : List T) (n0_1 : Int) (b0_2 : Bool) : funK c env lf 6 fi220 [.st [.sl l0_0, .i .i64 n0_1, .b b0_2]] = f220_t c lf l0_0 n0_1 b0_2 := by kernel_rfl
theorem f220_eq (c : Orc) (lf : Nat) (l0_0 : List T) (n0_1 : Int) (b0_2 : Bool) : funK c env lf 6 fi220 [.st [.sl l0_0, .i .i64 n0_1, .b b0_2]] = f220 c lf l0_0 n0_1 b0_2 := by
  refine (f220_raw c lf l0_0 n0_1 b0_2).trans ?_
  rfl
/-- loop.example/g00285/laws.toBlockS, the loop at region 3. -/
def f177_0_s (c : Orc) (lf : Nat) (l0 : List T) (L : Int → List T → Option (List T)) (x51 : Int) (x52 : List T) : Option (List T) :=
  bif iLt x51 (l0.length : Int) then
    bif inR x51 l0.length then
    (c 220 [T.st [T.sl (asL (T.cell (l0.getD x51.toNat T.u) 0)), T.i .i64 (asI (T.cell (l0.getD x51.toNat T.u) 1)), T.b (asB (T.cell (l0.getD x51.toNat T.u) 2))]]).bind fun r53 =>
    bif inR x51 x52.length then
    L (IntKind.wrap .i64 (x51 + 1)) (x52.set x51.toNat (T.st [T.sl (asL (T.cell (nth r53 0) 0)), T.i .i64 (asI (T.cell (nth r53 0) 1)), T.b (asB (T.cell (nth r53 0) 2))]))
    else none
    else none
  else
    some [T.i .i64 0, T.sl x52]
def f177_0_c (l0 : List T) (x51 : Int) (x52 : List T) : CSt := ⟨[.ro 0 true [.sl true [.b, .sl false [.i .u8]], .i .i64, .b] l0, .rf 1 [] 0 none, .i .i64 x51], [.dead, .row true [.sl true [.b, .sl false [.i .u8]], .i .i64, .b] x52 0 false]⟩
theorem f177_0_round (c : Orc) (lf : Nat) (l0 : List T) (L : CSt → Option (List T)) (x51 : Int) (x52 : List T) :
    roundK c env lf 6 fi177 1 3 [] [0, 3, 4] (x177_3_0) L (f177_0_c l0 x51 x52) = f177_0_s c lf l0 (fun x51 x52 => L (f177_0_c l0 x51 x52)) x51 x52 := by kernel_rfl
def f177_0 (c : Orc) (lf : Nat) (l0 : List T) : Nat → Int → List T → Option (List T)
  | 0 => fun _ _ => none
  | n + 1 => fun x51 x52 => f177_0_s c lf l0 (f177_0 c lf l0 n) x51 x52
theorem f177_0_u (c : Orc) (lf : Nat) (l0 : List T) (n : Nat) (x51 : Int) (x52 : List T) : f177_0 c lf l0 (n + 1) x51 x52 = f177_0_s c lf l0 (f177_0 c lf l0 n) x51 x52 := rfl
theorem f177_0_eq (c : Orc) (lf : Nat) (l0 : List T) (n : Nat) (x51 : Int) (x52 : List T) :
    lpK c env lf 6 fi177 1 3 [] [0, 3, 4] (x177_3_0) n (f177_0_c l0 x51 x52) = f177_0 c lf l0 n x51 x52 := by
  induction n generalizing x51 x52 with
  | zero => rfl
  | succ n ih =>
    refine (f177_0_round c lf l0 _ x51 x52).trans ?_
    have e : (fun x51 x52 => lpK c env lf 6 fi177 1 3 [] [0, 3, 4] (x177_3_0) n (f177_0_c l0 x51 x52)) = f177_0 c lf l0 n := by funext x51 x52; exact ih x51 x52
    show f177_0_s c lf l0 (fun x51 x52 => lpK c env lf 6 fi177 1 3 [] [0, 3, 4] (x177_3_0) n (f177_0_c l0 x51 x52)) x51 x52 = _
    rw [e]; rfl
/-- loop.example/g00285/laws.toBlockS -/
def f177_t (c : Orc) (lf : Nat) (lp0 : List T → Int → List T → Option (List T)) (l0 : List T) : Option (List T) :=
  bif iLe 0 (l0.length : Int) && iLe (l0.length : Int) (LIM : Int) && ((l0.length : Int) == (l0.length : Int)) then
  (lp0 l0 0 (List.replicate (l0.length : Int).toNat (T.st [T.sl [], T.i .i64 0, T.b false]))).bind fun r54 =>
  some [T.sl (asL (nth r54 1))]
  else none
def f177 (c : Orc) (lf : Nat) (l0 : List T) : Option (List T) := f177_t c lf (fun (l0 : List T) (x51 : Int) (x52 : List T) => f177_0 c lf l0 lf x51 x52) l0
theorem f177_raw (c : Orc) (lf : Nat) (l0 : List T) : funK c env lf 6 fi177 [.sl l0] = f177_t c lf (fun (l0 : List T) (x51 : Int) (x52 : List T) => lpK c env lf 6 fi177 1 3 [] [0, 3, 4] (x177_3_0) lf (f177_0_c l0 x51 x52)) l0 := by kernel_rfl
theorem f177_eq (c : Orc) (lf : Nat) (l0 : List T) : funK c env lf 6 fi177 [.sl l0] = f177 c lf l0 := by
  refine (f177_raw c lf l0).trans ?_
  have e0 : (fun (l0 : List T) (x51 : Int) (x52 : List T) => lpK c env lf 6 fi177 1 3 [] [0, 3, 4] (x177_3_0) lf (f177_0_c l0 x51 x52)) = (fun (l0 : List T) (x51 : Int) (x52 : List T) => f177_0 c lf l0 lf x51 x52) := by funext l0 x51 x52; exact f177_0_eq c lf l0 lf x51 x52
  rw [e0]; rfl
/-- loop.example/g00285/laws.toChip -/
def f126_t (c : Orc) (lf : Nat) (l0_0 : List T) : Option (List T) :=
  (c 177 [T.sl l0_0]).bind fun r55 =>
  some [T.st [T.sl (asL (nth r55 0))]]
def f126 (c : Orc) (lf : Nat) (l0_0 : List T) : Option (List T) := f126_t c lf l0_0
theorem f126_raw (c : Orc) (lf : Nat) (l0_0 : List T) : funK c env lf 6 fi126 [.st [.sl l0_0]] = f126_t c lf l0_0 := by kernel_rfl
theorem f126_eq (c : Orc) (lf : Nat) (l0_0 : List T) : funK c env lf 6 fi126 [.st [.sl l0_0]] = f126 c lf l0_0 := by
  refine (f126_raw c lf l0_0).trans ?_
  rfl
/-- loop.example/g00285/laws.toFault -/
def f178_t (c : Orc) (lf : Nat) (n0_0 : Int) (n0_1 : Int) (n0_2 : Int) : Option (List T) :=
  some [T.st [T.i .i64 n0_0, T.i .i64 n0_1, T.i .i64 n0_2]]
def f178 (c : Orc) (lf : Nat) (n0_0 : Int) (n0_1 : Int) (n0_2 : Int) : Option (List T) := f178_t c lf n0_0 n0_1 n0_2
theorem f178_raw (c : Orc) (lf : Nat) (n0_0 : Int) (n0_1 : Int) (n0_2 : Int) : funK c env lf 6 fi178 [.st [.i .i64 n0_0, .i .i64 n0_1, .i .i64 n0_2]] = f178_t c lf n0_0 n0_1 n0_2 := by kernel_rfl
theorem f178_eq (c : Orc) (lf : Nat) (n0_0 : Int) (n0_1 : Int) (n0_2 : Int) : funK c env lf 6 fi178 [.st [.i .i64 n0_0, .i .i64 n0_1, .i .i64 n0_2]] = f178 c lf n0_0 n0_1 n0_2 := by
  refine (f178_raw c lf n0_0 n0_1 n0_2).trans ?_
  rfl
/-- loop.example/g00285/laws.toFaultS, the loop at region 3. -/
def f127_0_s (c : Orc) (lf : Nat) (l0 : List T) (L : Int → List T → Option (List T)) (x62 : Int) (x63 : List T) : Option (List T) :=
  bif iLt x62 (l0.length : Int) then
    bif inR x62 l0.length then
    (c 178 [T.st [T.i .i64 (asI (T.cell (l0.getD x62.toNat T.u) 0)), T.i .i64 (asI (T.cell (l0.getD x62.toNat T.u) 1)), T.i .i64 (asI (T.cell (l0.getD x62.toNat T.u) 2))]]).bind fun r64 =>
    bif inR x62 x63.length then
    L (IntKind.wrap .i64 (x62 + 1)) (x63.set x62.toNat (T.st [T.i .i64 (asI (T.cell (nth r64 0) 0)), T.i .i64 (asI (T.cell (nth r64 0) 1)), T.i .i64 (asI (T.cell (nth r64 0) 2))]))
    else none
    else none
  else
    some [T.i .i64 0, T.sl x63]
def f127_0_c (l0 : List T) (x62 : Int) (x63 : List T) : CSt := ⟨[.ro 0 true [.i .i64, .i .i64, .i .i64] l0, .rf 1 [] 0 none, .i .i64 x62], [.dead, .row true [.i .i64, .i .i64, .i .i64] x63 0 false]⟩
theorem f127_0_round (c : Orc) (lf : Nat) (l0 : List T) (L : CSt → Option (List T)) (x62 : Int) (x63 : List T) :
    roundK c env lf 6 fi127 1 3 [] [0, 3, 4] (x127_3_0) L (f127_0_c l0 x62 x63) = f127_0_s c lf l0 (fun x62 x63 => L (f127_0_c l0 x62 x63)) x62 x63 := by kernel_rfl
def f127_0 (c : Orc) (lf : Nat) (l0 : List T) : Nat → Int → List T → Option (List T)
  | 0 => fun _ _ => none
  | n + 1 => fun x62 x63 => f127_0_s c lf l0 (f127_0 c lf l0 n) x62 x63
theorem f127_0_u (c : Orc) (lf : Nat) (l0 : List T) (n : Nat) (x62 : Int) (x63 : List T) : f127_0 c lf l0 (n + 1) x62 x63 = f127_0_s c lf l0 (f127_0 c lf l0 n) x62 x63 := rfl
theorem f127_0_eq (c : Orc) (lf : Nat) (l0 : List T) (n : Nat) (x62 : Int) (x63 : List T) :
    lpK c env lf 6 fi127 1 3 [] [0, 3, 4] (x127_3_0) n (f127_0_c l0 x62 x63) = f127_0 c lf l0 n x62 x63 := by
  induction n generalizing x62 x63 with
  | zero => rfl
  | succ n ih =>
    refine (f127_0_round c lf l0 _ x62 x63).trans ?_
    have e : (fun x62 x63 => lpK c env lf 6 fi127 1 3 [] [0, 3, 4] (x127_3_0) n (f127_0_c l0 x62 x63)) = f127_0 c lf l0 n := by funext x62 x63; exact ih x62 x63
    show f127_0_s c lf l0 (fun x62 x63 => lpK c env lf 6 fi127 1 3 [] [0, 3, 4] (x127_3_0) n (f127_0_c l0 x62 x63)) x62 x63 = _
    rw [e]; rfl
/-- loop.example/g00285/laws.toFaultS -/
def f127_t (c : Orc) (lf : Nat) (lp0 : List T → Int → List T → Option (List T)) (l0 : List T) : Option (List T) :=
  bif iLe 0 (l0.length : Int) && iLe (l0.length : Int) (LIM : Int) && ((l0.length : Int) == (l0.length : Int)) then
  (lp0 l0 0 (List.replicate (l0.length : Int).toNat (T.st [T.i .i64 0, T.i .i64 0, T.i .i64 0]))).bind fun r65 =>
  some [T.sl (asL (nth r65 1))]
  else none
def f127 (c : Orc) (lf : Nat) (l0 : List T) : Option (List T) := f127_t c lf (fun (l0 : List T) (x62 : Int) (x63 : List T) => f127_0 c lf l0 lf x62 x63) l0
theorem f127_raw (c : Orc) (lf : Nat) (l0 : List T) : funK c env lf 6 fi127 [.sl l0] = f127_t c lf (fun (l0 : List T) (x62 : Int) (x63 : List T) => lpK c env lf 6 fi127 1 3 [] [0, 3, 4] (x127_3_0) lf (f127_0_c l0 x62 x63)) l0 := by kernel_rfl
theorem f127_eq (c : Orc) (lf : Nat) (l0 : List T) : funK c env lf 6 fi127 [.sl l0] = f127 c lf l0 := by
  refine (f127_raw c lf l0).trans ?_
  have e0 : (fun (l0 : List T) (x62 : Int) (x63 : List T) => lpK c env lf 6 fi127 1 3 [] [0, 3, 4] (x127_3_0) lf (f127_0_c l0 x62 x63)) = (fun (l0 : List T) (x62 : Int) (x63 : List T) => f127_0 c lf l0 lf x62 x63) := by funext l0 x62 x63; exact f127_0_eq c lf l0 lf x62 x63
  rw [e0]; rfl
/-- loop.example/g00285/laws.toDev -/
def f73_t (c : Orc) (lf : Nat) (l0_0 : List T) (n0_1 : Int) (l0_2 : List T) (b0_3 : Bool) : Option (List T) :=
  (c 126 [T.st [T.sl l0_0]]).bind fun r66 =>
  (c 127 [T.sl l0_2]).bind fun r67 =>
  some [T.st [T.sl (asL (T.cell (nth r66 0) 0)), T.i .i64 n0_1, T.sl (asL (nth r67 0)), T.b b0_3]]
def f73 (c : Orc) (lf : Nat) (l0_0 : List T) (n0_1 : Int) (l0_2 : List T) (b0_3 : Bool) : Option (List T) := f73_t c lf l0_0 n0_1 l0_2 b0_3
theorem f73_raw (c : Orc) (lf : Nat) (l0_0 : List T) (n0_1 : Int) (l0_2 : List T) (b0_3 : Bool) : funK c env lf 6 fi73 [.st [.sl l0_0, .i .i64 n0_1, .sl l0_2, .b b0_3]] = f73_t c lf l0_0 n0_1 l0_2 b0_3 := by kernel_rfl
theorem f73_eq (c : Orc) (lf : Nat) (l0_0 : List T) (n0_1 : Int) (l0_2 : List T) (b0_3 : Bool) : funK c env lf 6 fi73 [.st [.sl l0_0, .i .i64 n0_1, .sl l0_2, .b b0_3]] = f73 c lf l0_0 n0_1 l0_2 b0_3 := by
  refine (f73_raw c lf l0_0 n0_1 l0_2 b0_3).trans ?_
  rfl
/-- loop.example/g00285/laws.toLog -/
def f20_t (c : Orc) (lf : Nat) (l0_0 : List T) (n0_1 : Int) (l0_2 : List T) (b0_3 : Bool) (n0_4 : Int) : Option (List T) :=
  (c 73 [T.st [T.sl l0_0, T.i .i64 n0_1, T.sl l0_2, T.b b0_3]]).bind fun r68 =>
  some [T.st [T.sl (asL (T.cell (nth r68 0) 0)), T.i .i64 (asI (T.cell (nth r68 0) 1)), T.sl (asL (T.cell (nth r68 0) 2)), T.b (asB (T.cell (nth r68 0) 3)), T.i .i64 n0_4]]
def f20 (c : Orc) (lf : Nat) (l0_0 : List T) (n0_1 : Int) (l0_2 : List T) (b0_3 : Bool) (n0_4 : Int) : Option (List T) := f20_t c lf l0_0 n0_1 l0_2 b0_3 n0_4
theorem f20_raw (c : Orc) (lf : Nat) (l0_0 : List T) (n0_1 : Int) (l0_2 : List T) (b0_3 : Bool) (n0_4 : Int) : funK c env lf 6 fi20 [.st [.sl l0_0, .i .i64 n0_1, .sl l0_2, .b b0_3, .i .i64 n0_4]] = f20_t c lf l0_0 n0_1 l0_2 b0_3 n0_4 := by kernel_rfl
theorem f20_eq (c : Orc) (lf : Nat) (l0_0 : List T) (n0_1 : Int) (l0_2 : List T) (b0_3 : Bool) (n0_4 : Int) : funK c env lf 6 fi20 [.st [.sl l0_0, .i .i64 n0_1, .sl l0_2, .b b0_3, .i .i64 n0_4]] = f20 c lf l0_0 n0_1 l0_2 b0_3 n0_4 := by
  refine (f20_raw c lf l0_0 n0_1 l0_2 b0_3 n0_4).trans ?_
  rfl
/-- loop.example/g00285/spec.l1In -/
def f71_t (c : Orc) (lf : Nat) (n0 : Int) (n1 : Int) (n2 : Int) : Option (List T) :=
  bif iLe n1 n0 then
    some [T.b (iLe n0 n2)]
  else
    some [T.b false]
def f71 (c : Orc) (lf : Nat) (n0 : Int) (n1 : Int) (n2 : Int) : Option (List T) := f71_t c lf n0 n1 n2
theorem f71_raw (c : Orc) (lf : Nat) (n0 : Int) (n1 : Int) (n2 : Int) : funK c env lf 6 fi71 [.i .i64 n0, .i .i64 n1, .i .i64 n2] = f71_t c lf n0 n1 n2 := by kernel_rfl
theorem f71_eq (c : Orc) (lf : Nat) (n0 : Int) (n1 : Int) (n2 : Int) : funK c env lf 6 fi71 [.i .i64 n0, .i .i64 n1, .i .i64 n2] = f71 c lf n0 n1 n2 := by
  refine (f71_raw c lf n0 n1 n2).trans ?_
  rfl
/-- loop.example/g00285/spec.l10Block, the loop at region 4. -/
def f176_0_s (c : Orc) (lf : Nat) (b0_2 : Bool) (l0_0 : List T) (n0_1 : Int) (L : Int → Option (List T)) (x73 : Int) : Option (List T) :=
  bif iLt x73 (l0_0.length : Int) then
    bif inR x73 l0_0.length then
    bif iLt 400 ((asL (T.cell (l0_0.getD x73.toNat T.u) 1)).length : Int) then
      some [T.i .i64 0, T.b false]
    else
      bif !(asB (T.cell (l0_0.getD x73.toNat T.u) 0)) then
        bif iLt 0 ((asL (T.cell (l0_0.getD x73.toNat T.u) 1)).length : Int) then
          some [T.i .i64 0, T.b false]
        else
          bif iLt 0 x73 then
            bif asB (T.cell (l0_0.getD x73.toNat T.u) 0) then
              bif inR (IntKind.wrap .i64 (x73 - 1)) l0_0.length then
              bif !(asB (T.cell (l0_0.getD ((IntKind.wrap .i64 (x73 - 1)).toNat) T.u) 0)) then
                some [T.i .i64 0, T.b false]
              else
                L (IntKind.wrap .i64 (x73 + 1))
              else none
            else
              L (IntKind.wrap .i64 (x73 + 1))
          else
            L (IntKind.wrap .i64 (x73 + 1))
      else
        bif iLt 0 x73 then
          bif asB (T.cell (l0_0.getD x73.toNat T.u) 0) then
            bif inR (IntKind.wrap .i64 (x73 - 1)) l0_0.length then
            bif !(asB (T.cell (l0_0.getD ((IntKind.wrap .i64 (x73 - 1)).toNat) T.u) 0)) then
              some [T.i .i64 0, T.b false]
            else
              L (IntKind.wrap .i64 (x73 + 1))
            else none
          else
            L (IntKind.wrap .i64 (x73 + 1))
        else
          L (IntKind.wrap .i64 (x73 + 1))
    else none
  else
    some [T.i .i64 1]
def f176_0_c (b0_2 : Bool) (l0_0 : List T) (n0_1 : Int) (x73 : Int) : CSt := ⟨[.bp 3 0, .i .i64 x73], [.dead, .dead, .dead, .box [.ro 0 true [.b, .sl false [.i .u8]] l0_0, .i .i64 n0_1, .b b0_2]]⟩
theorem f176_0_round (c : Orc) (lf : Nat) (b0_2 : Bool) (l0_0 : List T) (n0_1 : Int) (L : CSt → Option (List T)) (x73 : Int) :
    roundK c env lf 6 fi176 3 4 [] [1, 3] (x176_4_0) L (f176_0_c b0_2 l0_0 n0_1 x73) = f176_0_s c lf b0_2 l0_0 n0_1 (fun x73 => L (f176_0_c b0_2 l0_0 n0_1 x73)) x73 := by kernel_rfl
def f176_0 (c : Orc) (lf : Nat) (b0_2 : Bool) (l0_0 : List T) (n0_1 : Int) : Nat → Int → Option (List T)
  | 0 => fun _ => none
  | n + 1 => fun x73 => f176_0_s c lf b0_2 l0_0 n0_1 (f176_0 c lf b0_2 l0_0 n0_1 n) x73
theorem f176_0_u (c : Orc) (lf : Nat) (b0_2 : Bool) (l0_0 : List T) (n0_1 : Int) (n : Nat) (x73 : Int) : f176_0 c lf b0_2 l0_0 n0_1 (n + 1) x73 = f176_0_s c lf b0_2 l0_0 n0_1 (f176_0 c lf b0_2 l0_0 n0_1 n) x73 := rfl
theorem f176_0_eq (c : Orc) (lf : Nat) (b0_2 : Bool) (l0_0 : List T) (n0_1 : Int) (n : Nat) (x73 : Int) :
    lpK c env lf 6 fi176 3 4 [] [1, 3] (x176_4_0) n (f176_0_c b0_2 l0_0 n0_1 x73) = f176_0 c lf b0_2 l0_0 n0_1 n x73 := by
  induction n generalizing x73 with
  | zero => rfl
  | succ n ih =>
    refine (f176_0_round c lf b0_2 l0_0 n0_1 _ x73).trans ?_
    have e : (fun x73 => lpK c env lf 6 fi176 3 4 [] [1, 3] (x176_4_0) n (f176_0_c b0_2 l0_0 n0_1 x73)) = f176_0 c lf b0_2 l0_0 n0_1 n := by funext x73; exact ih x73
    show f176_0_s c lf b0_2 l0_0 n0_1 (fun x73 => lpK c env lf 6 fi176 3 4 [] [1, 3] (x176_4_0) n (f176_0_c b0_2 l0_0 n0_1 x73)) x73 = _
    rw [e]; rfl
/-- loop.example/g00285/spec.l10Block -/
def f176_t (c : Orc) (lf : Nat) (lp0 : Bool → List T → Int → Int → Option (List T)) (l0_0 : List T) (n0_1 : Int) (b0_2 : Bool) : Option (List T) :=
  bif (l0_0.length : Int) != 8 then
    some [T.b false]
  else
    (c 71 [T.i .i64 n0_1, T.i .i64 0, T.i .i64 100000]).bind fun r72 =>
    bif !(asB (nth r72 0)) then
      some [T.b false]
    else
      (lp0 b0_2 l0_0 n0_1 0).bind fun r74 =>
      bif asI (nth r74 0) == 0 then
        some [T.b (asB (nth r74 1))]
      else
        some [T.b true]
def f176 (c : Orc) (lf : Nat) (l0_0 : List T) (n0_1 : Int) (b0_2 : Bool) : Option (List T) := f176_t c lf (fun (b0_2 : Bool) (l0_0 : List T) (n0_1 : Int) (x73 : Int) => f176_0 c lf b0_2 l0_0 n0_1 lf x73) l0_0 n0_1 b0_2
theorem f176_raw (c : Orc) (lf : Nat) (l0_0 : List T) (n0_1 : Int) (b0_2 : Bool) : funK c env lf 6 fi176 [.st [.sl l0_0, .i .i64 n0_1, .b b0_2]] = f176_t c lf (fun (b0_2 : Bool) (l0_0 : List T) (n0_1 : Int) (x73 : Int) => lpK c env lf 6 fi176 3 4 [] [1, 3] (x176_4_0) lf (f176_0_c b0_2 l0_0 n0_1 x73)) l0_0 n0_1 b0_2 := by kernel_rfl
theorem f176_eq (c : Orc) (lf : Nat) (l0_0 : List T) (n0_1 : Int) (b0_2 : Bool) : funK c env lf 6 fi176 [.st [.sl l0_0, .i .i64 n0_1, .b b0_2]] = f176 c lf l0_0 n0_1 b0_2 := by
  refine (f176_raw c lf l0_0 n0_1 b0_2).trans ?_
  have e0 : (fun (b0_2 : Bool) (l0_0 : List T) (n0_1 : Int) (x73 : Int) => lpK c env lf 6 fi176 3 4 [] [1, 3] (x176_4_0) lf (f176_0_c b0_2 l0_0 n0_1 x73)) = (fun (b0_2 : Bool) (l0_0 : List T) (n0_1 : Int) (x73 : Int) => f176_0 c lf b0_2 l0_0 n0_1 lf x73) := by funext b0_2 l0_0 n0_1 x73; exact f176_0_eq c lf b0_2 l0_0 n0_1 lf x73
  rw [e0]; rfl
/-- loop.example/g00285/spec.ChipOk, the loop at region 2. -/
def f124_0_s (c : Orc) (lf : Nat) (l0_0 : List T) (L : Int → Option (List T)) (x81 : Int) : Option (List T) :=
  bif iLt x81 (l0_0.length : Int) then
    bif inR x81 l0_0.length then
    (c 176 [T.st [T.sl (asL (T.cell (l0_0.getD x81.toNat T.u) 0)), T.i .i64 (asI (T.cell (l0_0.getD x81.toNat T.u) 1)), T.b (asB (T.cell (l0_0.getD x81.toNat T.u) 2))]]).bind fun r82 =>
    bif !(asB (nth r82 0)) then
      some [T.i .i64 0, T.b false]
    else
      L (IntKind.wrap .i64 (x81 + 1))
    else none
  else
    some [T.i .i64 1, T.sl l0_0]
def f124_0_c (l0_0 : List T) (x81 : Int) : CSt := ⟨[.bp 1 0, .i .i64 x81], [.dead, .box [.ro 0 true [.sl true [.b, .sl false [.i .u8]], .i .i64, .b] l0_0]]⟩
theorem f124_0_round (c : Orc) (lf : Nat) (l0_0 : List T) (L : CSt → Option (List T)) (x81 : Int) :
    roundK c env lf 6 fi124 1 2 [] [1, 3] (x124_2_0) L (f124_0_c l0_0 x81) = f124_0_s c lf l0_0 (fun x81 => L (f124_0_c l0_0 x81)) x81 := by kernel_rfl
def f124_0 (c : Orc) (lf : Nat) (l0_0 : List T) : Nat → Int → Option (List T)
  | 0 => fun _ => none
  | n + 1 => fun x81 => f124_0_s c lf l0_0 (f124_0 c lf l0_0 n) x81
theorem f124_0_u (c : Orc) (lf : Nat) (l0_0 : List T) (n : Nat) (x81 : Int) : f124_0 c lf l0_0 (n + 1) x81 = f124_0_s c lf l0_0 (f124_0 c lf l0_0 n) x81 := rfl
theorem f124_0_eq (c : Orc) (lf : Nat) (l0_0 : List T) (n : Nat) (x81 : Int) :
    lpK c env lf 6 fi124 1 2 [] [1, 3] (x124_2_0) n (f124_0_c l0_0 x81) = f124_0 c lf l0_0 n x81 := by
  induction n generalizing x81 with
  | zero => rfl
  | succ n ih =>
    refine (f124_0_round c lf l0_0 _ x81).trans ?_
    have e : (fun x81 => lpK c env lf 6 fi124 1 2 [] [1, 3] (x124_2_0) n (f124_0_c l0_0 x81)) = f124_0 c lf l0_0 n := by funext x81; exact ih x81
    show f124_0_s c lf l0_0 (fun x81 => lpK c env lf 6 fi124 1 2 [] [1, 3] (x124_2_0) n (f124_0_c l0_0 x81)) x81 = _
    rw [e]; rfl
/-- loop.example/g00285/spec.ChipOk -/
def f124_t (c : Orc) (lf : Nat) (lp0 : List T → Int → Option (List T)) (l0_0 : List T) : Option (List T) :=
  (lp0 l0_0 0).bind fun r83 =>
  bif asI (nth r83 0) == 0 then
    some [T.b (asB (nth r83 1))]
  else
    (c 71 [T.i .i64 ((asL (nth r83 1)).length : Int), T.i .i64 3, T.i .i64 24]).bind fun r84 =>
    some [T.b (asB (nth r84 0))]
def f124 (c : Orc) (lf : Nat) (l0_0 : List T) : Option (List T) := f124_t c lf (fun (l0_0 : List T) (x81 : Int) => f124_0 c lf l0_0 lf x81) l0_0
theorem f124_raw (c : Orc) (lf : Nat) (l0_0 : List T) : funK c env lf 6 fi124 [.st [.sl l0_0]] = f124_t c lf (fun (l0_0 : List T) (x81 : Int) => lpK c env lf 6 fi124 1 2 [] [1, 3] (x124_2_0) lf (f124_0_c l0_0 x81)) l0_0 := by kernel_rfl
theorem f124_eq (c : Orc) (lf : Nat) (l0_0 : List T) : funK c env lf 6 fi124 [.st [.sl l0_0]] = f124 c lf l0_0 := by
  refine (f124_raw c lf l0_0).trans ?_
  have e0 : (fun (l0_0 : List T) (x81 : Int) => lpK c env lf 6 fi124 1 2 [] [1, 3] (x124_2_0) lf (f124_0_c l0_0 x81)) = (fun (l0_0 : List T) (x81 : Int) => f124_0 c lf l0_0 lf x81) := by funext l0_0 x81; exact f124_0_eq c lf l0_0 lf x81
  rw [e0]; rfl
/-- loop.example/g00285/spec.l11Faults, the loop at region 2. -/
def f125_0_s (c : Orc) (lf : Nat) (l0 : List T) (L : Int → Option (List T)) (x96 : Int) : Option (List T) :=
  bif iLt x96 (l0.length : Int) then
    bif inR x96 l0.length then
    (c 71 [T.i .i64 (asI (T.cell (l0.getD x96.toNat T.u) 0)), T.i .i64 0, T.i .i64 100000]).bind fun r97 =>
    bif !(asB (nth r97 0)) then
      some [T.i .i64 0, T.b false]
    else
      bif inR x96 l0.length then
      (c 71 [T.i .i64 (asI (T.cell (l0.getD x96.toNat T.u) 1)), T.i .i64 1, T.i .i64 2]).bind fun r98 =>
      bif !(asB (nth r98 0)) then
        some [T.i .i64 0, T.b false]
      else
        bif inR x96 l0.length then
        (c 71 [T.i .i64 (asI (T.cell (l0.getD x96.toNat T.u) 2)), T.i .i64 0, T.i .i64 400]).bind fun r99 =>
        bif !(asB (nth r99 0)) then
          some [T.i .i64 0, T.b false]
        else
          bif iLt 0 x96 then
            bif inR (IntKind.wrap .i64 (x96 - 1)) l0.length then
            bif inR x96 l0.length then
            bif iLe (asI (T.cell (l0.getD x96.toNat T.u) 0)) (asI (T.cell (l0.getD ((IntKind.wrap .i64 (x96 - 1)).toNat) T.u) 0)) then
              some [T.i .i64 0, T.b false]
            else
              L (IntKind.wrap .i64 (x96 + 1))
            else none
            else none
          else
            L (IntKind.wrap .i64 (x96 + 1))
        else none
      else none
    else none
  else
    some [T.i .i64 1, T.sl l0]
def f125_0_c (l0 : List T) (x96 : Int) : CSt := ⟨[.ro 0 true [.i .i64, .i .i64, .i .i64] l0, .i .i64 x96], [.dead]⟩
theorem f125_0_round (c : Orc) (lf : Nat) (l0 : List T) (L : CSt → Option (List T)) (x96 : Int) :
    roundK c env lf 6 fi125 1 2 [] [0, 3] (x125_2_0) L (f125_0_c l0 x96) = f125_0_s c lf l0 (fun x96 => L (f125_0_c l0 x96)) x96 := by kernel_rfl
def f125_0 (c : Orc) (lf : Nat) (l0 : List T) : Nat → Int → Option (List T)
  | 0 => fun _ => none
  | n + 1 => fun x96 => f125_0_s c lf l0 (f125_0 c lf l0 n) x96
theorem f125_0_u (c : Orc) (lf : Nat) (l0 : List T) (n : Nat) (x96 : Int) : f125_0 c lf l0 (n + 1) x96 = f125_0_s c lf l0 (f125_0 c lf l0 n) x96 := rfl
theorem f125_0_eq (c : Orc) (lf : Nat) (l0 : List T) (n : Nat) (x96 : Int) :
    lpK c env lf 6 fi125 1 2 [] [0, 3] (x125_2_0) n (f125_0_c l0 x96) = f125_0 c lf l0 n x96 := by
  induction n generalizing x96 with
  | zero => rfl
  | succ n ih =>
    refine (f125_0_round c lf l0 _ x96).trans ?_
    have e : (fun x96 => lpK c env lf 6 fi125 1 2 [] [0, 3] (x125_2_0) n (f125_0_c l0 x96)) = f125_0 c lf l0 n := by funext x96; exact ih x96
    show f125_0_s c lf l0 (fun x96 => lpK c env lf 6 fi125 1 2 [] [0, 3] (x125_2_0) n (f125_0_c l0 x96)) x96 = _
    rw [e]; rfl
/-- loop.example/g00285/spec.l11Faults -/
def f125_t (c : Orc) (lf : Nat) (lp0 : List T → Int → Option (List T)) (l0 : List T) : Option (List T) :=
  (lp0 l0 0).bind fun r100 =>
  bif asI (nth r100 0) == 0 then
    some [T.b (asB (nth r100 1))]
  else
    some [T.b (iLe ((asL (nth r100 1)).length : Int) 20)]
def f125 (c : Orc) (lf : Nat) (l0 : List T) : Option (List T) := f125_t c lf (fun (l0 : List T) (x96 : Int) => f125_0 c lf l0 lf x96) l0
theorem f125_raw (c : Orc) (lf : Nat) (l0 : List T) : funK c env lf 6 fi125 [.sl l0] = f125_t c lf (fun (l0 : List T) (x96 : Int) => lpK c env lf 6 fi125 1 2 [] [0, 3] (x125_2_0) lf (f125_0_c l0 x96)) l0 := by kernel_rfl
theorem f125_eq (c : Orc) (lf : Nat) (l0 : List T) : funK c env lf 6 fi125 [.sl l0] = f125 c lf l0 := by
  refine (f125_raw c lf l0).trans ?_
  have e0 : (fun (l0 : List T) (x96 : Int) => lpK c env lf 6 fi125 1 2 [] [0, 3] (x125_2_0) lf (f125_0_c l0 x96)) = (fun (l0 : List T) (x96 : Int) => f125_0 c lf l0 lf x96) := by funext l0 x96; exact f125_0_eq c lf l0 lf x96
  rw [e0]; rfl
/-- loop.example/g00285/spec.DevOk -/
def f70_t (c : Orc) (lf : Nat) (l0_0 : List T) (n0_1 : Int) (l0_2 : List T) (b0_3 : Bool) : Option (List T) :=
  (c 124 [T.st [T.sl l0_0]]).bind fun r101 =>
  bif asB (nth r101 0) then
    (c 71 [T.i .i64 n0_1, T.i .i64 0, T.i .i64 100000]).bind fun r102 =>
    bif asB (nth r102 0) then
      (c 125 [T.sl l0_2]).bind fun r103 =>
      some [T.b (asB (nth r103 0))]
    else
      some [T.b false]
  else
    some [T.b false]
def f70 (c : Orc) (lf : Nat) (l0_0 : List T) (n0_1 : Int) (l0_2 : List T) (b0_3 : Bool) : Option (List T) := f70_t c lf l0_0 n0_1 l0_2 b0_3
theorem f70_raw (c : Orc) (lf : Nat) (l0_0 : List T) (n0_1 : Int) (l0_2 : List T) (b0_3 : Bool) : funK c env lf 6 fi70 [.st [.sl l0_0, .i .i64 n0_1, .sl l0_2, .b b0_3]] = f70_t c lf l0_0 n0_1 l0_2 b0_3 := by kernel_rfl
theorem f70_eq (c : Orc) (lf : Nat) (l0_0 : List T) (n0_1 : Int) (l0_2 : List T) (b0_3 : Bool) : funK c env lf 6 fi70 [.st [.sl l0_0, .i .i64 n0_1, .sl l0_2, .b b0_3]] = f70 c lf l0_0 n0_1 l0_2 b0_3 := by
  refine (f70_raw c lf l0_0 n0_1 l0_2 b0_3).trans ?_
  rfl
/-- loop.example/g00285/spec.GetNum, the loop at region 3. -/
def f181_0_s (c : Orc) (lf : Nat) (l0 : List T) (n1 : Int) (L : Int → Int → Option (List T)) (x107 : Int) (x108 : Int) : Option (List T) :=
  bif iLt x108 3 then
    bif iLe 0 n1 then
      bif iLt n1 (l0.length : Int) then
        bif iLt (IntKind.wrap .i64 (n1 + x108)) (l0.length : Int) then
          bif inR (IntKind.wrap .i64 (n1 + x108)) l0.length then
          bif iLe 0 (IntKind.wrap .u64 (IntKind.wrap .i64 (7 * x108))) then
          bif iLt 127 (IntKind.wrap .i64 (asI (l0.getD ((IntKind.wrap .i64 (n1 + x108)).toNat) T.u))) then
            L (intBits .or .i64 x107 (shiftI .shl .i64 (intBits .and .i64 (IntKind.wrap .i64 (asI (l0.getD ((IntKind.wrap .i64 (n1 + x108)).toNat) T.u))) 127) (IntKind.wrap .u64 (IntKind.wrap .i64 (7 * x108))))) (IntKind.wrap .i64 (x108 + 1))
          else
            bif iLt 0 x108 then
              bif (IntKind.wrap .i64 (asI (l0.getD ((IntKind.wrap .i64 (n1 + x108)).toNat) T.u))) == 0 then
                some [T.i .i64 0, T.i .i64 0, T.i .i64 0, T.b false]
              else
                bif iLt 1000000 (intBits .or .i64 x107 (shiftI .shl .i64 (intBits .and .i64 (IntKind.wrap .i64 (asI (l0.getD ((IntKind.wrap .i64 (n1 + x108)).toNat) T.u))) 127) (IntKind.wrap .u64 (IntKind.wrap .i64 (7 * x108))))) then
                  some [T.i .i64 0, T.i .i64 0, T.i .i64 0, T.b false]
                else
                  some [T.i .i64 0, T.i .i64 (intBits .or .i64 x107 (shiftI .shl .i64 (intBits .and .i64 (IntKind.wrap .i64 (asI (l0.getD ((IntKind.wrap .i64 (n1 + x108)).toNat) T.u))) 127) (IntKind.wrap .u64 (IntKind.wrap .i64 (7 * x108))))), T.i .i64 (IntKind.wrap .i64 ((IntKind.wrap .i64 (n1 + x108)) + 1)), T.b true]
            else
              bif iLt 1000000 (intBits .or .i64 x107 (shiftI .shl .i64 (intBits .and .i64 (IntKind.wrap .i64 (asI (l0.getD ((IntKind.wrap .i64 (n1 + x108)).toNat) T.u))) 127) (IntKind.wrap .u64 (IntKind.wrap .i64 (7 * x108))))) then
                some [T.i .i64 0, T.i .i64 0, T.i .i64 0, T.b false]
              else
                some [T.i .i64 0, T.i .i64 (intBits .or .i64 x107 (shiftI .shl .i64 (intBits .and .i64 (IntKind.wrap .i64 (asI (l0.getD ((IntKind.wrap .i64 (n1 + x108)).toNat) T.u))) 127) (IntKind.wrap .u64 (IntKind.wrap .i64 (7 * x108))))), T.i .i64 (IntKind.wrap .i64 ((IntKind.wrap .i64 (n1 + x108)) + 1)), T.b true]
          else none
          else none
        else
          some [T.i .i64 1]
      else
        some [T.i .i64 1]
    else
      some [T.i .i64 1]
  else
    some [T.i .i64 1]
def f181_0_c (l0 : List T) (n1 : Int) (x107 : Int) (x108 : Int) : CSt := ⟨[.ro 0 false [.i .u8] l0, .i .i64 n1, .i .i64 x107, .i .i64 x108], [.dead, .dead]⟩
theorem f181_0_round (c : Orc) (lf : Nat) (l0 : List T) (n1 : Int) (L : CSt → Option (List T)) (x107 : Int) (x108 : Int) :
    roundK c env lf 6 fi181 2 3 [] [0, 1, 7, 8] (x181_3_0) L (f181_0_c l0 n1 x107 x108) = f181_0_s c lf l0 n1 (fun x107 x108 => L (f181_0_c l0 n1 x107 x108)) x107 x108 := by kernel_rfl
def f181_0 (c : Orc) (lf : Nat) (l0 : List T) (n1 : Int) : Nat → Int → Int → Option (List T)
  | 0 => fun _ _ => none
  | n + 1 => fun x107 x108 => f181_0_s c lf l0 n1 (f181_0 c lf l0 n1 n) x107 x108
theorem f181_0_u (c : Orc) (lf : Nat) (l0 : List T) (n1 : Int) (n : Nat) (x107 : Int) (x108 : Int) : f181_0 c lf l0 n1 (n + 1) x107 x108 = f181_0_s c lf l0 n1 (f181_0 c lf l0 n1 n) x107 x108 := rfl
theorem f181_0_eq (c : Orc) (lf : Nat) (l0 : List T) (n1 : Int) (n : Nat) (x107 : Int) (x108 : Int) :
    lpK c env lf 6 fi181 2 3 [] [0, 1, 7, 8] (x181_3_0) n (f181_0_c l0 n1 x107 x108) = f181_0 c lf l0 n1 n x107 x108 := by
  induction n generalizing x107 x108 with
  | zero => rfl
  | succ n ih =>
    refine (f181_0_round c lf l0 n1 _ x107 x108).trans ?_
    have e : (fun x107 x108 => lpK c env lf 6 fi181 2 3 [] [0, 1, 7, 8] (x181_3_0) n (f181_0_c l0 n1 x107 x108)) = f181_0 c lf l0 n1 n := by funext x107 x108; exact ih x107 x108
    show f181_0_s c lf l0 n1 (fun x107 x108 => lpK c env lf 6 fi181 2 3 [] [0, 1, 7, 8] (x181_3_0) n (f181_0_c l0 n1 x107 x108)) x107 x108 = _
    rw [e]; rfl
/-- loop.example/g00285/spec.GetNum -/
def f181_t (c : Orc) (lf : Nat) (lp0 : List T → Int → Int → Int → Option (List T)) (l0 : List T) (n1 : Int) : Option (List T) :=
  (lp0 l0 n1 0 0).bind fun r109 =>
  bif asI (nth r109 0) == 0 then
    some [T.i .i64 (asI (nth r109 1)), T.i .i64 (asI (nth r109 2)), T.b (asB (nth r109 3))]
  else
    some [T.i .i64 0, T.i .i64 0, T.b false]
def f181 (c : Orc) (lf : Nat) (l0 : List T) (n1 : Int) : Option (List T) := f181_t c lf (fun (l0 : List T) (n1 : Int) (x107 : Int) (x108 : Int) => f181_0 c lf l0 n1 lf x107 x108) l0 n1
theorem f181_raw (c : Orc) (lf : Nat) (l0 : List T) (n1 : Int) : funK c env lf 6 fi181 [.sl l0, .i .i64 n1] = f181_t c lf (fun (l0 : List T) (n1 : Int) (x107 : Int) (x108 : Int) => lpK c env lf 6 fi181 2 3 [] [0, 1, 7, 8] (x181_3_0) lf (f181_0_c l0 n1 x107 x108)) l0 n1 := by kernel_rfl
theorem f181_eq (c : Orc) (lf : Nat) (l0 : List T) (n1 : Int) : funK c env lf 6 fi181 [.sl l0, .i .i64 n1] = f181 c lf l0 n1 := by
  refine (f181_raw c lf l0 n1).trans ?_
  have e0 : (fun (l0 : List T) (n1 : Int) (x107 : Int) (x108 : Int) => lpK c env lf 6 fi181 2 3 [] [0, 1, 7, 8] (x181_3_0) lf (f181_0_c l0 n1 x107 x108)) = (fun (l0 : List T) (n1 : Int) (x107 : Int) (x108 : Int) => f181_0 c lf l0 n1 lf x107 x108) := by funext l0 n1 x107 x108; exact f181_0_eq c lf l0 n1 lf x107 x108
  rw [e0]; rfl
/-- loop.example/g00285/spec.l3Num -/
def f131_t (c : Orc) (lf : Nat) (l0_0 : List T) (n0_1 : Int) (b0_2 : Bool) : Option (List T) :=
  (c 181 [T.sl l0_0, T.i .i64 n0_1]).bind fun r110 =>
  bif b0_2 then
    some [T.i .i64 0, T.st [T.sl l0_0, T.i .i64 n0_1, T.b true]]
  else
    bif !(asB (nth r110 2)) then
      some [T.i .i64 0, T.st [T.sl l0_0, T.i .i64 n0_1, T.b true]]
    else
      some [T.i .i64 (asI (nth r110 0)), T.st [T.sl l0_0, T.i .i64 (asI (nth r110 1)), T.b b0_2]]
def f131 (c : Orc) (lf : Nat) (l0_0 : List T) (n0_1 : Int) (b0_2 : Bool) : Option (List T) := f131_t c lf l0_0 n0_1 b0_2
theorem f131_raw (c : Orc) (lf : Nat) (l0_0 : List T) (n0_1 : Int) (b0_2 : Bool) : funK c env lf 6 fi131 [.st [.sl l0_0, .i .i64 n0_1, .b b0_2]] = f131_t c lf l0_0 n0_1 b0_2 := by kernel_rfl
theorem f131_eq (c : Orc) (lf : Nat) (l0_0 : List T) (n0_1 : Int) (b0_2 : Bool) : funK c env lf 6 fi131 [.st [.sl l0_0, .i .i64 n0_1, .b b0_2]] = f131 c lf l0_0 n0_1 b0_2 := by
  refine (f131_raw c lf l0_0 n0_1 b0_2).trans ?_
  rfl
/-- loop.example/g00285/spec.GetText -/
def f182_t (c : Orc) (lf : Nat) (l0 : List T) (n1 : Int) : Option (List T) :=
  (c 181 [T.sl l0, T.i .i64 n1]).bind fun r111 =>
  bif !(asB (nth r111 2)) then
    some [T.s (⟨#[]⟩ : ByteArray), T.i .i64 0, T.b false]
  else
    bif iLt (IntKind.wrap .i64 ((l0.length : Int) - (asI (nth r111 1)))) (asI (nth r111 0)) then
      some [T.s (⟨#[]⟩ : ByteArray), T.i .i64 0, T.b false]
    else
      bif iLe 0 (asI (nth r111 1)) && iLe (asI (nth r111 1)) (IntKind.wrap .i64 ((asI (nth r111 1)) + (asI (nth r111 0)))) && iLe (IntKind.wrap .i64 ((asI (nth r111 1)) + (asI (nth r111 0)))) (l0.length : Int) then
      some [T.s (bytesOf ((l0.drop ((asI (nth r111 1)).toNat)).take (((IntKind.wrap .i64 ((asI (nth r111 1)) + (asI (nth r111 0)))).toNat) - ((asI (nth r111 1)).toNat)))), T.i .i64 (IntKind.wrap .i64 ((asI (nth r111 1)) + (asI (nth r111 0)))), T.b true]
      else none
def f182 (c : Orc) (lf : Nat) (l0 : List T) (n1 : Int) : Option (List T) := f182_t c lf l0 n1
theorem f182_raw (c : Orc) (lf : Nat) (l0 : List T) (n1 : Int) : funK c env lf 6 fi182 [.sl l0, .i .i64 n1] = f182_t c lf l0 n1 := by kernel_rfl
theorem f182_eq (c : Orc) (lf : Nat) (l0 : List T) (n1 : Int) : funK c env lf 6 fi182 [.sl l0, .i .i64 n1] = f182 c lf l0 n1 := by
  refine (f182_raw c lf l0 n1).trans ?_
  rfl
/-- loop.example/g00285/spec.l3Text -/
def f132_t (c : Orc) (lf : Nat) (l0_0 : List T) (n0_1 : Int) (b0_2 : Bool) : Option (List T) :=
  (c 182 [T.sl l0_0, T.i .i64 n0_1]).bind fun r112 =>
  bif b0_2 then
    some [T.s (⟨#[]⟩ : ByteArray), T.st [T.sl l0_0, T.i .i64 n0_1, T.b true]]
  else
    bif !(asB (nth r112 2)) then
      some [T.s (⟨#[]⟩ : ByteArray), T.st [T.sl l0_0, T.i .i64 n0_1, T.b true]]
    else
      some [T.s (asS (nth r112 0)), T.st [T.sl l0_0, T.i .i64 (asI (nth r112 1)), T.b b0_2]]
def f132 (c : Orc) (lf : Nat) (l0_0 : List T) (n0_1 : Int) (b0_2 : Bool) : Option (List T) := f132_t c lf l0_0 n0_1 b0_2
theorem f132_raw (c : Orc) (lf : Nat) (l0_0 : List T) (n0_1 : Int) (b0_2 : Bool) : funK c env lf 6 fi132 [.st [.sl l0_0, .i .i64 n0_1, .b b0_2]] = f132_t c lf l0_0 n0_1 b0_2 := by kernel_rfl
theorem f132_eq (c : Orc) (lf : Nat) (l0_0 : List T) (n0_1 : Int) (b0_2 : Bool) : funK c env lf 6 fi132 [.st [.sl l0_0, .i .i64 n0_1, .b b0_2]] = f132 c lf l0_0 n0_1 b0_2 := by
  refine (f132_raw c lf l0_0 n0_1 b0_2).trans ?_
  rfl
/-- loop.example/g00285/spec.Crc, the loop at region 7. -/
def f133_1_s (c : Orc) (lf : Nat) (x126 : List T) (x128 : Int) (L : Int → Int → Option (List T)) (x129 : Int) (x130 : Int) : Option (List T) :=
  bif iLt x130 8 then
    bif (intBits .and .i64 x129 1) == 1 then
      L (intBits .xor .i64 (shiftI .shr .i64 x129 1) 2197175160) (IntKind.wrap .i64 (x130 + 1))
    else
      L (shiftI .shr .i64 x129 1) (IntKind.wrap .i64 (x130 + 1))
  else
    some [T.i .i64 0, T.sl x126, T.i .i64 x129, T.i .i64 x128]
def f133_1_c (x126 : List T) (x128 : Int) (x129 : Int) (x130 : Int) : CSt := ⟨[.ro 0 false [.i .u8] x126, .i .i64 x129, .i .i64 x128, .i .i64 x130], [.dead]⟩
theorem f133_1_round (c : Orc) (lf : Nat) (x126 : List T) (x128 : Int) (L : CSt → Option (List T)) (x129 : Int) (x130 : Int) :
    roundK c env lf 6 fi133 1 7 [] [0, 3, 4, 5] (x133_7_0) L (f133_1_c x126 x128 x129 x130) = f133_1_s c lf x126 x128 (fun x129 x130 => L (f133_1_c x126 x128 x129 x130)) x129 x130 := by kernel_rfl
def f133_1 (c : Orc) (lf : Nat) (x126 : List T) (x128 : Int) : Nat → Int → Int → Option (List T)
  | 0 => fun _ _ => none
  | n + 1 => fun x129 x130 => f133_1_s c lf x126 x128 (f133_1 c lf x126 x128 n) x129 x130
theorem f133_1_u (c : Orc) (lf : Nat) (x126 : List T) (x128 : Int) (n : Nat) (x129 : Int) (x130 : Int) : f133_1 c lf x126 x128 (n + 1) x129 x130 = f133_1_s c lf x126 x128 (f133_1 c lf x126 x128 n) x129 x130 := rfl
theorem f133_1_eq (c : Orc) (lf : Nat) (x126 : List T) (x128 : Int) (n : Nat) (x129 : Int) (x130 : Int) :
    lpK c env lf 6 fi133 1 7 [] [0, 3, 4, 5] (x133_7_0) n (f133_1_c x126 x128 x129 x130) = f133_1 c lf x126 x128 n x129 x130 := by
  induction n generalizing x129 x130 with
  | zero => rfl
  | succ n ih =>
    refine (f133_1_round c lf x126 x128 _ x129 x130).trans ?_
    have e : (fun x129 x130 => lpK c env lf 6 fi133 1 7 [] [0, 3, 4, 5] (x133_7_0) n (f133_1_c x126 x128 x129 x130)) = f133_1 c lf x126 x128 n := by funext x129 x130; exact ih x129 x130
    show f133_1_s c lf x126 x128 (fun x129 x130 => lpK c env lf 6 fi133 1 7 [] [0, 3, 4, 5] (x133_7_0) n (f133_1_c x126 x128 x129 x130)) x129 x130 = _
    rw [e]; rfl
/-- loop.example/g00285/spec.Crc, the loop at region 3. -/
def f133_0_s (c : Orc) (lf : Nat) (L : List T → Int → Int → Option (List T)) (lp0 : List T → Int → Int → Int → Option (List T)) (x126 : List T) (x127 : Int) (x128 : Int) : Option (List T) :=
  bif iLt x128 (x126.length : Int) then
    bif inR x128 x126.length then
    (lp0 x126 x128 (intBits .xor .i64 x127 (IntKind.wrap .i64 (asI (x126.getD x128.toNat T.u)))) 0).bind fun r131 =>
    L (asL (nth r131 1)) (asI (nth r131 2)) (IntKind.wrap .i64 ((asI (nth r131 3)) + 1))
    else none
  else
    some [T.i .i64 0, T.i .i64 x127]
def f133_0_c (x126 : List T) (x127 : Int) (x128 : Int) : CSt := ⟨[.ro 0 false [.i .u8] x126, .i .i64 x127, .i .i64 x128], [.dead]⟩
theorem f133_0_round (c : Orc) (lf : Nat) (L : CSt → Option (List T)) (x126 : List T) (x127 : Int) (x128 : Int) :
    roundK c env lf 6 fi133 1 3 [] [0, 3, 4] (x133_3_0) L (f133_0_c x126 x127 x128) = f133_0_s c lf (fun x126 x127 x128 => L (f133_0_c x126 x127 x128)) (fun (x126 : List T) (x128 : Int) (x129 : Int) (x130 : Int) => lpK c env lf 6 fi133 1 7 [] [0, 3, 4, 5] (x133_7_0) lf (f133_1_c x126 x128 x129 x130)) x126 x127 x128 := by kernel_rfl
def f133_0 (c : Orc) (lf : Nat) : Nat → List T → Int → Int → Option (List T)
  | 0 => fun _ _ _ => none
  | n + 1 => fun x126 x127 x128 => f133_0_s c lf (f133_0 c lf n) (fun (x126 : List T) (x128 : Int) (x129 : Int) (x130 : Int) => f133_1 c lf x126 x128 lf x129 x130) x126 x127 x128
theorem f133_0_u (c : Orc) (lf : Nat) (n : Nat) (x126 : List T) (x127 : Int) (x128 : Int) : f133_0 c lf (n + 1) x126 x127 x128 = f133_0_s c lf (f133_0 c lf n) (fun (x126 : List T) (x128 : Int) (x129 : Int) (x130 : Int) => f133_1 c lf x126 x128 lf x129 x130) x126 x127 x128 := rfl
theorem f133_0_eq (c : Orc) (lf : Nat) (n : Nat) (x126 : List T) (x127 : Int) (x128 : Int) :
    lpK c env lf 6 fi133 1 3 [] [0, 3, 4] (x133_3_0) n (f133_0_c x126 x127 x128) = f133_0 c lf n x126 x127 x128 := by
  induction n generalizing x126 x127 x128 with
  | zero => rfl
  | succ n ih =>
    refine (f133_0_round c lf _ x126 x127 x128).trans ?_
    have e : (fun x126 x127 x128 => lpK c env lf 6 fi133 1 3 [] [0, 3, 4] (x133_3_0) n (f133_0_c x126 x127 x128)) = f133_0 c lf n := by funext x126 x127 x128; exact ih x126 x127 x128
    have e0 : (fun (x126 : List T) (x128 : Int) (x129 : Int) (x130 : Int) => lpK c env lf 6 fi133 1 7 [] [0, 3, 4, 5] (x133_7_0) lf (f133_1_c x126 x128 x129 x130)) = (fun (x126 : List T) (x128 : Int) (x129 : Int) (x130 : Int) => f133_1 c lf x126 x128 lf x129 x130) := by funext x126 x128 x129 x130; exact f133_1_eq c lf x126 x128 lf x129 x130
    show f133_0_s c lf (fun x126 x127 x128 => lpK c env lf 6 fi133 1 3 [] [0, 3, 4] (x133_3_0) n (f133_0_c x126 x127 x128)) (fun (x126 : List T) (x128 : Int) (x129 : Int) (x130 : Int) => lpK c env lf 6 fi133 1 7 [] [0, 3, 4, 5] (x133_7_0) lf (f133_1_c x126 x128 x129 x130)) x126 x127 x128 = _
    rw [e, e0]; rfl
/-- loop.example/g00285/spec.Crc -/
def f133_t (c : Orc) (lf : Nat) (lp0 : List T → Int → Int → Option (List T)) (l0 : List T) : Option (List T) :=
  (lp0 l0 4294967295 0).bind fun r132 =>
  some [T.i .i64 (intBits .xor .i64 (asI (nth r132 1)) 4294967295)]
def f133 (c : Orc) (lf : Nat) (l0 : List T) : Option (List T) := f133_t c lf (fun (x126 : List T) (x127 : Int) (x128 : Int) => f133_0 c lf lf x126 x127 x128) l0
theorem f133_raw (c : Orc) (lf : Nat) (l0 : List T) : funK c env lf 6 fi133 [.sl l0] = f133_t c lf (fun (x126 : List T) (x127 : Int) (x128 : Int) => lpK c env lf 6 fi133 1 3 [] [0, 3, 4] (x133_3_0) lf (f133_0_c x126 x127 x128)) l0 := by kernel_rfl
theorem f133_eq (c : Orc) (lf : Nat) (l0 : List T) : funK c env lf 6 fi133 [.sl l0] = f133 c lf l0 := by
  refine (f133_raw c lf l0).trans ?_
  have e0 : (fun (x126 : List T) (x127 : Int) (x128 : Int) => lpK c env lf 6 fi133 1 3 [] [0, 3, 4] (x133_3_0) lf (f133_0_c x126 x127 x128)) = (fun (x126 : List T) (x127 : Int) (x128 : Int) => f133_0 c lf lf x126 x127 x128) := by funext x126 x127 x128; exact f133_0_eq c lf lf x126 x127 x128
  rw [e0]; rfl
/-- loop.example/g00285/spec.RecOk -/
def f103_t (c : Orc) (lf : Nat) (n0_0 : Int) (n0_1 : Int) (l0_2 : List T) : Option (List T) :=
  (c 71 [T.i .i64 n0_0, T.i .i64 1, T.i .i64 4]).bind fun r133 =>
  bif asB (nth r133 0) then
    (c 71 [T.i .i64 n0_1, T.i .i64 0, T.i .i64 1000000]).bind fun r134 =>
    bif asB (nth r134 0) then
      some [T.b (iLe (l0_2.length : Int) 380)]
    else
      some [T.b false]
  else
    some [T.b false]
def f103 (c : Orc) (lf : Nat) (n0_0 : Int) (n0_1 : Int) (l0_2 : List T) : Option (List T) := f103_t c lf n0_0 n0_1 l0_2
theorem f103_raw (c : Orc) (lf : Nat) (n0_0 : Int) (n0_1 : Int) (l0_2 : List T) : funK c env lf 6 fi103 [.st [.i .i64 n0_0, .i .i64 n0_1, .sl l0_2]] = f103_t c lf n0_0 n0_1 l0_2 := by kernel_rfl
theorem f103_eq (c : Orc) (lf : Nat) (n0_0 : Int) (n0_1 : Int) (l0_2 : List T) : funK c env lf 6 fi103 [.st [.i .i64 n0_0, .i .i64 n0_1, .sl l0_2]] = f103 c lf n0_0 n0_1 l0_2 := by
  refine (f103_raw c lf n0_0 n0_1 l0_2).trans ?_
  rfl
/-- loop.example/g00285/spec.GetRec, the loop at region 6. -/
def f80_0_s (c : Orc) (lf : Nat) (l0 : List T) (L : Int → Int → Option (List T)) (x143 : Int) (x144 : Int) : Option (List T) :=
  bif iLt x144 (l0.length : Int) then
    bif inR x144 l0.length then
    L (intBits .or .i64 (shiftI .shl .i64 x143 8) (IntKind.wrap .i64 (asI (l0.getD x144.toNat T.u)))) (IntKind.wrap .i64 (x144 + 1))
    else none
  else
    some [T.i .i64 0, T.sl l0, T.i .i64 (IntKind.wrap .i64 ((l0.length : Int) - 4)), T.i .i64 x143, T.i .i64 0, T.i .i64 0, T.sl ([] : List T)]
def f80_0_c (l0 : List T) (x143 : Int) (x144 : Int) : CSt := ⟨[.ro 0 false [.i .u8] l0, .bp 1 0, .i .i64 (IntKind.wrap .i64 ((l0.length : Int) - 4)), .i .i64 x143, .i .i64 x144], [.dead, .box [.i .i64 0, .i .i64 0, .rf 2 [] 0 none], .row false [.i .u8] ([] : List T) 0 false]⟩
theorem f80_0_round (c : Orc) (lf : Nat) (l0 : List T) (L : CSt → Option (List T)) (x143 : Int) (x144 : Int) :
    roundK c env lf 6 fi80 1 6 [] [0, 2, 4, 5, 6] (x80_6_0) L (f80_0_c l0 x143 x144) = f80_0_s c lf l0 (fun x143 x144 => L (f80_0_c l0 x143 x144)) x143 x144 := by kernel_rfl
def f80_0 (c : Orc) (lf : Nat) (l0 : List T) : Nat → Int → Int → Option (List T)
  | 0 => fun _ _ => none
  | n + 1 => fun x143 x144 => f80_0_s c lf l0 (f80_0 c lf l0 n) x143 x144
theorem f80_0_u (c : Orc) (lf : Nat) (l0 : List T) (n : Nat) (x143 : Int) (x144 : Int) : f80_0 c lf l0 (n + 1) x143 x144 = f80_0_s c lf l0 (f80_0 c lf l0 n) x143 x144 := rfl
theorem f80_0_eq (c : Orc) (lf : Nat) (l0 : List T) (n : Nat) (x143 : Int) (x144 : Int) :
    lpK c env lf 6 fi80 1 6 [] [0, 2, 4, 5, 6] (x80_6_0) n (f80_0_c l0 x143 x144) = f80_0 c lf l0 n x143 x144 := by
  induction n generalizing x143 x144 with
  | zero => rfl
  | succ n ih =>
    refine (f80_0_round c lf l0 _ x143 x144).trans ?_
    have e : (fun x143 x144 => lpK c env lf 6 fi80 1 6 [] [0, 2, 4, 5, 6] (x80_6_0) n (f80_0_c l0 x143 x144)) = f80_0 c lf l0 n := by funext x143 x144; exact ih x143 x144
    show f80_0_s c lf l0 (fun x143 x144 => lpK c env lf 6 fi80 1 6 [] [0, 2, 4, 5, 6] (x80_6_0) n (f80_0_c l0 x143 x144)) x143 x144 = _
    rw [e]; rfl
/-- loop.example/g00285/spec.GetRec -/
def f80_t (c : Orc) (lf : Nat) (lp0 : List T → Int → Int → Option (List T)) (l0 : List T) : Option (List T) :=
  bif iLt (IntKind.wrap .i64 ((l0.length : Int) - 4)) 0 then
    some [T.st [T.i .i64 0, T.i .i64 0, T.sl []], T.b false]
  else
    (lp0 l0 0 (IntKind.wrap .i64 ((l0.length : Int) - 4))).bind fun r145 =>
    bif iLe 0 (asI (nth r145 2)) && iLe (asI (nth r145 2)) ((asL (nth r145 1)).length : Int) then
    (c 131 [T.st [T.sl ((asL (nth r145 1)).take ((asI (nth r145 2)).toNat)), T.i .i64 0, T.b false]]).bind fun r146 =>
    (c 131 [T.st [T.sl ((asL (nth r145 1)).take ((asI (nth r145 2)).toNat)), T.i .i64 (asI (T.cell (nth r146 1) 1)), T.b (asB (T.cell (nth r146 1) 2))]]).bind fun r147 =>
    (c 132 [T.st [T.sl ((asL (nth r145 1)).take ((asI (nth r145 2)).toNat)), T.i .i64 (asI (T.cell (nth r147 1) 1)), T.b (asB (T.cell (nth r147 1) 2))]]).bind fun r148 =>
    bif nLe (asS (nth r148 0)).size LIM then
    bif asB (T.cell (nth r148 1) 2) then
      some [T.st [T.i .i64 0, T.i .i64 0, T.sl []], T.b false]
    else
      bif (asI (T.cell (nth r148 1) 1)) != (asI (nth r145 2)) then
        some [T.st [T.i .i64 0, T.i .i64 0, T.sl []], T.b false]
      else
        bif iLe 0 (asI (nth r145 2)) && iLe (asI (nth r145 2)) ((asL (nth r145 1)).length : Int) then
        (c 133 [T.sl ((asL (nth r145 1)).take ((asI (nth r145 2)).toNat))]).bind fun r149 =>
        bif (asI (nth r145 3)) != (asI (nth r149 0)) then
          some [T.st [T.i .i64 0, T.i .i64 0, T.sl []], T.b false]
        else
          (c 103 [T.st [T.i .i64 (asI (nth r146 0)), T.i .i64 (asI (nth r147 0)), T.sl (listOf (asS (nth r148 0)))]]).bind fun r150 =>
          bif !(asB (nth r150 0)) then
            some [T.st [T.i .i64 0, T.i .i64 0, T.sl []], T.b false]
          else
            some [T.st [T.i .i64 (asI (nth r146 0)), T.i .i64 (asI (nth r147 0)), T.sl (listOf (asS (nth r148 0)))], T.b true]
        else none
    else none
    else none
def f80 (c : Orc) (lf : Nat) (l0 : List T) : Option (List T) := f80_t c lf (fun (l0 : List T) (x143 : Int) (x144 : Int) => f80_0 c lf l0 lf x143 x144) l0
theorem f80_raw (c : Orc) (lf : Nat) (l0 : List T) : funK c env lf 6 fi80 [.sl l0] = f80_t c lf (fun (l0 : List T) (x143 : Int) (x144 : Int) => lpK c env lf 6 fi80 1 6 [] [0, 2, 4, 5, 6] (x80_6_0) lf (f80_0_c l0 x143 x144)) l0 := by kernel_rfl
theorem f80_eq (c : Orc) (lf : Nat) (l0 : List T) : funK c env lf 6 fi80 [.sl l0] = f80 c lf l0 := by
  refine (f80_raw c lf l0).trans ?_
  have e0 : (fun (l0 : List T) (x143 : Int) (x144 : Int) => lpK c env lf 6 fi80 1 6 [] [0, 2, 4, 5, 6] (x80_6_0) lf (f80_0_c l0 x143 x144)) = (fun (l0 : List T) (x143 : Int) (x144 : Int) => f80_0 c lf l0 lf x143 x144) := by funext l0 x143 x144; exact f80_0_eq c lf l0 lf x143 x144
  rw [e0]; rfl
/-- loop.example/g00285/spec.l13Most, the loop at region 6. -/
def f72_1_s (c : Orc) (lf : Nat) (x171 : Int) (x172 : List T) (L : Int → Int → Option (List T)) (x174 : Int) (x175 : Int) : Option (List T) :=
  bif inR x171 x172.length then
  bif iLt x175 ((asL (T.cell (x172.getD x171.toNat T.u) 0)).length : Int) then
    bif inR x171 x172.length then
    bif inR x175 ((asL (T.cell (x172.getD x171.toNat T.u) 0)).length) then
    (c 80 [T.sl (asL (T.cell ((asL (T.cell (x172.getD x171.toNat T.u) 0)).getD x175.toNat T.u) 1))]).bind fun r176 =>
    bif asB (nth r176 1) then
      bif iLe x174 (asI (T.cell (nth r176 0) 1)) then
        L (IntKind.wrap .i64 ((asI (T.cell (nth r176 0) 1)) + 1)) (IntKind.wrap .i64 (x175 + 1))
      else
        L x174 (IntKind.wrap .i64 (x175 + 1))
    else
      L x174 (IntKind.wrap .i64 (x175 + 1))
    else none
    else none
  else
    some [T.i .i64 0, T.i .i64 x174, T.i .i64 x171, T.sl x172]
  else none
def f72_1_c (x171 : Int) (x172 : List T) (x174 : Int) (x175 : Int) : CSt := ⟨[.bp 1 0, .i .i64 x174, .i .i64 x171, .i .i64 x175], [.dead, .box [.ro 0 true [.sl true [.b, .sl false [.i .u8]], .i .i64, .b] x172]]⟩
theorem f72_1_round (c : Orc) (lf : Nat) (x171 : Int) (x172 : List T) (L : CSt → Option (List T)) (x174 : Int) (x175 : Int) :
    roundK c env lf 6 fi72 1 6 [] [1, 3, 4, 5] (x72_6_0) L (f72_1_c x171 x172 x174 x175) = f72_1_s c lf x171 x172 (fun x174 x175 => L (f72_1_c x171 x172 x174 x175)) x174 x175 := by kernel_rfl
def f72_1 (c : Orc) (lf : Nat) (x171 : Int) (x172 : List T) : Nat → Int → Int → Option (List T)
  | 0 => fun _ _ => none
  | n + 1 => fun x174 x175 => f72_1_s c lf x171 x172 (f72_1 c lf x171 x172 n) x174 x175
theorem f72_1_u (c : Orc) (lf : Nat) (x171 : Int) (x172 : List T) (n : Nat) (x174 : Int) (x175 : Int) : f72_1 c lf x171 x172 (n + 1) x174 x175 = f72_1_s c lf x171 x172 (f72_1 c lf x171 x172 n) x174 x175 := rfl
theorem f72_1_eq (c : Orc) (lf : Nat) (x171 : Int) (x172 : List T) (n : Nat) (x174 : Int) (x175 : Int) :
    lpK c env lf 6 fi72 1 6 [] [1, 3, 4, 5] (x72_6_0) n (f72_1_c x171 x172 x174 x175) = f72_1 c lf x171 x172 n x174 x175 := by
  induction n generalizing x174 x175 with
  | zero => rfl
  | succ n ih =>
    refine (f72_1_round c lf x171 x172 _ x174 x175).trans ?_
    have e : (fun x174 x175 => lpK c env lf 6 fi72 1 6 [] [1, 3, 4, 5] (x72_6_0) n (f72_1_c x171 x172 x174 x175)) = f72_1 c lf x171 x172 n := by funext x174 x175; exact ih x174 x175
    show f72_1_s c lf x171 x172 (fun x174 x175 => lpK c env lf 6 fi72 1 6 [] [1, 3, 4, 5] (x72_6_0) n (f72_1_c x171 x172 x174 x175)) x174 x175 = _
    rw [e]; rfl
/-- loop.example/g00285/spec.l13Most, the loop at region 3. -/
def f72_0_s (c : Orc) (lf : Nat) (L : Int → Int → List T → Option (List T)) (lp0 : Int → List T → Int → Int → Option (List T)) (x170 : Int) (x171 : Int) (x172 : List T) : Option (List T) :=
  bif iLt x171 (x172.length : Int) then
    (lp0 x171 x172 x170 0).bind fun r177 =>
    L (asI (nth r177 1)) (IntKind.wrap .i64 ((asI (nth r177 2)) + 1)) (asL (nth r177 3))
  else
    some [T.i .i64 0, T.i .i64 x170]
def f72_0_c (x170 : Int) (x171 : Int) (x172 : List T) : CSt := ⟨[.bp 1 0, .i .i64 x170, .i .i64 x171], [.dead, .box [.ro 0 true [.sl true [.b, .sl false [.i .u8]], .i .i64, .b] x172]]⟩
theorem f72_0_round (c : Orc) (lf : Nat) (L : CSt → Option (List T)) (x170 : Int) (x171 : Int) (x172 : List T) :
    roundK c env lf 6 fi72 1 3 [] [1, 3, 4] (x72_3_0) L (f72_0_c x170 x171 x172) = f72_0_s c lf (fun x170 x171 x172 => L (f72_0_c x170 x171 x172)) (fun (x171 : Int) (x172 : List T) (x174 : Int) (x175 : Int) => lpK c env lf 6 fi72 1 6 [] [1, 3, 4, 5] (x72_6_0) lf (f72_1_c x171 x172 x174 x175)) x170 x171 x172 := by kernel_rfl
def f72_0 (c : Orc) (lf : Nat) : Nat → Int → Int → List T → Option (List T)
  | 0 => fun _ _ _ => none
  | n + 1 => fun x170 x171 x172 => f72_0_s c lf (f72_0 c lf n) (fun (x171 : Int) (x172 : List T) (x174 : Int) (x175 : Int) => f72_1 c lf x171 x172 lf x174 x175) x170 x171 x172
theorem f72_0_u (c : Orc) (lf : Nat) (n : Nat) (x170 : Int) (x171 : Int) (x172 : List T) : f72_0 c lf (n + 1) x170 x171 x172 = f72_0_s c lf (f72_0 c lf n) (fun (x171 : Int) (x172 : List T) (x174 : Int) (x175 : Int) => f72_1 c lf x171 x172 lf x174 x175) x170 x171 x172 := rfl
theorem f72_0_eq (c : Orc) (lf : Nat) (n : Nat) (x170 : Int) (x171 : Int) (x172 : List T) :
    lpK c env lf 6 fi72 1 3 [] [1, 3, 4] (x72_3_0) n (f72_0_c x170 x171 x172) = f72_0 c lf n x170 x171 x172 := by
  induction n generalizing x170 x171 x172 with
  | zero => rfl
  | succ n ih =>
    refine (f72_0_round c lf _ x170 x171 x172).trans ?_
    have e : (fun x170 x171 x172 => lpK c env lf 6 fi72 1 3 [] [1, 3, 4] (x72_3_0) n (f72_0_c x170 x171 x172)) = f72_0 c lf n := by funext x170 x171 x172; exact ih x170 x171 x172
    have e0 : (fun (x171 : Int) (x172 : List T) (x174 : Int) (x175 : Int) => lpK c env lf 6 fi72 1 6 [] [1, 3, 4, 5] (x72_6_0) lf (f72_1_c x171 x172 x174 x175)) = (fun (x171 : Int) (x172 : List T) (x174 : Int) (x175 : Int) => f72_1 c lf x171 x172 lf x174 x175) := by funext x171 x172 x174 x175; exact f72_1_eq c lf x171 x172 lf x174 x175
    show f72_0_s c lf (fun x170 x171 x172 => lpK c env lf 6 fi72 1 3 [] [1, 3, 4] (x72_3_0) n (f72_0_c x170 x171 x172)) (fun (x171 : Int) (x172 : List T) (x174 : Int) (x175 : Int) => lpK c env lf 6 fi72 1 6 [] [1, 3, 4, 5] (x72_6_0) lf (f72_1_c x171 x172 x174 x175)) x170 x171 x172 = _
    rw [e, e0]; rfl
/-- loop.example/g00285/spec.l13Most -/
def f72_t (c : Orc) (lf : Nat) (lp0 : Int → Int → List T → Option (List T)) (l0_0 : List T) : Option (List T) :=
  (lp0 0 0 l0_0).bind fun r178 =>
  some [T.i .i64 (asI (nth r178 1))]
def f72 (c : Orc) (lf : Nat) (l0_0 : List T) : Option (List T) := f72_t c lf (fun (x170 : Int) (x171 : Int) (x172 : List T) => f72_0 c lf lf x170 x171 x172) l0_0
theorem f72_raw (c : Orc) (lf : Nat) (l0_0 : List T) : funK c env lf 6 fi72 [.st [.sl l0_0]] = f72_t c lf (fun (x170 : Int) (x171 : Int) (x172 : List T) => lpK c env lf 6 fi72 1 3 [] [1, 3, 4] (x72_3_0) lf (f72_0_c x170 x171 x172)) l0_0 := by kernel_rfl
theorem f72_eq (c : Orc) (lf : Nat) (l0_0 : List T) : funK c env lf 6 fi72 [.st [.sl l0_0]] = f72 c lf l0_0 := by
  refine (f72_raw c lf l0_0).trans ?_
  have e0 : (fun (x170 : Int) (x171 : Int) (x172 : List T) => lpK c env lf 6 fi72 1 3 [] [1, 3, 4] (x72_3_0) lf (f72_0_c x170 x171 x172)) = (fun (x170 : Int) (x171 : Int) (x172 : List T) => f72_0 c lf lf x170 x171 x172) := by funext x170 x171 x172; exact f72_0_eq c lf lf x170 x171 x172
  rw [e0]; rfl
/-- loop.example/g00285/spec.LogOk -/
def f19_t (c : Orc) (lf : Nat) (l0_0 : List T) (n0_1 : Int) (l0_2 : List T) (b0_3 : Bool) (n0_4 : Int) : Option (List T) :=
  (c 70 [T.st [T.sl l0_0, T.i .i64 n0_1, T.sl l0_2, T.b b0_3]]).bind fun r179 =>
  bif asB (nth r179 0) then
    (c 71 [T.i .i64 n0_4, T.i .i64 0, T.i .i64 1000000]).bind fun r180 =>
    bif asB (nth r180 0) then
      (c 72 [T.st [T.sl l0_0]]).bind fun r181 =>
      some [T.b (iLe (asI (nth r181 0)) n0_4)]
    else
      some [T.b false]
  else
    some [T.b false]
def f19 (c : Orc) (lf : Nat) (l0_0 : List T) (n0_1 : Int) (l0_2 : List T) (b0_3 : Bool) (n0_4 : Int) : Option (List T) := f19_t c lf l0_0 n0_1 l0_2 b0_3 n0_4
theorem f19_raw (c : Orc) (lf : Nat) (l0_0 : List T) (n0_1 : Int) (l0_2 : List T) (b0_3 : Bool) (n0_4 : Int) : funK c env lf 6 fi19 [.st [.sl l0_0, .i .i64 n0_1, .sl l0_2, .b b0_3, .i .i64 n0_4]] = f19_t c lf l0_0 n0_1 l0_2 b0_3 n0_4 := by kernel_rfl
theorem f19_eq (c : Orc) (lf : Nat) (l0_0 : List T) (n0_1 : Int) (l0_2 : List T) (b0_3 : Bool) (n0_4 : Int) : funK c env lf 6 fi19 [.st [.sl l0_0, .i .i64 n0_1, .sl l0_2, .b b0_3, .i .i64 n0_4]] = f19 c lf l0_0 n0_1 l0_2 b0_3 n0_4 := by
  refine (f19_raw c lf l0_0 n0_1 l0_2 b0_3 n0_4).trans ?_
  rfl
/-- loop.example/g00285/impl.from -/
def f75_t (c : Orc) (lf : Nat) (n0 : Int) (n1 : Int) (n2 : Int) : Option (List T) :=
  bif iLe n1 n0 then
    some [T.b (iLe n0 n2)]
  else
    some [T.b false]
def f75 (c : Orc) (lf : Nat) (n0 : Int) (n1 : Int) (n2 : Int) : Option (List T) := f75_t c lf n0 n1 n2
theorem f75_raw (c : Orc) (lf : Nat) (n0 : Int) (n1 : Int) (n2 : Int) : funK c env lf 6 fi75 [.i .i64 n0, .i .i64 n1, .i .i64 n2] = f75_t c lf n0 n1 n2 := by kernel_rfl
theorem f75_eq (c : Orc) (lf : Nat) (n0 : Int) (n1 : Int) (n2 : Int) : funK c env lf 6 fi75 [.i .i64 n0, .i .i64 n1, .i .i64 n2] = f75 c lf n0 n1 n2 := by
  refine (f75_raw c lf n0 n1 n2).trans ?_
  rfl
/-- loop.example/g00285/impl.ChipOk, the loop at region 7. -/
def f128_1_s (c : Orc) (lf : Nat) (x197 : List T) (x198 : Int) (x199 : Int) (x200 : List T) (L : Int → Option (List T)) (x202 : Int) : Option (List T) :=
  bif iLt x202 ((asL (T.cell (x197.getD x199.toNat T.u) 0)).length : Int) then
    bif inR x202 ((asL (T.cell (x197.getD x199.toNat T.u) 0)).length) then
    bif iLt 400 ((asL (T.cell ((asL (T.cell (x197.getD x199.toNat T.u) 0)).getD x202.toNat T.u) 1)).length : Int) then
      some [T.i .i64 0, T.b false]
    else
      bif !(asB (T.cell ((asL (T.cell (x197.getD x199.toNat T.u) 0)).getD x202.toNat T.u) 0)) then
        bif iLt 0 ((asL (T.cell ((asL (T.cell (x197.getD x199.toNat T.u) 0)).getD x202.toNat T.u) 1)).length : Int) then
          some [T.i .i64 0, T.b false]
        else
          bif iLt 0 x202 then
            bif asB (T.cell ((asL (T.cell (x197.getD x199.toNat T.u) 0)).getD x202.toNat T.u) 0) then
              bif inR (IntKind.wrap .i64 (x202 - 1)) ((asL (T.cell (x197.getD x199.toNat T.u) 0)).length) then
              bif !(asB (T.cell ((asL (T.cell (x197.getD x199.toNat T.u) 0)).getD ((IntKind.wrap .i64 (x202 - 1)).toNat) T.u) 0)) then
                some [T.i .i64 0, T.b false]
              else
                L (IntKind.wrap .i64 (x202 + 1))
              else none
            else
              L (IntKind.wrap .i64 (x202 + 1))
          else
            L (IntKind.wrap .i64 (x202 + 1))
      else
        bif iLt 0 x202 then
          bif asB (T.cell ((asL (T.cell (x197.getD x199.toNat T.u) 0)).getD x202.toNat T.u) 0) then
            bif inR (IntKind.wrap .i64 (x202 - 1)) ((asL (T.cell (x197.getD x199.toNat T.u) 0)).length) then
            bif !(asB (T.cell ((asL (T.cell (x197.getD x199.toNat T.u) 0)).getD ((IntKind.wrap .i64 (x202 - 1)).toNat) T.u) 0)) then
              some [T.i .i64 0, T.b false]
            else
              L (IntKind.wrap .i64 (x202 + 1))
            else none
          else
            L (IntKind.wrap .i64 (x202 + 1))
        else
          L (IntKind.wrap .i64 (x202 + 1))
    else none
  else
    some [T.i .i64 1, T.sl x197, T.i .i64 x198, T.i .i64 x199, T.sl x200]
def f128_1_c (x197 : List T) (x198 : Int) (x199 : Int) (x200 : List T) (x202 : Int) : CSt := ⟨[.bp 1 0, .bp 2 0, .ro 0 true [.sl true [.b, .sl false [.i .u8]], .i .i64, .b] x197, .i .i64 x198, .i .i64 x199, .ro 0 true [.b, .sl false [.i .u8]] (asL (T.cell (x197.getD x199.toNat T.u) 0)), .i .i64 ((asL (T.cell (x197.getD x199.toNat T.u) 0)).length : Int), .i .i64 x202], [.dead, .box [.ro 0 true [.sl true [.b, .sl false [.i .u8]], .i .i64, .b] x200], .box [.ro 0 true [.b, .sl false [.i .u8]] (asL (T.cell (x197.getD x199.toNat T.u) 0)), .i .i64 (asI (T.cell (x197.getD x199.toNat T.u) 1)), .b (asB (T.cell (x197.getD x199.toNat T.u) 2))]]⟩
theorem f128_1_round (c : Orc) (lf : Nat) (x197 : List T) (x198 : Int) (x199 : Int) (x200 : List T) (L : CSt → Option (List T)) (x202 : Int) :
    roundK c env lf 6 fi128 1 7 [] [1, 4, 8, 9, 10, 25, 26, 27] (x128_7_0) L (f128_1_c x197 x198 x199 x200 x202) = f128_1_s c lf x197 x198 x199 x200 (fun x202 => L (f128_1_c x197 x198 x199 x200 x202)) x202 := by kernel_rfl
def f128_1 (c : Orc) (lf : Nat) (x197 : List T) (x198 : Int) (x199 : Int) (x200 : List T) : Nat → Int → Option (List T)
  | 0 => fun _ => none
  | n + 1 => fun x202 => f128_1_s c lf x197 x198 x199 x200 (f128_1 c lf x197 x198 x199 x200 n) x202
theorem f128_1_u (c : Orc) (lf : Nat) (x197 : List T) (x198 : Int) (x199 : Int) (x200 : List T) (n : Nat) (x202 : Int) : f128_1 c lf x197 x198 x199 x200 (n + 1) x202 = f128_1_s c lf x197 x198 x199 x200 (f128_1 c lf x197 x198 x199 x200 n) x202 := rfl
theorem f128_1_eq (c : Orc) (lf : Nat) (x197 : List T) (x198 : Int) (x199 : Int) (x200 : List T) (n : Nat) (x202 : Int) :
    lpK c env lf 6 fi128 1 7 [] [1, 4, 8, 9, 10, 25, 26, 27] (x128_7_0) n (f128_1_c x197 x198 x199 x200 x202) = f128_1 c lf x197 x198 x199 x200 n x202 := by
  induction n generalizing x202 with
  | zero => rfl
  | succ n ih =>
    refine (f128_1_round c lf x197 x198 x199 x200 _ x202).trans ?_
    have e : (fun x202 => lpK c env lf 6 fi128 1 7 [] [1, 4, 8, 9, 10, 25, 26, 27] (x128_7_0) n (f128_1_c x197 x198 x199 x200 x202)) = f128_1 c lf x197 x198 x199 x200 n := by funext x202; exact ih x202
    show f128_1_s c lf x197 x198 x199 x200 (fun x202 => lpK c env lf 6 fi128 1 7 [] [1, 4, 8, 9, 10, 25, 26, 27] (x128_7_0) n (f128_1_c x197 x198 x199 x200 x202)) x202 = _
    rw [e]; rfl
/-- loop.example/g00285/impl.ChipOk, the loop at region 2. -/
def f128_0_s (c : Orc) (lf : Nat) (L : List T → Int → Int → List T → Option (List T)) (lp0 : List T → Int → Int → List T → Int → Option (List T)) (x197 : List T) (x198 : Int) (x199 : Int) (x200 : List T) : Option (List T) :=
  bif iLt x199 x198 then
    bif inR x199 x197.length then
    bif ((asL (T.cell (x197.getD x199.toNat T.u) 0)).length : Int) != 8 then
      some [T.i .i64 0, T.b false]
    else
      (c 75 [T.i .i64 (asI (T.cell (x197.getD x199.toNat T.u) 1)), T.i .i64 0, T.i .i64 100000]).bind fun r201 =>
      bif !(asB (nth r201 0)) then
        some [T.i .i64 0, T.b false]
      else
        (lp0 x197 x198 x199 x200 0).bind fun r203 =>
        bif asI (nth r203 0) == 0 then
          some [T.i .i64 0, T.b (asB (nth r203 1))]
        else
          L (asL (nth r203 1)) (asI (nth r203 2)) (IntKind.wrap .i64 ((asI (nth r203 3)) + 1)) (asL (nth r203 4))
    else none
  else
    some [T.i .i64 1, T.sl x200]
def f128_0_c (x197 : List T) (x198 : Int) (x199 : Int) (x200 : List T) : CSt := ⟨[.bp 1 0, .ro 0 true [.sl true [.b, .sl false [.i .u8]], .i .i64, .b] x197, .i .i64 x198, .i .i64 x199], [.dead, .box [.ro 0 true [.sl true [.b, .sl false [.i .u8]], .i .i64, .b] x200]]⟩
theorem f128_0_round (c : Orc) (lf : Nat) (L : CSt → Option (List T)) (x197 : List T) (x198 : Int) (x199 : Int) (x200 : List T) :
    roundK c env lf 6 fi128 1 2 [] [1, 8, 9, 10] (x128_2_0) L (f128_0_c x197 x198 x199 x200) = f128_0_s c lf (fun x197 x198 x199 x200 => L (f128_0_c x197 x198 x199 x200)) (fun (x197 : List T) (x198 : Int) (x199 : Int) (x200 : List T) (x202 : Int) => lpK c env lf 6 fi128 1 7 [] [1, 4, 8, 9, 10, 25, 26, 27] (x128_7_0) lf (f128_1_c x197 x198 x199 x200 x202)) x197 x198 x199 x200 := by kernel_rfl
def f128_0 (c : Orc) (lf : Nat) : Nat → List T → Int → Int → List T → Option (List T)
  | 0 => fun _ _ _ _ => none
  | n + 1 => fun x197 x198 x199 x200 => f128_0_s c lf (f128_0 c lf n) (fun (x197 : List T) (x198 : Int) (x199 : Int) (x200 : List T) (x202 : Int) => f128_1 c lf x197 x198 x199 x200 lf x202) x197 x198 x199 x200
theorem f128_0_u (c : Orc) (lf : Nat) (n : Nat) (x197 : List T) (x198 : Int) (x199 : Int) (x200 : List T) : f128_0 c lf (n + 1) x197 x198 x199 x200 = f128_0_s c lf (f128_0 c lf n) (fun (x197 : List T) (x198 : Int) (x199 : Int) (x200 : List T) (x202 : Int) => f128_1 c lf x197 x198 x199 x200 lf x202) x197 x198 x199 x200 := rfl
theorem f128_0_eq (c : Orc) (lf : Nat) (n : Nat) (x197 : List T) (x198 : Int) (x199 : Int) (x200 : List T) :
    lpK c env lf 6 fi128 1 2 [] [1, 8, 9, 10] (x128_2_0) n (f128_0_c x197 x198 x199 x200) = f128_0 c lf n x197 x198 x199 x200 := by
  induction n generalizing x197 x198 x199 x200 with
  | zero => rfl
  | succ n ih =>
    refine (f128_0_round c lf _ x197 x198 x199 x200).trans ?_
    have e : (fun x197 x198 x199 x200 => lpK c env lf 6 fi128 1 2 [] [1, 8, 9, 10] (x128_2_0) n (f128_0_c x197 x198 x199 x200)) = f128_0 c lf n := by funext x197 x198 x199 x200; exact ih x197 x198 x199 x200
    have e0 : (fun (x197 : List T) (x198 : Int) (x199 : Int) (x200 : List T) (x202 : Int) => lpK c env lf 6 fi128 1 7 [] [1, 4, 8, 9, 10, 25, 26, 27] (x128_7_0) lf (f128_1_c x197 x198 x199 x200 x202)) = (fun (x197 : List T) (x198 : Int) (x199 : Int) (x200 : List T) (x202 : Int) => f128_1 c lf x197 x198 x199 x200 lf x202) := by funext x197 x198 x199 x200 x202; exact f128_1_eq c lf x197 x198 x199 x200 lf x202
    show f128_0_s c lf (fun x197 x198 x199 x200 => lpK c env lf 6 fi128 1 2 [] [1, 8, 9, 10] (x128_2_0) n (f128_0_c x197 x198 x199 x200)) (fun (x197 : List T) (x198 : Int) (x199 : Int) (x200 : List T) (x202 : Int) => lpK c env lf 6 fi128 1 7 [] [1, 4, 8, 9, 10, 25, 26, 27] (x128_7_0) lf (f128_1_c x197 x198 x199 x200 x202)) x197 x198 x199 x200 = _
    rw [e, e0]; rfl
/-- loop.example/g00285/impl.ChipOk -/
def f128_t (c : Orc) (lf : Nat) (lp0 : List T → Int → Int → List T → Option (List T)) (l0_0 : List T) : Option (List T) :=
  (lp0 l0_0 (l0_0.length : Int) 0 l0_0).bind fun r204 =>
  bif asI (nth r204 0) == 0 then
    some [T.b (asB (nth r204 1))]
  else
    (c 75 [T.i .i64 ((asL (nth r204 1)).length : Int), T.i .i64 3, T.i .i64 24]).bind fun r205 =>
    some [T.b (asB (nth r205 0))]
def f128 (c : Orc) (lf : Nat) (l0_0 : List T) : Option (List T) := f128_t c lf (fun (x197 : List T) (x198 : Int) (x199 : Int) (x200 : List T) => f128_0 c lf lf x197 x198 x199 x200) l0_0
theorem f128_raw (c : Orc) (lf : Nat) (l0_0 : List T) : funK c env lf 6 fi128 [.st [.sl l0_0]] = f128_t c lf (fun (x197 : List T) (x198 : Int) (x199 : Int) (x200 : List T) => lpK c env lf 6 fi128 1 2 [] [1, 8, 9, 10] (x128_2_0) lf (f128_0_c x197 x198 x199 x200)) l0_0 := by kernel_rfl
theorem f128_eq (c : Orc) (lf : Nat) (l0_0 : List T) : funK c env lf 6 fi128 [.st [.sl l0_0]] = f128 c lf l0_0 := by
  refine (f128_raw c lf l0_0).trans ?_
  have e0 : (fun (x197 : List T) (x198 : Int) (x199 : Int) (x200 : List T) => lpK c env lf 6 fi128 1 2 [] [1, 8, 9, 10] (x128_2_0) lf (f128_0_c x197 x198 x199 x200)) = (fun (x197 : List T) (x198 : Int) (x199 : Int) (x200 : List T) => f128_0 c lf lf x197 x198 x199 x200) := by funext x197 x198 x199 x200; exact f128_0_eq c lf lf x197 x198 x199 x200
  rw [e0]; rfl
/-- loop.example/g00285/impl.DevOk, the loop at region 2. -/
def f74_0_s (c : Orc) (lf : Nat) (b0_3 : Bool) (l0_0 : List T) (l0_2 : List T) (n0_1 : Int) (L : Int → Option (List T)) (x219 : Int) : Option (List T) :=
  bif iLt x219 (l0_2.length : Int) then
    bif inR x219 l0_2.length then
    (c 75 [T.i .i64 (asI (T.cell (l0_2.getD x219.toNat T.u) 0)), T.i .i64 0, T.i .i64 100000]).bind fun r220 =>
    bif !(asB (nth r220 0)) then
      some [T.i .i64 0, T.b false]
    else
      (c 75 [T.i .i64 (asI (T.cell (l0_2.getD x219.toNat T.u) 1)), T.i .i64 1, T.i .i64 2]).bind fun r221 =>
      bif !(asB (nth r221 0)) then
        some [T.i .i64 0, T.b false]
      else
        (c 75 [T.i .i64 (asI (T.cell (l0_2.getD x219.toNat T.u) 2)), T.i .i64 0, T.i .i64 400]).bind fun r222 =>
        bif !(asB (nth r222 0)) then
          some [T.i .i64 0, T.b false]
        else
          bif iLt 0 x219 then
            bif inR (IntKind.wrap .i64 (x219 - 1)) l0_2.length then
            bif iLe (asI (T.cell (l0_2.getD x219.toNat T.u) 0)) (asI (T.cell (l0_2.getD ((IntKind.wrap .i64 (x219 - 1)).toNat) T.u) 0)) then
              some [T.i .i64 0, T.b false]
            else
              L (IntKind.wrap .i64 (x219 + 1))
            else none
          else
            L (IntKind.wrap .i64 (x219 + 1))
    else none
  else
    some [T.i .i64 1, T.sl l0_0, T.i .i64 n0_1, T.sl l0_2, T.b b0_3]
def f74_0_c (b0_3 : Bool) (l0_0 : List T) (l0_2 : List T) (n0_1 : Int) (x219 : Int) : CSt := ⟨[.bp 4 0, .ro 0 true [.i .i64, .i .i64, .i .i64] l0_2, .i .i64 (l0_2.length : Int), .i .i64 x219], [.dead, .dead, .dead, .dead, .box [.ro 0 true [.sl true [.b, .sl false [.i .u8]], .i .i64, .b] l0_0, .i .i64 n0_1, .ro 0 true [.i .i64, .i .i64, .i .i64] l0_2, .b b0_3]]⟩
theorem f74_0_round (c : Orc) (lf : Nat) (b0_3 : Bool) (l0_0 : List T) (l0_2 : List T) (n0_1 : Int) (L : CSt → Option (List T)) (x219 : Int) :
    roundK c env lf 6 fi74 4 2 [] [1, 6, 7, 8] (x74_2_0) L (f74_0_c b0_3 l0_0 l0_2 n0_1 x219) = f74_0_s c lf b0_3 l0_0 l0_2 n0_1 (fun x219 => L (f74_0_c b0_3 l0_0 l0_2 n0_1 x219)) x219 := by kernel_rfl
def f74_0 (c : Orc) (lf : Nat) (b0_3 : Bool) (l0_0 : List T) (l0_2 : List T) (n0_1 : Int) : Nat → Int → Option (List T)
  | 0 => fun _ => none
  | n + 1 => fun x219 => f74_0_s c lf b0_3 l0_0 l0_2 n0_1 (f74_0 c lf b0_3 l0_0 l0_2 n0_1 n) x219
theorem f74_0_u (c : Orc) (lf : Nat) (b0_3 : Bool) (l0_0 : List T) (l0_2 : List T) (n0_1 : Int) (n : Nat) (x219 : Int) : f74_0 c lf b0_3 l0_0 l0_2 n0_1 (n + 1) x219 = f74_0_s c lf b0_3 l0_0 l0_2 n0_1 (f74_0 c lf b0_3 l0_0 l0_2 n0_1 n) x219 := rfl
theorem f74_0_eq (c : Orc) (lf : Nat) (b0_3 : Bool) (l0_0 : List T) (l0_2 : List T) (n0_1 : Int) (n : Nat) (x219 : Int) :
    lpK c env lf 6 fi74 4 2 [] [1, 6, 7, 8] (x74_2_0) n (f74_0_c b0_3 l0_0 l0_2 n0_1 x219) = f74_0 c lf b0_3 l0_0 l0_2 n0_1 n x219 := by
  induction n generalizing x219 with
  | zero => rfl
  | succ n ih =>
    refine (f74_0_round c lf b0_3 l0_0 l0_2 n0_1 _ x219).trans ?_
    have e : (fun x219 => lpK c env lf 6 fi74 4 2 [] [1, 6, 7, 8] (x74_2_0) n (f74_0_c b0_3 l0_0 l0_2 n0_1 x219)) = f74_0 c lf b0_3 l0_0 l0_2 n0_1 n := by funext x219; exact ih x219
    show f74_0_s c lf b0_3 l0_0 l0_2 n0_1 (fun x219 => lpK c env lf 6 fi74 4 2 [] [1, 6, 7, 8] (x74_2_0) n (f74_0_c b0_3 l0_0 l0_2 n0_1 x219)) x219 = _
    rw [e]; rfl
/-- loop.example/g00285/impl.DevOk -/
def f74_t (c : Orc) (lf : Nat) (lp0 : Bool → List T → List T → Int → Int → Option (List T)) (l0_0 : List T) (n0_1 : Int) (l0_2 : List T) (b0_3 : Bool) : Option (List T) :=
  (lp0 b0_3 l0_0 l0_2 n0_1 0).bind fun r223 =>
  bif asI (nth r223 0) == 0 then
    some [T.b (asB (nth r223 1))]
  else
    (c 128 [T.st [T.sl (asL (nth r223 1))]]).bind fun r224 =>
    bif asB (nth r224 0) then
      (c 75 [T.i .i64 (asI (nth r223 2)), T.i .i64 0, T.i .i64 100000]).bind fun r225 =>
      bif asB (nth r225 0) then
        some [T.b (iLe ((asL (nth r223 3)).length : Int) 20)]
      else
        some [T.b false]
    else
      some [T.b false]
def f74 (c : Orc) (lf : Nat) (l0_0 : List T) (n0_1 : Int) (l0_2 : List T) (b0_3 : Bool) : Option (List T) := f74_t c lf (fun (b0_3 : Bool) (l0_0 : List T) (l0_2 : List T) (n0_1 : Int) (x219 : Int) => f74_0 c lf b0_3 l0_0 l0_2 n0_1 lf x219) l0_0 n0_1 l0_2 b0_3
theorem f74_raw (c : Orc) (lf : Nat) (l0_0 : List T) (n0_1 : Int) (l0_2 : List T) (b0_3 : Bool) : funK c env lf 6 fi74 [.st [.sl l0_0, .i .i64 n0_1, .sl l0_2, .b b0_3]] = f74_t c lf (fun (b0_3 : Bool) (l0_0 : List T) (l0_2 : List T) (n0_1 : Int) (x219 : Int) => lpK c env lf 6 fi74 4 2 [] [1, 6, 7, 8] (x74_2_0) lf (f74_0_c b0_3 l0_0 l0_2 n0_1 x219)) l0_0 n0_1 l0_2 b0_3 := by kernel_rfl
theorem f74_eq (c : Orc) (lf : Nat) (l0_0 : List T) (n0_1 : Int) (l0_2 : List T) (b0_3 : Bool) : funK c env lf 6 fi74 [.st [.sl l0_0, .i .i64 n0_1, .sl l0_2, .b b0_3]] = f74 c lf l0_0 n0_1 l0_2 b0_3 := by
  refine (f74_raw c lf l0_0 n0_1 l0_2 b0_3).trans ?_
  have e0 : (fun (b0_3 : Bool) (l0_0 : List T) (l0_2 : List T) (n0_1 : Int) (x219 : Int) => lpK c env lf 6 fi74 4 2 [] [1, 6, 7, 8] (x74_2_0) lf (f74_0_c b0_3 l0_0 l0_2 n0_1 x219)) = (fun (b0_3 : Bool) (l0_0 : List T) (l0_2 : List T) (n0_1 : Int) (x219 : Int) => f74_0 c lf b0_3 l0_0 l0_2 n0_1 lf x219) := by funext b0_3 l0_0 l0_2 n0_1 x219; exact f74_0_eq c lf b0_3 l0_0 l0_2 n0_1 lf x219
  rw [e0]; rfl
/-- loop.example/g00285/impl.isBlock -/
def f94_t (c : Orc) (lf : Nat) (l0_0 : List T) (n1 : Int) : Option (List T) :=
  (c 75 [T.i .i64 n1, T.i .i64 0, T.i .i64 (IntKind.wrap .i64 ((l0_0.length : Int) - 1))]).bind fun r226 =>
  some [T.b (asB (nth r226 0))]
def f94 (c : Orc) (lf : Nat) (l0_0 : List T) (n1 : Int) : Option (List T) := f94_t c lf l0_0 n1
theorem f94_raw (c : Orc) (lf : Nat) (l0_0 : List T) (n1 : Int) : funK c env lf 6 fi94 [.st [.sl l0_0], .i .i64 n1] = f94_t c lf l0_0 n1 := by kernel_rfl
theorem f94_eq (c : Orc) (lf : Nat) (l0_0 : List T) (n1 : Int) : funK c env lf 6 fi94 [.st [.sl l0_0], .i .i64 n1] = f94 c lf l0_0 n1 := by
  refine (f94_raw c lf l0_0 n1).trans ?_
  rfl
/-- loop.example/g00285/impl.ReadPage -/
def f134_t (c : Orc) (lf : Nat) (l0_0 : List T) (n1 : Int) (n2 : Int) : Option (List T) :=
  (c 94 [T.st [T.sl l0_0], T.i .i64 n1]).bind fun r227 =>
  bif !(asB (nth r227 0)) then
    some [T.sl [], T.b false]
  else
    bif inR n1 l0_0.length then
    (c 75 [T.i .i64 n2, T.i .i64 0, T.i .i64 (IntKind.wrap .i64 (((asL (T.cell (l0_0.getD n1.toNat T.u) 0)).length : Int) - 1))]).bind fun r228 =>
    bif !(asB (nth r228 0)) then
      some [T.sl [], T.b false]
    else
      bif inR n1 l0_0.length then
      bif inR n2 ((asL (T.cell (l0_0.getD n1.toNat T.u) 0)).length) then
      bif !(asB (T.cell ((asL (T.cell (l0_0.getD n1.toNat T.u) 0)).getD n2.toNat T.u) 0)) then
        some [T.sl [], T.b false]
      else
        bif inR n1 l0_0.length then
        bif inR n2 ((asL (T.cell (l0_0.getD n1.toNat T.u) 0)).length) then
        (c 147 [T.sl (asL (T.cell ((asL (T.cell (l0_0.getD n1.toNat T.u) 0)).getD n2.toNat T.u) 1))]).bind fun r229 =>
        some [T.sl (asL (nth r229 0)), T.b true]
        else none
        else none
      else none
      else none
    else none
def f134 (c : Orc) (lf : Nat) (l0_0 : List T) (n1 : Int) (n2 : Int) : Option (List T) := f134_t c lf l0_0 n1 n2
theorem f134_raw (c : Orc) (lf : Nat) (l0_0 : List T) (n1 : Int) (n2 : Int) : funK c env lf 6 fi134 [.st [.sl l0_0], .i .i64 n1, .i .i64 n2] = f134_t c lf l0_0 n1 n2 := by kernel_rfl
theorem f134_eq (c : Orc) (lf : Nat) (l0_0 : List T) (n1 : Int) (n2 : Int) : funK c env lf 6 fi134 [.st [.sl l0_0], .i .i64 n1, .i .i64 n2] = f134 c lf l0_0 n1 n2 := by
  refine (f134_raw c lf l0_0 n1 n2).trans ?_
  rfl
/-- loop.example/g00285/impl.Crc, the loop at region 7. -/
def f146_1_s (c : Orc) (lf : Nat) (x245 : List T) (x246 : Int) (x247 : Int) (L : Int → Int → Option (List T)) (x248 : Int) (x249 : Int) : Option (List T) :=
  bif iLt x249 8 then
    bif (intBits .and .u32 x248 1) == 1 then
      L (intBits .xor .u32 (shiftI .shr .u32 x248 1) 2197175160) (IntKind.wrap .i64 (x249 + 1))
    else
      L (shiftI .shr .u32 x248 1) (IntKind.wrap .i64 (x249 + 1))
  else
    some [T.i .i64 0, T.i .u32 x248, T.sl x245, T.i .i64 x246, T.i .i64 x247]
def f146_1_c (x245 : List T) (x246 : Int) (x247 : Int) (x248 : Int) (x249 : Int) : CSt := ⟨[.i .u32 x248, .ro 0 false [.i .u8] x245, .i .i64 x246, .i .i64 x247, .i .i64 x249], [.dead]⟩
theorem f146_1_round (c : Orc) (lf : Nat) (x245 : List T) (x246 : Int) (x247 : Int) (L : CSt → Option (List T)) (x248 : Int) (x249 : Int) :
    roundK c env lf 6 fi146 1 7 [] [3, 7, 8, 9, 17] (x146_7_0) L (f146_1_c x245 x246 x247 x248 x249) = f146_1_s c lf x245 x246 x247 (fun x248 x249 => L (f146_1_c x245 x246 x247 x248 x249)) x248 x249 := by kernel_rfl
def f146_1 (c : Orc) (lf : Nat) (x245 : List T) (x246 : Int) (x247 : Int) : Nat → Int → Int → Option (List T)
  | 0 => fun _ _ => none
  | n + 1 => fun x248 x249 => f146_1_s c lf x245 x246 x247 (f146_1 c lf x245 x246 x247 n) x248 x249
theorem f146_1_u (c : Orc) (lf : Nat) (x245 : List T) (x246 : Int) (x247 : Int) (n : Nat) (x248 : Int) (x249 : Int) : f146_1 c lf x245 x246 x247 (n + 1) x248 x249 = f146_1_s c lf x245 x246 x247 (f146_1 c lf x245 x246 x247 n) x248 x249 := rfl
theorem f146_1_eq (c : Orc) (lf : Nat) (x245 : List T) (x246 : Int) (x247 : Int) (n : Nat) (x248 : Int) (x249 : Int) :
    lpK c env lf 6 fi146 1 7 [] [3, 7, 8, 9, 17] (x146_7_0) n (f146_1_c x245 x246 x247 x248 x249) = f146_1 c lf x245 x246 x247 n x248 x249 := by
  induction n generalizing x248 x249 with
  | zero => rfl
  | succ n ih =>
    refine (f146_1_round c lf x245 x246 x247 _ x248 x249).trans ?_
    have e : (fun x248 x249 => lpK c env lf 6 fi146 1 7 [] [3, 7, 8, 9, 17] (x146_7_0) n (f146_1_c x245 x246 x247 x248 x249)) = f146_1 c lf x245 x246 x247 n := by funext x248 x249; exact ih x248 x249
    show f146_1_s c lf x245 x246 x247 (fun x248 x249 => lpK c env lf 6 fi146 1 7 [] [3, 7, 8, 9, 17] (x146_7_0) n (f146_1_c x245 x246 x247 x248 x249)) x248 x249 = _
    rw [e]; rfl
/-- loop.example/g00285/impl.Crc, the loop at region 3. -/
def f146_0_s (c : Orc) (lf : Nat) (L : Int → List T → Int → Int → Option (List T)) (lp0 : List T → Int → Int → Int → Int → Option (List T)) (x244 : Int) (x245 : List T) (x246 : Int) (x247 : Int) : Option (List T) :=
  bif iLt x247 x246 then
    bif inR x247 x245.length then
    (lp0 x245 x246 x247 (intBits .xor .u32 x244 (IntKind.wrap .u32 (asI (x245.getD x247.toNat T.u)))) 0).bind fun r250 =>
    L (asI (nth r250 1)) (asL (nth r250 2)) (asI (nth r250 3)) (IntKind.wrap .i64 ((asI (nth r250 4)) + 1))
    else none
  else
    some [T.i .i64 0, T.i .u32 x244]
def f146_0_c (x244 : Int) (x245 : List T) (x246 : Int) (x247 : Int) : CSt := ⟨[.i .u32 x244, .ro 0 false [.i .u8] x245, .i .i64 x246, .i .i64 x247], [.dead]⟩
theorem f146_0_round (c : Orc) (lf : Nat) (L : CSt → Option (List T)) (x244 : Int) (x245 : List T) (x246 : Int) (x247 : Int) :
    roundK c env lf 6 fi146 1 3 [] [3, 7, 8, 9] (x146_3_0) L (f146_0_c x244 x245 x246 x247) = f146_0_s c lf (fun x244 x245 x246 x247 => L (f146_0_c x244 x245 x246 x247)) (fun (x245 : List T) (x246 : Int) (x247 : Int) (x248 : Int) (x249 : Int) => lpK c env lf 6 fi146 1 7 [] [3, 7, 8, 9, 17] (x146_7_0) lf (f146_1_c x245 x246 x247 x248 x249)) x244 x245 x246 x247 := by kernel_rfl
def f146_0 (c : Orc) (lf : Nat) : Nat → Int → List T → Int → Int → Option (List T)
  | 0 => fun _ _ _ _ => none
  | n + 1 => fun x244 x245 x246 x247 => f146_0_s c lf (f146_0 c lf n) (fun (x245 : List T) (x246 : Int) (x247 : Int) (x248 : Int) (x249 : Int) => f146_1 c lf x245 x246 x247 lf x248 x249) x244 x245 x246 x247
theorem f146_0_u (c : Orc) (lf : Nat) (n : Nat) (x244 : Int) (x245 : List T) (x246 : Int) (x247 : Int) : f146_0 c lf (n + 1) x244 x245 x246 x247 = f146_0_s c lf (f146_0 c lf n) (fun (x245 : List T) (x246 : Int) (x247 : Int) (x248 : Int) (x249 : Int) => f146_1 c lf x245 x246 x247 lf x248 x249) x244 x245 x246 x247 := rfl
theorem f146_0_eq (c : Orc) (lf : Nat) (n : Nat) (x244 : Int) (x245 : List T) (x246 : Int) (x247 : Int) :
    lpK c env lf 6 fi146 1 3 [] [3, 7, 8, 9] (x146_3_0) n (f146_0_c x244 x245 x246 x247) = f146_0 c lf n x244 x245 x246 x247 := by
  induction n generalizing x244 x245 x246 x247 with
  | zero => rfl
  | succ n ih =>
    refine (f146_0_round c lf _ x244 x245 x246 x247).trans ?_
    have e : (fun x244 x245 x246 x247 => lpK c env lf 6 fi146 1 3 [] [3, 7, 8, 9] (x146_3_0) n (f146_0_c x244 x245 x246 x247)) = f146_0 c lf n := by funext x244 x245 x246 x247; exact ih x244 x245 x246 x247
    have e0 : (fun (x245 : List T) (x246 : Int) (x247 : Int) (x248 : Int) (x249 : Int) => lpK c env lf 6 fi146 1 7 [] [3, 7, 8, 9, 17] (x146_7_0) lf (f146_1_c x245 x246 x247 x248 x249)) = (fun (x245 : List T) (x246 : Int) (x247 : Int) (x248 : Int) (x249 : Int) => f146_1 c lf x245 x246 x247 lf x248 x249) := by funext x245 x246 x247 x248 x249; exact f146_1_eq c lf x245 x246 x247 lf x248 x249
    show f146_0_s c lf (fun x244 x245 x246 x247 => lpK c env lf 6 fi146 1 3 [] [3, 7, 8, 9] (x146_3_0) n (f146_0_c x244 x245 x246 x247)) (fun (x245 : List T) (x246 : Int) (x247 : Int) (x248 : Int) (x249 : Int) => lpK c env lf 6 fi146 1 7 [] [3, 7, 8, 9, 17] (x146_7_0) lf (f146_1_c x245 x246 x247 x248 x249)) x244 x245 x246 x247 = _
    rw [e, e0]; rfl
/-- loop.example/g00285/impl.Crc -/
def f146_t (c : Orc) (lf : Nat) (lp0 : Int → List T → Int → Int → Option (List T)) (l0 : List T) : Option (List T) :=
  (lp0 4294967295 l0 (l0.length : Int) 0).bind fun r251 =>
  some [T.i .i64 (IntKind.wrap .i64 (intBits .xor .u32 4294967295 (asI (nth r251 1))))]
def f146 (c : Orc) (lf : Nat) (l0 : List T) : Option (List T) := f146_t c lf (fun (x244 : Int) (x245 : List T) (x246 : Int) (x247 : Int) => f146_0 c lf lf x244 x245 x246 x247) l0
theorem f146_raw (c : Orc) (lf : Nat) (l0 : List T) : funK c env lf 6 fi146 [.sl l0] = f146_t c lf (fun (x244 : Int) (x245 : List T) (x246 : Int) (x247 : Int) => lpK c env lf 6 fi146 1 3 [] [3, 7, 8, 9] (x146_3_0) lf (f146_0_c x244 x245 x246 x247)) l0 := by kernel_rfl
theorem f146_eq (c : Orc) (lf : Nat) (l0 : List T) : funK c env lf 6 fi146 [.sl l0] = f146 c lf l0 := by
  refine (f146_raw c lf l0).trans ?_
  have e0 : (fun (x244 : Int) (x245 : List T) (x246 : Int) (x247 : Int) => lpK c env lf 6 fi146 1 3 [] [3, 7, 8, 9] (x146_3_0) lf (f146_0_c x244 x245 x246 x247)) = (fun (x244 : Int) (x245 : List T) (x246 : Int) (x247 : Int) => f146_0 c lf lf x244 x245 x246 x247) := by funext x244 x245 x246 x247; exact f146_0_eq c lf lf x244 x245 x246 x247
  rw [e0]; rfl
/-- loop.example/g00285/impl.sealed -/
def f91_t (c : Orc) (lf : Nat) (l0 : List T) : Option (List T) :=
  (c 146 [T.sl l0]).bind fun r252 =>
  (c 147 [T.sl l0]).bind fun r253 =>
  bif nLe ((asL (nth r253 0)).length + ([T.i .u8 (IntKind.wrap .u8 (shiftI .shr .i64 (asI (nth r252 0)) 24)), T.i .u8 (IntKind.wrap .u8 (shiftI .shr .i64 (asI (nth r252 0)) 16)), T.i .u8 (IntKind.wrap .u8 (shiftI .shr .i64 (asI (nth r252 0)) 8)), T.i .u8 (IntKind.wrap .u8 (asI (nth r252 0)))] : List T).length) LIM then
  some [T.sl ((asL (nth r253 0)) ++ ([T.i .u8 (IntKind.wrap .u8 (shiftI .shr .i64 (asI (nth r252 0)) 24)), T.i .u8 (IntKind.wrap .u8 (shiftI .shr .i64 (asI (nth r252 0)) 16)), T.i .u8 (IntKind.wrap .u8 (shiftI .shr .i64 (asI (nth r252 0)) 8)), T.i .u8 (IntKind.wrap .u8 (asI (nth r252 0)))] : List T))]
  else none
def f91 (c : Orc) (lf : Nat) (l0 : List T) : Option (List T) := f91_t c lf l0
theorem f91_raw (c : Orc) (lf : Nat) (l0 : List T) : funK c env lf 6 fi91 [.sl l0] = f91_t c lf l0 := by kernel_rfl
theorem f91_eq (c : Orc) (lf : Nat) (l0 : List T) : funK c env lf 6 fi91 [.sl l0] = f91 c lf l0 := by
  refine (f91_raw c lf l0).trans ?_
  rfl
/-- loop.example/g00285/impl.opened -/
def f183_t (c : Orc) (lf : Nat) (l0 : List T) : Option (List T) :=
  bif iLt (IntKind.wrap .i64 ((l0.length : Int) - 4)) 0 then
    some [T.sl [], T.b false]
  else
    bif iLe 0 (IntKind.wrap .i64 ((l0.length : Int) - 4)) && iLe (IntKind.wrap .i64 ((l0.length : Int) - 4)) (l0.length : Int) then
    (c 91 [T.sl (l0.take ((IntKind.wrap .i64 ((l0.length : Int) - 4)).toNat))]).bind fun r255 =>
    bif !((bytesOf (asL (nth r255 0))).toList == (bytesOf l0).toList) then
      some [T.sl [], T.b false]
    else
      bif iLe 0 (IntKind.wrap .i64 ((l0.length : Int) - 4)) && iLe (IntKind.wrap .i64 ((l0.length : Int) - 4)) (l0.length : Int) then
      some [T.sl (l0.take ((IntKind.wrap .i64 ((l0.length : Int) - 4)).toNat)), T.b true]
      else none
    else none
def f183 (c : Orc) (lf : Nat) (l0 : List T) : Option (List T) := f183_t c lf l0
theorem f183_raw (c : Orc) (lf : Nat) (l0 : List T) : funK c env lf 6 fi183 [.sl l0] = f183_t c lf l0 := by kernel_rfl
theorem f183_eq (c : Orc) (lf : Nat) (l0 : List T) : funK c env lf 6 fi183 [.sl l0] = f183 c lf l0 := by
  refine (f183_raw c lf l0).trans ?_
  rfl
/-- loop.example/g00285/impl.GetNum, the loop at region 6. -/
def f222_0_s (c : Orc) (lf : Nat) (l0 : List T) (n1 : Int) (L : Int → Int → Int → Option (List T)) (x260 : Int) (x261 : Int) (x262 : Int) : Option (List T) :=
  bif iLt x262 3 then
    bif iLt n1 (IntKind.wrap .i64 ((l0.length : Int) - x262)) then
      bif inR (IntKind.wrap .i64 (n1 + x262)) l0.length then
      bif iLe 128 (IntKind.wrap .i64 (asI (l0.getD ((IntKind.wrap .i64 (n1 + x262)).toNat) T.u))) then
        L (IntKind.wrap .i64 (x260 + (IntKind.wrap .i64 (((IntKind.wrap .i64 (asI (l0.getD ((IntKind.wrap .i64 (n1 + x262)).toNat) T.u))).tmod 128) * x261)))) (IntKind.wrap .i64 (x261 * 128)) (IntKind.wrap .i64 (x262 + 1))
      else
        bif iLt 1000000 (IntKind.wrap .i64 (x260 + (IntKind.wrap .i64 (((IntKind.wrap .i64 (asI (l0.getD ((IntKind.wrap .i64 (n1 + x262)).toNat) T.u))).tmod 128) * x261)))) then
          some [T.i .i64 0]
        else
          bif (IntKind.wrap .i64 (asI (l0.getD ((IntKind.wrap .i64 (n1 + x262)).toNat) T.u))) == 0 then
            bif iLt 0 x262 then
              some [T.i .i64 0]
            else
              some [T.i .i64 1, T.i .i64 (IntKind.wrap .i64 (x260 + (IntKind.wrap .i64 (((IntKind.wrap .i64 (asI (l0.getD ((IntKind.wrap .i64 (n1 + x262)).toNat) T.u))).tmod 128) * x261)))), T.i .i64 (IntKind.wrap .i64 ((IntKind.wrap .i64 (n1 + x262)) + 1)), T.b true]
          else
            some [T.i .i64 1, T.i .i64 (IntKind.wrap .i64 (x260 + (IntKind.wrap .i64 (((IntKind.wrap .i64 (asI (l0.getD ((IntKind.wrap .i64 (n1 + x262)).toNat) T.u))).tmod 128) * x261)))), T.i .i64 (IntKind.wrap .i64 ((IntKind.wrap .i64 (n1 + x262)) + 1)), T.b true]
      else none
    else
      some [T.i .i64 0]
  else
    some [T.i .i64 0]
def f222_0_c (l0 : List T) (n1 : Int) (x260 : Int) (x261 : Int) (x262 : Int) : CSt := ⟨[.ro 0 false [.i .u8] l0, .i .i64 n1, .i .i64 x260, .i .i64 x261, .i .i64 x262], [.dead, .dead]⟩
theorem f222_0_round (c : Orc) (lf : Nat) (l0 : List T) (n1 : Int) (L : CSt → Option (List T)) (x260 : Int) (x261 : Int) (x262 : Int) :
    roundK c env lf 6 fi222 2 6 [] [0, 1, 7, 8, 9] (x222_6_0) L (f222_0_c l0 n1 x260 x261 x262) = f222_0_s c lf l0 n1 (fun x260 x261 x262 => L (f222_0_c l0 n1 x260 x261 x262)) x260 x261 x262 := by kernel_rfl
def f222_0 (c : Orc) (lf : Nat) (l0 : List T) (n1 : Int) : Nat → Int → Int → Int → Option (List T)
  | 0 => fun _ _ _ => none
  | n + 1 => fun x260 x261 x262 => f222_0_s c lf l0 n1 (f222_0 c lf l0 n1 n) x260 x261 x262
theorem f222_0_u (c : Orc) (lf : Nat) (l0 : List T) (n1 : Int) (n : Nat) (x260 : Int) (x261 : Int) (x262 : Int) : f222_0 c lf l0 n1 (n + 1) x260 x261 x262 = f222_0_s c lf l0 n1 (f222_0 c lf l0 n1 n) x260 x261 x262 := rfl
theorem f222_0_eq (c : Orc) (lf : Nat) (l0 : List T) (n1 : Int) (n : Nat) (x260 : Int) (x261 : Int) (x262 : Int) :
    lpK c env lf 6 fi222 2 6 [] [0, 1, 7, 8, 9] (x222_6_0) n (f222_0_c l0 n1 x260 x261 x262) = f222_0 c lf l0 n1 n x260 x261 x262 := by
  induction n generalizing x260 x261 x262 with
  | zero => rfl
  | succ n ih =>
    refine (f222_0_round c lf l0 n1 _ x260 x261 x262).trans ?_
    have e : (fun x260 x261 x262 => lpK c env lf 6 fi222 2 6 [] [0, 1, 7, 8, 9] (x222_6_0) n (f222_0_c l0 n1 x260 x261 x262)) = f222_0 c lf l0 n1 n := by funext x260 x261 x262; exact ih x260 x261 x262
    show f222_0_s c lf l0 n1 (fun x260 x261 x262 => lpK c env lf 6 fi222 2 6 [] [0, 1, 7, 8, 9] (x222_6_0) n (f222_0_c l0 n1 x260 x261 x262)) x260 x261 x262 = _
    rw [e]; rfl
/-- loop.example/g00285/impl.GetNum -/
def f222_t (c : Orc) (lf : Nat) (lp0 : List T → Int → Int → Int → Int → Option (List T)) (l0 : List T) (n1 : Int) : Option (List T) :=
  bif iLt n1 0 then
    some [T.i .i64 0, T.i .i64 0, T.b false]
  else
    (lp0 l0 n1 0 1 0).bind fun r263 =>
    bif asI (nth r263 0) == 0 then
      some [T.i .i64 0, T.i .i64 0, T.b false]
    else
      some [T.i .i64 (asI (nth r263 1)), T.i .i64 (asI (nth r263 2)), T.b (asB (nth r263 3))]
def f222 (c : Orc) (lf : Nat) (l0 : List T) (n1 : Int) : Option (List T) := f222_t c lf (fun (l0 : List T) (n1 : Int) (x260 : Int) (x261 : Int) (x262 : Int) => f222_0 c lf l0 n1 lf x260 x261 x262) l0 n1
theorem f222_raw (c : Orc) (lf : Nat) (l0 : List T) (n1 : Int) : funK c env lf 6 fi222 [.sl l0, .i .i64 n1] = f222_t c lf (fun (l0 : List T) (n1 : Int) (x260 : Int) (x261 : Int) (x262 : Int) => lpK c env lf 6 fi222 2 6 [] [0, 1, 7, 8, 9] (x222_6_0) lf (f222_0_c l0 n1 x260 x261 x262)) l0 n1 := by kernel_rfl
theorem f222_eq (c : Orc) (lf : Nat) (l0 : List T) (n1 : Int) : funK c env lf 6 fi222 [.sl l0, .i .i64 n1] = f222 c lf l0 n1 := by
  refine (f222_raw c lf l0 n1).trans ?_
  have e0 : (fun (l0 : List T) (n1 : Int) (x260 : Int) (x261 : Int) (x262 : Int) => lpK c env lf 6 fi222 2 6 [] [0, 1, 7, 8, 9] (x222_6_0) lf (f222_0_c l0 n1 x260 x261 x262)) = (fun (l0 : List T) (n1 : Int) (x260 : Int) (x261 : Int) (x262 : Int) => f222_0 c lf l0 n1 lf x260 x261 x262) := by funext l0 n1 x260 x261 x262; exact f222_0_eq c lf l0 n1 lf x260 x261 x262
  rw [e0]; rfl
/-- (*loop.example/g00285/impl.reader).num -/
def f184_t (c : Orc) (lf : Nat) (l0_0 : List T) (n0_1 : Int) (b0_2 : Bool) : Option (List T) :=
  bif !b0_2 then
    some [T.i .i64 0, T.st [T.sl l0_0, T.i .i64 n0_1, T.b b0_2]]
  else
    (c 222 [T.sl l0_0, T.i .i64 n0_1]).bind fun r264 =>
    some [T.i .i64 (asI (nth r264 0)), T.st [T.sl l0_0, T.i .i64 (asI (nth r264 1)), T.b (asB (nth r264 2))]]
def f184 (c : Orc) (lf : Nat) (l0_0 : List T) (n0_1 : Int) (b0_2 : Bool) : Option (List T) := f184_t c lf l0_0 n0_1 b0_2
theorem f184_raw (c : Orc) (lf : Nat) (l0_0 : List T) (n0_1 : Int) (b0_2 : Bool) : funK c env lf 6 fi184 [.st [.sl l0_0, .i .i64 n0_1, .b b0_2]] = f184_t c lf l0_0 n0_1 b0_2 := by kernel_rfl
theorem f184_eq (c : Orc) (lf : Nat) (l0_0 : List T) (n0_1 : Int) (b0_2 : Bool) : funK c env lf 6 fi184 [.st [.sl l0_0, .i .i64 n0_1, .b b0_2]] = f184 c lf l0_0 n0_1 b0_2 := by
  refine (f184_raw c lf l0_0 n0_1 b0_2).trans ?_
  rfl
/-- loop.example/g00285/impl.GetText -/
def f223_t (c : Orc) (lf : Nat) (l0 : List T) (n1 : Int) : Option (List T) :=
  (c 222 [T.sl l0, T.i .i64 n1]).bind fun r265 =>
  bif !(asB (nth r265 2)) then
    some [T.s (⟨#[]⟩ : ByteArray), T.i .i64 0, T.b false]
  else
    bif iLt (IntKind.wrap .i64 ((l0.length : Int) - (asI (nth r265 1)))) (asI (nth r265 0)) then
      some [T.s (⟨#[]⟩ : ByteArray), T.i .i64 0, T.b false]
    else
      bif iLe 0 (asI (nth r265 1)) && iLe (asI (nth r265 1)) (IntKind.wrap .i64 ((asI (nth r265 1)) + (asI (nth r265 0)))) && iLe (IntKind.wrap .i64 ((asI (nth r265 1)) + (asI (nth r265 0)))) (l0.length : Int) then
      some [T.s (bytesOf ((l0.drop ((asI (nth r265 1)).toNat)).take (((IntKind.wrap .i64 ((asI (nth r265 1)) + (asI (nth r265 0)))).toNat) - ((asI (nth r265 1)).toNat)))), T.i .i64 (IntKind.wrap .i64 ((asI (nth r265 1)) + (asI (nth r265 0)))), T.b true]
      else none
def f223 (c : Orc) (lf : Nat) (l0 : List T) (n1 : Int) : Option (List T) := f223_t c lf l0 n1
theorem f223_raw (c : Orc) (lf : Nat) (l0 : List T) (n1 : Int) : funK c env lf 6 fi223 [.sl l0, .i .i64 n1] = f223_t c lf l0 n1 := by kernel_rfl
theorem f223_eq (c : Orc) (lf : Nat) (l0 : List T) (n1 : Int) : funK c env lf 6 fi223 [.sl l0, .i .i64 n1] = f223 c lf l0 n1 := by
  refine (f223_raw c lf l0 n1).trans ?_
  rfl
/-- (*loop.example/g00285/impl.reader).text -/
def f185_t (c : Orc) (lf : Nat) (l0_0 : List T) (n0_1 : Int) (b0_2 : Bool) : Option (List T) :=
  bif !b0_2 then
    some [T.s (⟨#[]⟩ : ByteArray), T.st [T.sl l0_0, T.i .i64 n0_1, T.b b0_2]]
  else
    (c 223 [T.sl l0_0, T.i .i64 n0_1]).bind fun r266 =>
    some [T.s (asS (nth r266 0)), T.st [T.sl l0_0, T.i .i64 (asI (nth r266 1)), T.b (asB (nth r266 2))]]
def f185 (c : Orc) (lf : Nat) (l0_0 : List T) (n0_1 : Int) (b0_2 : Bool) : Option (List T) := f185_t c lf l0_0 n0_1 b0_2
theorem f185_raw (c : Orc) (lf : Nat) (l0_0 : List T) (n0_1 : Int) (b0_2 : Bool) : funK c env lf 6 fi185 [.st [.sl l0_0, .i .i64 n0_1, .b b0_2]] = f185_t c lf l0_0 n0_1 b0_2 := by kernel_rfl
theorem f185_eq (c : Orc) (lf : Nat) (l0_0 : List T) (n0_1 : Int) (b0_2 : Bool) : funK c env lf 6 fi185 [.st [.sl l0_0, .i .i64 n0_1, .b b0_2]] = f185 c lf l0_0 n0_1 b0_2 := by
  refine (f185_raw c lf l0_0 n0_1 b0_2).trans ?_
  rfl
/-- (*loop.example/g00285/impl.reader).done -/
def f186_t (c : Orc) (lf : Nat) (l0_0 : List T) (n0_1 : Int) (b0_2 : Bool) : Option (List T) :=
  bif b0_2 then
    some [T.b (n0_1 == (l0_0.length : Int)), T.st [T.sl l0_0, T.i .i64 n0_1, T.b b0_2]]
  else
    some [T.b false, T.st [T.sl l0_0, T.i .i64 n0_1, T.b b0_2]]
def f186 (c : Orc) (lf : Nat) (l0_0 : List T) (n0_1 : Int) (b0_2 : Bool) : Option (List T) := f186_t c lf l0_0 n0_1 b0_2
theorem f186_raw (c : Orc) (lf : Nat) (l0_0 : List T) (n0_1 : Int) (b0_2 : Bool) : funK c env lf 6 fi186 [.st [.sl l0_0, .i .i64 n0_1, .b b0_2]] = f186_t c lf l0_0 n0_1 b0_2 := by kernel_rfl
theorem f186_eq (c : Orc) (lf : Nat) (l0_0 : List T) (n0_1 : Int) (b0_2 : Bool) : funK c env lf 6 fi186 [.st [.sl l0_0, .i .i64 n0_1, .b b0_2]] = f186 c lf l0_0 n0_1 b0_2 := by
  refine (f186_raw c lf l0_0 n0_1 b0_2).trans ?_
  rfl
/-- loop.example/g00285/impl.RecOk -/
def f89_t (c : Orc) (lf : Nat) (n0_0 : Int) (n0_1 : Int) (l0_2 : List T) : Option (List T) :=
  (c 75 [T.i .i64 n0_0, T.i .i64 1, T.i .i64 4]).bind fun r267 =>
  bif asB (nth r267 0) then
    (c 75 [T.i .i64 n0_1, T.i .i64 0, T.i .i64 1000000]).bind fun r268 =>
    bif asB (nth r268 0) then
      some [T.b (iLe (l0_2.length : Int) 380)]
    else
      some [T.b false]
  else
    some [T.b false]
def f89 (c : Orc) (lf : Nat) (n0_0 : Int) (n0_1 : Int) (l0_2 : List T) : Option (List T) := f89_t c lf n0_0 n0_1 l0_2
theorem f89_raw (c : Orc) (lf : Nat) (n0_0 : Int) (n0_1 : Int) (l0_2 : List T) : funK c env lf 6 fi89 [.st [.i .i64 n0_0, .i .i64 n0_1, .sl l0_2]] = f89_t c lf n0_0 n0_1 l0_2 := by kernel_rfl
theorem f89_eq (c : Orc) (lf : Nat) (n0_0 : Int) (n0_1 : Int) (l0_2 : List T) : funK c env lf 6 fi89 [.st [.i .i64 n0_0, .i .i64 n0_1, .sl l0_2]] = f89 c lf n0_0 n0_1 l0_2 := by
  refine (f89_raw c lf n0_0 n0_1 l0_2).trans ?_
  rfl
/-- loop.example/g00285/impl.GetRec -/
def f135_t (c : Orc) (lf : Nat) (l0 : List T) : Option (List T) :=
  (c 183 [T.sl l0]).bind fun r269 =>
  (c 184 [T.st [T.sl (asL (nth r269 0)), T.i .i64 0, T.b (asB (nth r269 1))]]).bind fun r270 =>
  (c 184 [T.st [T.sl (asL (nth r269 0)), T.i .i64 (asI (T.cell (nth r270 1) 1)), T.b (asB (T.cell (nth r270 1) 2))]]).bind fun r271 =>
  (c 185 [T.st [T.sl (asL (nth r269 0)), T.i .i64 (asI (T.cell (nth r271 1) 1)), T.b (asB (T.cell (nth r271 1) 2))]]).bind fun r272 =>
  bif nLe (asS (nth r272 0)).size LIM then
  (c 186 [T.st [T.sl (asL (nth r269 0)), T.i .i64 (asI (T.cell (nth r272 1) 1)), T.b (asB (T.cell (nth r272 1) 2))]]).bind fun r273 =>
  bif !(asB (nth r273 0)) then
    some [T.st [T.i .i64 0, T.i .i64 0, T.sl []], T.b false]
  else
    (c 89 [T.st [T.i .i64 (asI (nth r270 0)), T.i .i64 (asI (nth r271 0)), T.sl (listOf (asS (nth r272 0)))]]).bind fun r274 =>
    bif !(asB (nth r274 0)) then
      some [T.st [T.i .i64 0, T.i .i64 0, T.sl []], T.b false]
    else
      some [T.st [T.i .i64 (asI (nth r270 0)), T.i .i64 (asI (nth r271 0)), T.sl (listOf (asS (nth r272 0)))], T.b true]
  else none
def f135 (c : Orc) (lf : Nat) (l0 : List T) : Option (List T) := f135_t c lf l0
theorem f135_raw (c : Orc) (lf : Nat) (l0 : List T) : funK c env lf 6 fi135 [.sl l0] = f135_t c lf l0 := by kernel_rfl
theorem f135_eq (c : Orc) (lf : Nat) (l0 : List T) : funK c env lf 6 fi135 [.sl l0] = f135 c lf l0 := by
  refine (f135_raw c lf l0).trans ?_
  rfl
/-- loop.example/g00285/impl.recAt -/
def f81_t (c : Orc) (lf : Nat) (l0_0 : List T) (n0_1 : Int) (l0_2 : List T) (b0_3 : Bool) (n0_4 : Int) (n1 : Int) : Option (List T) :=
  bif iLt n1 0 then
    some [T.st [T.i .i64 0, T.i .i64 0, T.sl []], T.b false]
  else
    (c 134 [T.st [T.sl l0_0], T.i .i64 (IntKind.wrap .i64 (n1.tdiv 8)), T.i .i64 (n1.tmod 8)]).bind fun r275 =>
    bif !(asB (nth r275 1)) then
      some [T.st [T.i .i64 0, T.i .i64 0, T.sl []], T.b false]
    else
      (c 135 [T.sl (asL (nth r275 0))]).bind fun r276 =>
      some [T.st [T.i .i64 (asI (T.cell (nth r276 0) 0)), T.i .i64 (asI (T.cell (nth r276 0) 1)), T.sl (asL (T.cell (nth r276 0) 2))], T.b (asB (nth r276 1))]
def f81 (c : Orc) (lf : Nat) (l0_0 : List T) (n0_1 : Int) (l0_2 : List T) (b0_3 : Bool) (n0_4 : Int) (n1 : Int) : Option (List T) := f81_t c lf l0_0 n0_1 l0_2 b0_3 n0_4 n1
theorem f81_raw (c : Orc) (lf : Nat) (l0_0 : List T) (n0_1 : Int) (l0_2 : List T) (b0_3 : Bool) (n0_4 : Int) (n1 : Int) : funK c env lf 6 fi81 [.st [.sl l0_0, .i .i64 n0_1, .sl l0_2, .b b0_3, .i .i64 n0_4], .i .i64 n1] = f81_t c lf l0_0 n0_1 l0_2 b0_3 n0_4 n1 := by kernel_rfl
theorem f81_eq (c : Orc) (lf : Nat) (l0_0 : List T) (n0_1 : Int) (l0_2 : List T) (b0_3 : Bool) (n0_4 : Int) (n1 : Int) : funK c env lf 6 fi81 [.st [.sl l0_0, .i .i64 n0_1, .sl l0_2, .b b0_3, .i .i64 n0_4], .i .i64 n1] = f81 c lf l0_0 n0_1 l0_2 b0_3 n0_4 n1 := by
  refine (f81_raw c lf l0_0 n0_1 l0_2 b0_3 n0_4 n1).trans ?_
  rfl
/-- loop.example/g00285/impl.eachRec, the loop at region 2. -/
def f21_0_s (c : Orc) (lf : Nat) (b0_3 : Bool) (l0_0 : List T) (l0_2 : List T) (n0_1 : Int) (n0_4 : Int) (L : Int → Bool → Option (List T)) (x291 : Int) (x292 : Bool) : Option (List T) :=
  bif iLt x291 (IntKind.wrap .i64 ((l0_0.length : Int) * 8)) then
    (c 81 [T.st [T.sl l0_0, T.i .i64 n0_1, T.sl l0_2, T.b b0_3, T.i .i64 n0_4], T.i .i64 x291]).bind fun r293 =>
    bif asB (nth r293 1) then
      bif x292 then
        L (IntKind.wrap .i64 (x291 + 1)) (iLt (asI (T.cell (nth r293 0) 1)) n0_4)
      else
        L (IntKind.wrap .i64 (x291 + 1)) false
    else
      L (IntKind.wrap .i64 (x291 + 1)) x292
  else
    some [T.i .i64 0, T.b x292, T.sl l0_0, T.i .i64 n0_1, T.sl l0_2, T.b b0_3, T.i .i64 n0_4]
def f21_0_c (b0_3 : Bool) (l0_0 : List T) (l0_2 : List T) (n0_1 : Int) (n0_4 : Int) (x291 : Int) (x292 : Bool) : CSt := ⟨[.fn 77 [.bp 0 0, .bp 1 0], .bp 2 0, .i .i64 (IntKind.wrap .i64 ((l0_0.length : Int) * 8)), .i .i64 x291], [.box [.b x292], .box [.ro 0 true [.sl true [.b, .sl false [.i .u8]], .i .i64, .b] l0_0, .i .i64 n0_1, .ro 0 true [.i .i64, .i .i64, .i .i64] l0_2, .b b0_3, .i .i64 n0_4], .box [.ro 0 true [.sl true [.b, .sl false [.i .u8]], .i .i64, .b] l0_0, .i .i64 n0_1, .ro 0 true [.i .i64, .i .i64, .i .i64] l0_2, .b b0_3, .i .i64 n0_4]]⟩
theorem f21_0_round (c : Orc) (lf : Nat) (b0_3 : Bool) (l0_0 : List T) (l0_2 : List T) (n0_1 : Int) (n0_4 : Int) (L : CSt → Option (List T)) (x291 : Int) (x292 : Bool) :
    roundK c env lf 5 fi76 2 2 [] [1, 2, 12, 13] (x76_2_0) L (f21_0_c b0_3 l0_0 l0_2 n0_1 n0_4 x291 x292) = f21_0_s c lf b0_3 l0_0 l0_2 n0_1 n0_4 (fun x291 x292 => L (f21_0_c b0_3 l0_0 l0_2 n0_1 n0_4 x291 x292)) x291 x292 := by kernel_rfl
def f21_0 (c : Orc) (lf : Nat) (b0_3 : Bool) (l0_0 : List T) (l0_2 : List T) (n0_1 : Int) (n0_4 : Int) : Nat → Int → Bool → Option (List T)
  | 0 => fun _ _ => none
  | n + 1 => fun x291 x292 => f21_0_s c lf b0_3 l0_0 l0_2 n0_1 n0_4 (f21_0 c lf b0_3 l0_0 l0_2 n0_1 n0_4 n) x291 x292
theorem f21_0_u (c : Orc) (lf : Nat) (b0_3 : Bool) (l0_0 : List T) (l0_2 : List T) (n0_1 : Int) (n0_4 : Int) (n : Nat) (x291 : Int) (x292 : Bool) : f21_0 c lf b0_3 l0_0 l0_2 n0_1 n0_4 (n + 1) x291 x292 = f21_0_s c lf b0_3 l0_0 l0_2 n0_1 n0_4 (f21_0 c lf b0_3 l0_0 l0_2 n0_1 n0_4 n) x291 x292 := rfl
theorem f21_0_eq (c : Orc) (lf : Nat) (b0_3 : Bool) (l0_0 : List T) (l0_2 : List T) (n0_1 : Int) (n0_4 : Int) (n : Nat) (x291 : Int) (x292 : Bool) :
    lpK c env lf 5 fi76 2 2 [] [1, 2, 12, 13] (x76_2_0) n (f21_0_c b0_3 l0_0 l0_2 n0_1 n0_4 x291 x292) = f21_0 c lf b0_3 l0_0 l0_2 n0_1 n0_4 n x291 x292 := by
  induction n generalizing x291 x292 with
  | zero => rfl
  | succ n ih =>
    refine (f21_0_round c lf b0_3 l0_0 l0_2 n0_1 n0_4 _ x291 x292).trans ?_
    have e : (fun x291 x292 => lpK c env lf 5 fi76 2 2 [] [1, 2, 12, 13] (x76_2_0) n (f21_0_c b0_3 l0_0 l0_2 n0_1 n0_4 x291 x292)) = f21_0 c lf b0_3 l0_0 l0_2 n0_1 n0_4 n := by funext x291 x292; exact ih x291 x292
    show f21_0_s c lf b0_3 l0_0 l0_2 n0_1 n0_4 (fun x291 x292 => lpK c env lf 5 fi76 2 2 [] [1, 2, 12, 13] (x76_2_0) n (f21_0_c b0_3 l0_0 l0_2 n0_1 n0_4 x291 x292)) x291 x292 = _
    rw [e]; rfl
/-- loop.example/g00285/impl.eachRec, the loop at region 2. -/
def f21_1_s (c : Orc) (lf : Nat) (b0_3 : Bool) (l0_0 : List T) (l0_2 : List T) (n0_1 : Int) (n0_4 : Int) (L : Int → Option (List T)) (x296 : Int) : Option (List T) :=
  bif iLt x296 (IntKind.wrap .i64 ((l0_0.length : Int) * 8)) then
    (c 81 [T.st [T.sl l0_0, T.i .i64 n0_1, T.sl l0_2, T.b b0_3, T.i .i64 n0_4], T.i .i64 x296]).bind fun r297 =>
    bif asB (nth r297 1) then
      L (IntKind.wrap .i64 (x296 + 1))
    else
      L (IntKind.wrap .i64 (x296 + 1))
  else
    some [T.i .i64 0, T.b false, T.sl l0_0, T.i .i64 n0_1, T.sl l0_2, T.b b0_3, T.i .i64 n0_4]
def f21_1_c (b0_3 : Bool) (l0_0 : List T) (l0_2 : List T) (n0_1 : Int) (n0_4 : Int) (x296 : Int) : CSt := ⟨[.fn 77 [.bp 0 0, .bp 1 0], .bp 2 0, .i .i64 (IntKind.wrap .i64 ((l0_0.length : Int) * 8)), .i .i64 x296], [.box [.b false], .box [.ro 0 true [.sl true [.b, .sl false [.i .u8]], .i .i64, .b] l0_0, .i .i64 n0_1, .ro 0 true [.i .i64, .i .i64, .i .i64] l0_2, .b b0_3, .i .i64 n0_4], .box [.ro 0 true [.sl true [.b, .sl false [.i .u8]], .i .i64, .b] l0_0, .i .i64 n0_1, .ro 0 true [.i .i64, .i .i64, .i .i64] l0_2, .b b0_3, .i .i64 n0_4]]⟩
theorem f21_1_round (c : Orc) (lf : Nat) (b0_3 : Bool) (l0_0 : List T) (l0_2 : List T) (n0_1 : Int) (n0_4 : Int) (L : CSt → Option (List T)) (x296 : Int) :
    roundK c env lf 5 fi76 2 2 [] [1, 2, 12, 13] (x76_2_0) L (f21_1_c b0_3 l0_0 l0_2 n0_1 n0_4 x296) = f21_1_s c lf b0_3 l0_0 l0_2 n0_1 n0_4 (fun x296 => L (f21_1_c b0_3 l0_0 l0_2 n0_1 n0_4 x296)) x296 := by kernel_rfl
def f21_1 (c : Orc) (lf : Nat) (b0_3 : Bool) (l0_0 : List T) (l0_2 : List T) (n0_1 : Int) (n0_4 : Int) : Nat → Int → Option (List T)
  | 0 => fun _ => none
  | n + 1 => fun x296 => f21_1_s c lf b0_3 l0_0 l0_2 n0_1 n0_4 (f21_1 c lf b0_3 l0_0 l0_2 n0_1 n0_4 n) x296
theorem f21_1_u (c : Orc) (lf : Nat) (b0_3 : Bool) (l0_0 : List T) (l0_2 : List T) (n0_1 : Int) (n0_4 : Int) (n : Nat) (x296 : Int) : f21_1 c lf b0_3 l0_0 l0_2 n0_1 n0_4 (n + 1) x296 = f21_1_s c lf b0_3 l0_0 l0_2 n0_1 n0_4 (f21_1 c lf b0_3 l0_0 l0_2 n0_1 n0_4 n) x296 := rfl
theorem f21_1_eq (c : Orc) (lf : Nat) (b0_3 : Bool) (l0_0 : List T) (l0_2 : List T) (n0_1 : Int) (n0_4 : Int) (n : Nat) (x296 : Int) :
    lpK c env lf 5 fi76 2 2 [] [1, 2, 12, 13] (x76_2_0) n (f21_1_c b0_3 l0_0 l0_2 n0_1 n0_4 x296) = f21_1 c lf b0_3 l0_0 l0_2 n0_1 n0_4 n x296 := by
  induction n generalizing x296 with
  | zero => rfl
  | succ n ih =>
    refine (f21_1_round c lf b0_3 l0_0 l0_2 n0_1 n0_4 _ x296).trans ?_
    have e : (fun x296 => lpK c env lf 5 fi76 2 2 [] [1, 2, 12, 13] (x76_2_0) n (f21_1_c b0_3 l0_0 l0_2 n0_1 n0_4 x296)) = f21_1 c lf b0_3 l0_0 l0_2 n0_1 n0_4 n := by funext x296; exact ih x296
    show f21_1_s c lf b0_3 l0_0 l0_2 n0_1 n0_4 (fun x296 => lpK c env lf 5 fi76 2 2 [] [1, 2, 12, 13] (x76_2_0) n (f21_1_c b0_3 l0_0 l0_2 n0_1 n0_4 x296)) x296 = _
    rw [e]; rfl
/-- loop.example/g00285/impl.LogOk -/
def f21_t (c : Orc) (lf : Nat) (lp0 : Bool → List T → List T → Int → Int → Int → Bool → Option (List T)) (lp1 : Bool → List T → List T → Int → Int → Int → Option (List T)) (l0_0 : List T) (n0_1 : Int) (l0_2 : List T) (b0_3 : Bool) (n0_4 : Int) : Option (List T) :=
  (c 74 [T.st [T.sl l0_0, T.i .i64 n0_1, T.sl l0_2, T.b b0_3]]).bind fun r288 =>
  bif asB (nth r288 0) then
    (c 75 [T.i .i64 n0_4, T.i .i64 0, T.i .i64 1000000]).bind fun r289 =>
    (lp0 b0_3 l0_0 l0_2 n0_1 n0_4 0 (asB (nth r289 0))).bind fun r294 =>
    some [T.b (asB (nth r294 1))]
  else
    (lp1 b0_3 l0_0 l0_2 n0_1 n0_4 0).bind fun r298 =>
    some [T.b (asB (nth r298 1))]
def f21 (c : Orc) (lf : Nat) (l0_0 : List T) (n0_1 : Int) (l0_2 : List T) (b0_3 : Bool) (n0_4 : Int) : Option (List T) := f21_t c lf (fun (b0_3 : Bool) (l0_0 : List T) (l0_2 : List T) (n0_1 : Int) (n0_4 : Int) (x291 : Int) (x292 : Bool) => f21_0 c lf b0_3 l0_0 l0_2 n0_1 n0_4 lf x291 x292) (fun (b0_3 : Bool) (l0_0 : List T) (l0_2 : List T) (n0_1 : Int) (n0_4 : Int) (x296 : Int) => f21_1 c lf b0_3 l0_0 l0_2 n0_1 n0_4 lf x296) l0_0 n0_1 l0_2 b0_3 n0_4
theorem f21_raw (c : Orc) (lf : Nat) (l0_0 : List T) (n0_1 : Int) (l0_2 : List T) (b0_3 : Bool) (n0_4 : Int) : funK c env lf 6 fi21 [.st [.sl l0_0, .i .i64 n0_1, .sl l0_2, .b b0_3, .i .i64 n0_4]] = f21_t c lf (fun (b0_3 : Bool) (l0_0 : List T) (l0_2 : List T) (n0_1 : Int) (n0_4 : Int) (x291 : Int) (x292 : Bool) => lpK c env lf 5 fi76 2 2 [] [1, 2, 12, 13] (x76_2_0) lf (f21_0_c b0_3 l0_0 l0_2 n0_1 n0_4 x291 x292)) (fun (b0_3 : Bool) (l0_0 : List T) (l0_2 : List T) (n0_1 : Int) (n0_4 : Int) (x296 : Int) => lpK c env lf 5 fi76 2 2 [] [1, 2, 12, 13] (x76_2_0) lf (f21_1_c b0_3 l0_0 l0_2 n0_1 n0_4 x296)) l0_0 n0_1 l0_2 b0_3 n0_4 := by kernel_rfl
theorem f21_eq (c : Orc) (lf : Nat) (l0_0 : List T) (n0_1 : Int) (l0_2 : List T) (b0_3 : Bool) (n0_4 : Int) : funK c env lf 6 fi21 [.st [.sl l0_0, .i .i64 n0_1, .sl l0_2, .b b0_3, .i .i64 n0_4]] = f21 c lf l0_0 n0_1 l0_2 b0_3 n0_4 := by
  refine (f21_raw c lf l0_0 n0_1 l0_2 b0_3 n0_4).trans ?_
  have e0 : (fun (b0_3 : Bool) (l0_0 : List T) (l0_2 : List T) (n0_1 : Int) (n0_4 : Int) (x291 : Int) (x292 : Bool) => lpK c env lf 5 fi76 2 2 [] [1, 2, 12, 13] (x76_2_0) lf (f21_0_c b0_3 l0_0 l0_2 n0_1 n0_4 x291 x292)) = (fun (b0_3 : Bool) (l0_0 : List T) (l0_2 : List T) (n0_1 : Int) (n0_4 : Int) (x291 : Int) (x292 : Bool) => f21_0 c lf b0_3 l0_0 l0_2 n0_1 n0_4 lf x291 x292) := by funext b0_3 l0_0 l0_2 n0_1 n0_4 x291 x292; exact f21_0_eq c lf b0_3 l0_0 l0_2 n0_1 n0_4 lf x291 x292
  have e1 : (fun (b0_3 : Bool) (l0_0 : List T) (l0_2 : List T) (n0_1 : Int) (n0_4 : Int) (x296 : Int) => lpK c env lf 5 fi76 2 2 [] [1, 2, 12, 13] (x76_2_0) lf (f21_1_c b0_3 l0_0 l0_2 n0_1 n0_4 x296)) = (fun (b0_3 : Bool) (l0_0 : List T) (l0_2 : List T) (n0_1 : Int) (n0_4 : Int) (x296 : Int) => f21_1 c lf b0_3 l0_0 l0_2 n0_1 n0_4 lf x296) := by funext b0_3 l0_0 l0_2 n0_1 n0_4 x296; exact f21_1_eq c lf b0_3 l0_0 l0_2 n0_1 n0_4 lf x296
  rw [e0, e1]; rfl
/-- loop.example/g00285/laws.eqByteS, the loop at region 4. -/
def f48_0_s (c : Orc) (lf : Nat) (l0 : List T) (l1 : List T) (L : Int → Option (List T)) (x301 : Int) : Option (List T) :=
  bif iLt x301 (l0.length : Int) then
    bif inR x301 l0.length then
    bif inR x301 l1.length then
    bif (asI (l0.getD x301.toNat T.u)) != (asI (l1.getD x301.toNat T.u)) then
      some [T.i .i64 0, T.b false]
    else
      L (IntKind.wrap .i64 (x301 + 1))
    else none
    else none
  else
    some [T.i .i64 1]
def f48_0_c (l0 : List T) (l1 : List T) (x301 : Int) : CSt := ⟨[.ro 0 false [.i .u8] l0, .ro 0 false [.i .u8] l1, .i .i64 x301], [.dead, .dead]⟩
theorem f48_0_round (c : Orc) (lf : Nat) (l0 : List T) (l1 : List T) (L : CSt → Option (List T)) (x301 : Int) :
    roundK c env lf 6 fi48 2 4 [] [0, 1, 5] (x48_4_0) L (f48_0_c l0 l1 x301) = f48_0_s c lf l0 l1 (fun x301 => L (f48_0_c l0 l1 x301)) x301 := by kernel_rfl
def f48_0 (c : Orc) (lf : Nat) (l0 : List T) (l1 : List T) : Nat → Int → Option (List T)
  | 0 => fun _ => none
  | n + 1 => fun x301 => f48_0_s c lf l0 l1 (f48_0 c lf l0 l1 n) x301
theorem f48_0_u (c : Orc) (lf : Nat) (l0 : List T) (l1 : List T) (n : Nat) (x301 : Int) : f48_0 c lf l0 l1 (n + 1) x301 = f48_0_s c lf l0 l1 (f48_0 c lf l0 l1 n) x301 := rfl
theorem f48_0_eq (c : Orc) (lf : Nat) (l0 : List T) (l1 : List T) (n : Nat) (x301 : Int) :
    lpK c env lf 6 fi48 2 4 [] [0, 1, 5] (x48_4_0) n (f48_0_c l0 l1 x301) = f48_0 c lf l0 l1 n x301 := by
  induction n generalizing x301 with
  | zero => rfl
  | succ n ih =>
    refine (f48_0_round c lf l0 l1 _ x301).trans ?_
    have e : (fun x301 => lpK c env lf 6 fi48 2 4 [] [0, 1, 5] (x48_4_0) n (f48_0_c l0 l1 x301)) = f48_0 c lf l0 l1 n := by funext x301; exact ih x301
    show f48_0_s c lf l0 l1 (fun x301 => lpK c env lf 6 fi48 2 4 [] [0, 1, 5] (x48_4_0) n (f48_0_c l0 l1 x301)) x301 = _
    rw [e]; rfl
/-- loop.example/g00285/laws.eqByteS -/
def f48_t (c : Orc) (lf : Nat) (lp0 : List T → List T → Int → Option (List T)) (l0 : List T) (l1 : List T) : Option (List T) :=
  bif (l0.length : Int) != (l1.length : Int) then
    some [T.b false]
  else
    (lp0 l0 l1 0).bind fun r302 =>
    bif asI (nth r302 0) == 0 then
      some [T.b (asB (nth r302 1))]
    else
      some [T.b true]
def f48 (c : Orc) (lf : Nat) (l0 : List T) (l1 : List T) : Option (List T) := f48_t c lf (fun (l0 : List T) (l1 : List T) (x301 : Int) => f48_0 c lf l0 l1 lf x301) l0 l1
theorem f48_raw (c : Orc) (lf : Nat) (l0 : List T) (l1 : List T) : funK c env lf 6 fi48 [.sl l0, .sl l1] = f48_t c lf (fun (l0 : List T) (l1 : List T) (x301 : Int) => lpK c env lf 6 fi48 2 4 [] [0, 1, 5] (x48_4_0) lf (f48_0_c l0 l1 x301)) l0 l1 := by kernel_rfl
theorem f48_eq (c : Orc) (lf : Nat) (l0 : List T) (l1 : List T) : funK c env lf 6 fi48 [.sl l0, .sl l1] = f48 c lf l0 l1 := by
  refine (f48_raw c lf l0 l1).trans ?_
  have e0 : (fun (l0 : List T) (l1 : List T) (x301 : Int) => lpK c env lf 6 fi48 2 4 [] [0, 1, 5] (x48_4_0) lf (f48_0_c l0 l1 x301)) = (fun (l0 : List T) (l1 : List T) (x301 : Int) => f48_0 c lf l0 l1 lf x301) := by funext l0 l1 x301; exact f48_0_eq c lf l0 l1 lf x301
  rw [e0]; rfl
/-- loop.example/g00285/laws.eqPage -/
def f254_t (c : Orc) (lf : Nat) (b0_0 : Bool) (l0_1 : List T) (b1_0 : Bool) (l1_1 : List T) : Option (List T) :=
  bif !(b0_0 == b1_0) then
    some [T.b false]
  else
    (c 48 [T.sl l0_1, T.sl l1_1]).bind fun r303 =>
    bif !(asB (nth r303 0)) then
      some [T.b false]
    else
      some [T.b true]
def f254 (c : Orc) (lf : Nat) (b0_0 : Bool) (l0_1 : List T) (b1_0 : Bool) (l1_1 : List T) : Option (List T) := f254_t c lf b0_0 l0_1 b1_0 l1_1
theorem f254_raw (c : Orc) (lf : Nat) (b0_0 : Bool) (l0_1 : List T) (b1_0 : Bool) (l1_1 : List T) : funK c env lf 6 fi254 [.st [.b b0_0, .sl l0_1], .st [.b b1_0, .sl l1_1]] = f254_t c lf b0_0 l0_1 b1_0 l1_1 := by kernel_rfl
theorem f254_eq (c : Orc) (lf : Nat) (b0_0 : Bool) (l0_1 : List T) (b1_0 : Bool) (l1_1 : List T) : funK c env lf 6 fi254 [.st [.b b0_0, .sl l0_1], .st [.b b1_0, .sl l1_1]] = f254 c lf b0_0 l0_1 b1_0 l1_1 := by
  refine (f254_raw c lf b0_0 l0_1 b1_0 l1_1).trans ?_
  rfl
/-- loop.example/g00285/laws.eqPageS, the loop at region 4. -/
def f244_0_s (c : Orc) (lf : Nat) (l0 : List T) (l1 : List T) (L : Int → Option (List T)) (x309 : Int) : Option (List T) :=
  bif iLt x309 (l0.length : Int) then
    bif inR x309 l0.length then
    bif inR x309 l1.length then
    (c 254 [T.st [T.b (asB (T.cell (l0.getD x309.toNat T.u) 0)), T.sl (asL (T.cell (l0.getD x309.toNat T.u) 1))], T.st [T.b (asB (T.cell (l1.getD x309.toNat T.u) 0)), T.sl (asL (T.cell (l1.getD x309.toNat T.u) 1))]]).bind fun r310 =>
    bif !(asB (nth r310 0)) then
      some [T.i .i64 0, T.b false]
    else
      L (IntKind.wrap .i64 (x309 + 1))
    else none
    else none
  else
    some [T.i .i64 1]
def f244_0_c (l0 : List T) (l1 : List T) (x309 : Int) : CSt := ⟨[.ro 0 true [.b, .sl false [.i .u8]] l0, .ro 0 true [.b, .sl false [.i .u8]] l1, .i .i64 x309], [.dead, .dead]⟩
theorem f244_0_round (c : Orc) (lf : Nat) (l0 : List T) (l1 : List T) (L : CSt → Option (List T)) (x309 : Int) :
    roundK c env lf 6 fi244 2 4 [] [0, 1, 5] (x244_4_0) L (f244_0_c l0 l1 x309) = f244_0_s c lf l0 l1 (fun x309 => L (f244_0_c l0 l1 x309)) x309 := by kernel_rfl
def f244_0 (c : Orc) (lf : Nat) (l0 : List T) (l1 : List T) : Nat → Int → Option (List T)
  | 0 => fun _ => none
  | n + 1 => fun x309 => f244_0_s c lf l0 l1 (f244_0 c lf l0 l1 n) x309
theorem f244_0_u (c : Orc) (lf : Nat) (l0 : List T) (l1 : List T) (n : Nat) (x309 : Int) : f244_0 c lf l0 l1 (n + 1) x309 = f244_0_s c lf l0 l1 (f244_0 c lf l0 l1 n) x309 := rfl
theorem f244_0_eq (c : Orc) (lf : Nat) (l0 : List T) (l1 : List T) (n : Nat) (x309 : Int) :
    lpK c env lf 6 fi244 2 4 [] [0, 1, 5] (x244_4_0) n (f244_0_c l0 l1 x309) = f244_0 c lf l0 l1 n x309 := by
  induction n generalizing x309 with
  | zero => rfl
  | succ n ih =>
    refine (f244_0_round c lf l0 l1 _ x309).trans ?_
    have e : (fun x309 => lpK c env lf 6 fi244 2 4 [] [0, 1, 5] (x244_4_0) n (f244_0_c l0 l1 x309)) = f244_0 c lf l0 l1 n := by funext x309; exact ih x309
    show f244_0_s c lf l0 l1 (fun x309 => lpK c env lf 6 fi244 2 4 [] [0, 1, 5] (x244_4_0) n (f244_0_c l0 l1 x309)) x309 = _
    rw [e]; rfl
/-- loop.example/g00285/laws.eqPageS -/
def f244_t (c : Orc) (lf : Nat) (lp0 : List T → List T → Int → Option (List T)) (l0 : List T) (l1 : List T) : Option (List T) :=
  bif (l0.length : Int) != (l1.length : Int) then
    some [T.b false]
  else
    (lp0 l0 l1 0).bind fun r311 =>
    bif asI (nth r311 0) == 0 then
      some [T.b (asB (nth r311 1))]
    else
      some [T.b true]
def f244 (c : Orc) (lf : Nat) (l0 : List T) (l1 : List T) : Option (List T) := f244_t c lf (fun (l0 : List T) (l1 : List T) (x309 : Int) => f244_0 c lf l0 l1 lf x309) l0 l1
theorem f244_raw (c : Orc) (lf : Nat) (l0 : List T) (l1 : List T) : funK c env lf 6 fi244 [.sl l0, .sl l1] = f244_t c lf (fun (l0 : List T) (l1 : List T) (x309 : Int) => lpK c env lf 6 fi244 2 4 [] [0, 1, 5] (x244_4_0) lf (f244_0_c l0 l1 x309)) l0 l1 := by kernel_rfl
theorem f244_eq (c : Orc) (lf : Nat) (l0 : List T) (l1 : List T) : funK c env lf 6 fi244 [.sl l0, .sl l1] = f244 c lf l0 l1 := by
  refine (f244_raw c lf l0 l1).trans ?_
  have e0 : (fun (l0 : List T) (l1 : List T) (x309 : Int) => lpK c env lf 6 fi244 2 4 [] [0, 1, 5] (x244_4_0) lf (f244_0_c l0 l1 x309)) = (fun (l0 : List T) (l1 : List T) (x309 : Int) => f244_0 c lf l0 l1 lf x309) := by funext l0 l1 x309; exact f244_0_eq c lf l0 l1 lf x309
  rw [e0]; rfl
/-- loop.example/g00285/laws.eqBlock -/
def f221_t (c : Orc) (lf : Nat) (l0_0 : List T) (n0_1 : Int) (b0_2 : Bool) (l1_0 : List T) (n1_1 : Int) (b1_2 : Bool) : Option (List T) :=
  (c 244 [T.sl l0_0, T.sl l1_0]).bind fun r312 =>
  bif !(asB (nth r312 0)) then
    some [T.b false]
  else
    bif n0_1 != n1_1 then
      some [T.b false]
    else
      bif !(b0_2 == b1_2) then
        some [T.b false]
      else
        some [T.b true]
def f221 (c : Orc) (lf : Nat) (l0_0 : List T) (n0_1 : Int) (b0_2 : Bool) (l1_0 : List T) (n1_1 : Int) (b1_2 : Bool) : Option (List T) := f221_t c lf l0_0 n0_1 b0_2 l1_0 n1_1 b1_2
theorem f221_raw (c : Orc) (lf : Nat) (l0_0 : List T) (n0_1 : Int) (b0_2 : Bool) (l1_0 : List T) (n1_1 : Int) (b1_2 : Bool) : funK c env lf 6 fi221 [.st [.sl l0_0, .i .i64 n0_1, .b b0_2], .st [.sl l1_0, .i .i64 n1_1, .b b1_2]] = f221_t c lf l0_0 n0_1 b0_2 l1_0 n1_1 b1_2 := by kernel_rfl
theorem f221_eq (c : Orc) (lf : Nat) (l0_0 : List T) (n0_1 : Int) (b0_2 : Bool) (l1_0 : List T) (n1_1 : Int) (b1_2 : Bool) : funK c env lf 6 fi221 [.st [.sl l0_0, .i .i64 n0_1, .b b0_2], .st [.sl l1_0, .i .i64 n1_1, .b b1_2]] = f221 c lf l0_0 n0_1 b0_2 l1_0 n1_1 b1_2 := by
  refine (f221_raw c lf l0_0 n0_1 b0_2 l1_0 n1_1 b1_2).trans ?_
  rfl
/-- loop.example/g00285/laws.eqBlockS, the loop at region 4. -/
def f179_0_s (c : Orc) (lf : Nat) (l0 : List T) (l1 : List T) (L : Int → Option (List T)) (x318 : Int) : Option (List T) :=
  bif iLt x318 (l0.length : Int) then
    bif inR x318 l0.length then
    bif inR x318 l1.length then
    (c 221 [T.st [T.sl (asL (T.cell (l0.getD x318.toNat T.u) 0)), T.i .i64 (asI (T.cell (l0.getD x318.toNat T.u) 1)), T.b (asB (T.cell (l0.getD x318.toNat T.u) 2))], T.st [T.sl (asL (T.cell (l1.getD x318.toNat T.u) 0)), T.i .i64 (asI (T.cell (l1.getD x318.toNat T.u) 1)), T.b (asB (T.cell (l1.getD x318.toNat T.u) 2))]]).bind fun r319 =>
    bif !(asB (nth r319 0)) then
      some [T.i .i64 0, T.b false]
    else
      L (IntKind.wrap .i64 (x318 + 1))
    else none
    else none
  else
    some [T.i .i64 1]
def f179_0_c (l0 : List T) (l1 : List T) (x318 : Int) : CSt := ⟨[.ro 0 true [.sl true [.b, .sl false [.i .u8]], .i .i64, .b] l0, .ro 0 true [.sl true [.b, .sl false [.i .u8]], .i .i64, .b] l1, .i .i64 x318], [.dead, .dead]⟩
theorem f179_0_round (c : Orc) (lf : Nat) (l0 : List T) (l1 : List T) (L : CSt → Option (List T)) (x318 : Int) :
    roundK c env lf 6 fi179 2 4 [] [0, 1, 5] (x179_4_0) L (f179_0_c l0 l1 x318) = f179_0_s c lf l0 l1 (fun x318 => L (f179_0_c l0 l1 x318)) x318 := by kernel_rfl
def f179_0 (c : Orc) (lf : Nat) (l0 : List T) (l1 : List T) : Nat → Int → Option (List T)
  | 0 => fun _ => none
  | n + 1 => fun x318 => f179_0_s c lf l0 l1 (f179_0 c lf l0 l1 n) x318
theorem f179_0_u (c : Orc) (lf : Nat) (l0 : List T) (l1 : List T) (n : Nat) (x318 : Int) : f179_0 c lf l0 l1 (n + 1) x318 = f179_0_s c lf l0 l1 (f179_0 c lf l0 l1 n) x318 := rfl
theorem f179_0_eq (c : Orc) (lf : Nat) (l0 : List T) (l1 : List T) (n : Nat) (x318 : Int) :
    lpK c env lf 6 fi179 2 4 [] [0, 1, 5] (x179_4_0) n (f179_0_c l0 l1 x318) = f179_0 c lf l0 l1 n x318 := by
  induction n generalizing x318 with
  | zero => rfl
  | succ n ih =>
    refine (f179_0_round c lf l0 l1 _ x318).trans ?_
    have e : (fun x318 => lpK c env lf 6 fi179 2 4 [] [0, 1, 5] (x179_4_0) n (f179_0_c l0 l1 x318)) = f179_0 c lf l0 l1 n := by funext x318; exact ih x318
    show f179_0_s c lf l0 l1 (fun x318 => lpK c env lf 6 fi179 2 4 [] [0, 1, 5] (x179_4_0) n (f179_0_c l0 l1 x318)) x318 = _
    rw [e]; rfl
/-- loop.example/g00285/laws.eqBlockS -/
def f179_t (c : Orc) (lf : Nat) (lp0 : List T → List T → Int → Option (List T)) (l0 : List T) (l1 : List T) : Option (List T) :=
  bif (l0.length : Int) != (l1.length : Int) then
    some [T.b false]
  else
    (lp0 l0 l1 0).bind fun r320 =>
    bif asI (nth r320 0) == 0 then
      some [T.b (asB (nth r320 1))]
    else
      some [T.b true]
def f179 (c : Orc) (lf : Nat) (l0 : List T) (l1 : List T) : Option (List T) := f179_t c lf (fun (l0 : List T) (l1 : List T) (x318 : Int) => f179_0 c lf l0 l1 lf x318) l0 l1
theorem f179_raw (c : Orc) (lf : Nat) (l0 : List T) (l1 : List T) : funK c env lf 6 fi179 [.sl l0, .sl l1] = f179_t c lf (fun (l0 : List T) (l1 : List T) (x318 : Int) => lpK c env lf 6 fi179 2 4 [] [0, 1, 5] (x179_4_0) lf (f179_0_c l0 l1 x318)) l0 l1 := by kernel_rfl
theorem f179_eq (c : Orc) (lf : Nat) (l0 : List T) (l1 : List T) : funK c env lf 6 fi179 [.sl l0, .sl l1] = f179 c lf l0 l1 := by
  refine (f179_raw c lf l0 l1).trans ?_
  have e0 : (fun (l0 : List T) (l1 : List T) (x318 : Int) => lpK c env lf 6 fi179 2 4 [] [0, 1, 5] (x179_4_0) lf (f179_0_c l0 l1 x318)) = (fun (l0 : List T) (l1 : List T) (x318 : Int) => f179_0 c lf l0 l1 lf x318) := by funext l0 l1 x318; exact f179_0_eq c lf l0 l1 lf x318
  rw [e0]; rfl
/-- loop.example/g00285/laws.eqChip -/
def f129_t (c : Orc) (lf : Nat) (l0_0 : List T) (l1_0 : List T) : Option (List T) :=
  (c 179 [T.sl l0_0, T.sl l1_0]).bind fun r321 =>
  bif !(asB (nth r321 0)) then
    some [T.b false]
  else
    some [T.b true]
def f129 (c : Orc) (lf : Nat) (l0_0 : List T) (l1_0 : List T) : Option (List T) := f129_t c lf l0_0 l1_0
theorem f129_raw (c : Orc) (lf : Nat) (l0_0 : List T) (l1_0 : List T) : funK c env lf 6 fi129 [.st [.sl l0_0], .st [.sl l1_0]] = f129_t c lf l0_0 l1_0 := by kernel_rfl
theorem f129_eq (c : Orc) (lf : Nat) (l0_0 : List T) (l1_0 : List T) : funK c env lf 6 fi129 [.st [.sl l0_0], .st [.sl l1_0]] = f129 c lf l0_0 l1_0 := by
  refine (f129_raw c lf l0_0 l1_0).trans ?_
  rfl
/-- loop.example/g00285/laws.eqFault -/
def f180_t (c : Orc) (lf : Nat) (n0_0 : Int) (n0_1 : Int) (n0_2 : Int) (n1_0 : Int) (n1_1 : Int) (n1_2 : Int) : Option (List T) :=
  bif n0_0 != n1_0 then
    some [T.b false]
  else
    bif n0_1 != n1_1 then
      some [T.b false]
    else
      bif n0_2 != n1_2 then
        some [T.b false]
      else
        some [T.b true]
def f180 (c : Orc) (lf : Nat) (n0_0 : Int) (n0_1 : Int) (n0_2 : Int) (n1_0 : Int) (n1_1 : Int) (n1_2 : Int) : Option (List T) := f180_t c lf n0_0 n0_1 n0_2 n1_0 n1_1 n1_2
theorem f180_raw (c : Orc) (lf : Nat) (n0_0 : Int) (n0_1 : Int) (n0_2 : Int) (n1_0 : Int) (n1_1 : Int) (n1_2 : Int) : funK c env lf 6 fi180 [.st [.i .i64 n0_0, .i .i64 n0_1, .i .i64 n0_2], .st [.i .i64 n1_0, .i .i64 n1_1, .i .i64 n1_2]] = f180_t c lf n0_0 n0_1 n0_2 n1_0 n1_1 n1_2 := by kernel_rfl
theorem f180_eq (c : Orc) (lf : Nat) (n0_0 : Int) (n0_1 : Int) (n0_2 : Int) (n1_0 : Int) (n1_1 : Int) (n1_2 : Int) : funK c env lf 6 fi180 [.st [.i .i64 n0_0, .i .i64 n0_1, .i .i64 n0_2], .st [.i .i64 n1_0, .i .i64 n1_1, .i .i64 n1_2]] = f180 c lf n0_0 n0_1 n0_2 n1_0 n1_1 n1_2 := by
  refine (f180_raw c lf n0_0 n0_1 n0_2 n1_0 n1_1 n1_2).trans ?_
  rfl
/-- loop.example/g00285/laws.eqFaultS, the loop at region 4. -/
def f130_0_s (c : Orc) (lf : Nat) (l0 : List T) (l1 : List T) (L : Int → Option (List T)) (x327 : Int) : Option (List T) :=
  bif iLt x327 (l0.length : Int) then
    bif inR x327 l0.length then
    bif inR x327 l1.length then
    (c 180 [T.st [T.i .i64 (asI (T.cell (l0.getD x327.toNat T.u) 0)), T.i .i64 (asI (T.cell (l0.getD x327.toNat T.u) 1)), T.i .i64 (asI (T.cell (l0.getD x327.toNat T.u) 2))], T.st [T.i .i64 (asI (T.cell (l1.getD x327.toNat T.u) 0)), T.i .i64 (asI (T.cell (l1.getD x327.toNat T.u) 1)), T.i .i64 (asI (T.cell (l1.getD x327.toNat T.u) 2))]]).bind fun r328 =>
    bif !(asB (nth r328 0)) then
      some [T.i .i64 0, T.b false]
    else
      L (IntKind.wrap .i64 (x327 + 1))
    else none
    else none
  else
    some [T.i .i64 1]
def f130_0_c (l0 : List T) (l1 : List T) (x327 : Int) : CSt := ⟨[.ro 0 true [.i .i64, .i .i64, .i .i64] l0, .ro 0 true [.i .i64, .i .i64, .i .i64] l1, .i .i64 x327], [.dead, .dead]⟩
theorem f130_0_round (c : Orc) (lf : Nat) (l0 : List T) (l1 : List T) (L : CSt → Option (List T)) (x327 : Int) :
    roundK c env lf 6 fi130 2 4 [] [0, 1, 5] (x130_4_0) L (f130_0_c l0 l1 x327) = f130_0_s c lf l0 l1 (fun x327 => L (f130_0_c l0 l1 x327)) x327 := by kernel_rfl
def f130_0 (c : Orc) (lf : Nat) (l0 : List T) (l1 : List T) : Nat → Int → Option (List T)
  | 0 => fun _ => none
  | n + 1 => fun x327 => f130_0_s c lf l0 l1 (f130_0 c lf l0 l1 n) x327
theorem f130_0_u (c : Orc) (lf : Nat) (l0 : List T) (l1 : List T) (n : Nat) (x327 : Int) : f130_0 c lf l0 l1 (n + 1) x327 = f130_0_s c lf l0 l1 (f130_0 c lf l0 l1 n) x327 := rfl
theorem f130_0_eq (c : Orc) (lf : Nat) (l0 : List T) (l1 : List T) (n : Nat) (x327 : Int) :
    lpK c env lf 6 fi130 2 4 [] [0, 1, 5] (x130_4_0) n (f130_0_c l0 l1 x327) = f130_0 c lf l0 l1 n x327 := by
  induction n generalizing x327 with
  | zero => rfl
  | succ n ih =>
    refine (f130_0_round c lf l0 l1 _ x327).trans ?_
    have e : (fun x327 => lpK c env lf 6 fi130 2 4 [] [0, 1, 5] (x130_4_0) n (f130_0_c l0 l1 x327)) = f130_0 c lf l0 l1 n := by funext x327; exact ih x327
    show f130_0_s c lf l0 l1 (fun x327 => lpK c env lf 6 fi130 2 4 [] [0, 1, 5] (x130_4_0) n (f130_0_c l0 l1 x327)) x327 = _
    rw [e]; rfl
/-- loop.example/g00285/laws.eqFaultS -/
def f130_t (c : Orc) (lf : Nat) (lp0 : List T → List T → Int → Option (List T)) (l0 : List T) (l1 : List T) : Option (List T) :=
  bif (l0.length : Int) != (l1.length : Int) then
    some [T.b false]
  else
    (lp0 l0 l1 0).bind fun r329 =>
    bif asI (nth r329 0) == 0 then
      some [T.b (asB (nth r329 1))]
    else
      some [T.b true]
def f130 (c : Orc) (lf : Nat) (l0 : List T) (l1 : List T) : Option (List T) := f130_t c lf (fun (l0 : List T) (l1 : List T) (x327 : Int) => f130_0 c lf l0 l1 lf x327) l0 l1
theorem f130_raw (c : Orc) (lf : Nat) (l0 : List T) (l1 : List T) : funK c env lf 6 fi130 [.sl l0, .sl l1] = f130_t c lf (fun (l0 : List T) (l1 : List T) (x327 : Int) => lpK c env lf 6 fi130 2 4 [] [0, 1, 5] (x130_4_0) lf (f130_0_c l0 l1 x327)) l0 l1 := by kernel_rfl
theorem f130_eq (c : Orc) (lf : Nat) (l0 : List T) (l1 : List T) : funK c env lf 6 fi130 [.sl l0, .sl l1] = f130 c lf l0 l1 := by
  refine (f130_raw c lf l0 l1).trans ?_
  have e0 : (fun (l0 : List T) (l1 : List T) (x327 : Int) => lpK c env lf 6 fi130 2 4 [] [0, 1, 5] (x130_4_0) lf (f130_0_c l0 l1 x327)) = (fun (l0 : List T) (l1 : List T) (x327 : Int) => f130_0 c lf l0 l1 lf x327) := by funext l0 l1 x327; exact f130_0_eq c lf l0 l1 lf x327
  rw [e0]; rfl
/-- loop.example/g00285/laws.eqDev -/
def f78_t (c : Orc) (lf : Nat) (l0_0 : List T) (n0_1 : Int) (l0_2 : List T) (b0_3 : Bool) (l1_0 : List T) (n1_1 : Int) (l1_2 : List T) (b1_3 : Bool) : Option (List T) :=
  (c 129 [T.st [T.sl l0_0], T.st [T.sl l1_0]]).bind fun r330 =>
  bif !(asB (nth r330 0)) then
    some [T.b false]
  else
    bif n0_1 != n1_1 then
      some [T.b false]
    else
      (c 130 [T.sl l0_2, T.sl l1_2]).bind fun r331 =>
      bif !(asB (nth r331 0)) then
        some [T.b false]
      else
        bif !(b0_3 == b1_3) then
          some [T.b false]
        else
          some [T.b true]
def f78 (c : Orc) (lf : Nat) (l0_0 : List T) (n0_1 : Int) (l0_2 : List T) (b0_3 : Bool) (l1_0 : List T) (n1_1 : Int) (l1_2 : List T) (b1_3 : Bool) : Option (List T) := f78_t c lf l0_0 n0_1 l0_2 b0_3 l1_0 n1_1 l1_2 b1_3
theorem f78_raw (c : Orc) (lf : Nat) (l0_0 : List T) (n0_1 : Int) (l0_2 : List T) (b0_3 : Bool) (l1_0 : List T) (n1_1 : Int) (l1_2 : List T) (b1_3 : Bool) : funK c env lf 6 fi78 [.st [.sl l0_0, .i .i64 n0_1, .sl l0_2, .b b0_3], .st [.sl l1_0, .i .i64 n1_1, .sl l1_2, .b b1_3]] = f78_t c lf l0_0 n0_1 l0_2 b0_3 l1_0 n1_1 l1_2 b1_3 := by kernel_rfl
theorem f78_eq (c : Orc) (lf : Nat) (l0_0 : List T) (n0_1 : Int) (l0_2 : List T) (b0_3 : Bool) (l1_0 : List T) (n1_1 : Int) (l1_2 : List T) (b1_3 : Bool) : funK c env lf 6 fi78 [.st [.sl l0_0, .i .i64 n0_1, .sl l0_2, .b b0_3], .st [.sl l1_0, .i .i64 n1_1, .sl l1_2, .b b1_3]] = f78 c lf l0_0 n0_1 l0_2 b0_3 l1_0 n1_1 l1_2 b1_3 := by
  refine (f78_raw c lf l0_0 n0_1 l0_2 b0_3 l1_0 n1_1 l1_2 b1_3).trans ?_
  rfl
/-- loop.example/g00285/laws.eqLog -/
def f22_t (c : Orc) (lf : Nat) (l0_0 : List T) (n0_1 : Int) (l0_2 : List T) (b0_3 : Bool) (n0_4 : Int) (l1_0 : List T) (n1_1 : Int) (l1_2 : List T) (b1_3 : Bool) (n1_4 : Int) : Option (List T) :=
  (c 78 [T.st [T.sl l0_0, T.i .i64 n0_1, T.sl l0_2, T.b b0_3], T.st [T.sl l1_0, T.i .i64 n1_1, T.sl l1_2, T.b b1_3]]).bind fun r332 =>
  bif !(asB (nth r332 0)) then
    some [T.b false]
  else
    bif n0_4 != n1_4 then
      some [T.b false]
    else
      some [T.b true]
def f22 (c : Orc) (lf : Nat) (l0_0 : List T) (n0_1 : Int) (l0_2 : List T) (b0_3 : Bool) (n0_4 : Int) (l1_0 : List T) (n1_1 : Int) (l1_2 : List T) (b1_3 : Bool) (n1_4 : Int) : Option (List T) := f22_t c lf l0_0 n0_1 l0_2 b0_3 n0_4 l1_0 n1_1 l1_2 b1_3 n1_4
theorem f22_raw (c : Orc) (lf : Nat) (l0_0 : List T) (n0_1 : Int) (l0_2 : List T) (b0_3 : Bool) (n0_4 : Int) (l1_0 : List T) (n1_1 : Int) (l1_2 : List T) (b1_3 : Bool) (n1_4 : Int) : funK c env lf 6 fi22 [.st [.sl l0_0, .i .i64 n0_1, .sl l0_2, .b b0_3, .i .i64 n0_4], .st [.sl l1_0, .i .i64 n1_1, .sl l1_2, .b b1_3, .i .i64 n1_4]] = f22_t c lf l0_0 n0_1 l0_2 b0_3 n0_4 l1_0 n1_1 l1_2 b1_3 n1_4 := by kernel_rfl
theorem f22_eq (c : Orc) (lf : Nat) (l0_0 : List T) (n0_1 : Int) (l0_2 : List T) (b0_3 : Bool) (n0_4 : Int) (l1_0 : List T) (n1_1 : Int) (l1_2 : List T) (b1_3 : Bool) (n1_4 : Int) : funK c env lf 6 fi22 [.st [.sl l0_0, .i .i64 n0_1, .sl l0_2, .b b0_3, .i .i64 n0_4], .st [.sl l1_0, .i .i64 n1_1, .sl l1_2, .b b1_3, .i .i64 n1_4]] = f22 c lf l0_0 n0_1 l0_2 b0_3 n0_4 l1_0 n1_1 l1_2 b1_3 n1_4 := by
  refine (f22_raw c lf l0_0 n0_1 l0_2 b0_3 n0_4 l1_0 n1_1 l1_2 b1_3 n1_4).trans ?_
  rfl
/-- loop.example/g00285/laws.FnExactLogOk -/
def f4_t (c : Orc) (lf : Nat) (l0_0 : List T) (n0_1 : Int) (l0_2 : List T) (b0_3 : Bool) (n0_4 : Int) : Option (List T) :=
  (c 18 [T.st [T.sl l0_0, T.i .i64 n0_1, T.sl l0_2, T.b b0_3, T.i .i64 n0_4], T.i .i64 1048576]).bind fun r333 =>
  bif iLt (asI (nth r333 0)) 0 then
    some [T.b true]
  else
    (c 20 [T.st [T.sl l0_0, T.i .i64 n0_1, T.sl l0_2, T.b b0_3, T.i .i64 n0_4]]).bind fun r334 =>
    (c 19 [T.st [T.sl (asL (T.cell (nth r334 0) 0)), T.i .i64 (asI (T.cell (nth r334 0) 1)), T.sl (asL (T.cell (nth r334 0) 2)), T.b (asB (T.cell (nth r334 0) 3)), T.i .i64 (asI (T.cell (nth r334 0) 4))]]).bind fun r335 =>
    (c 20 [T.st [T.sl l0_0, T.i .i64 n0_1, T.sl l0_2, T.b b0_3, T.i .i64 n0_4]]).bind fun r336 =>
    (c 21 [T.st [T.sl (asL (T.cell (nth r336 0) 0)), T.i .i64 (asI (T.cell (nth r336 0) 1)), T.sl (asL (T.cell (nth r336 0) 2)), T.b (asB (T.cell (nth r336 0) 3)), T.i .i64 (asI (T.cell (nth r336 0) 4))]]).bind fun r337 =>
    bif !((asB (nth r337 0)) == (asB (nth r335 0))) then
      some [T.b false]
    else
      (c 20 [T.st [T.sl l0_0, T.i .i64 n0_1, T.sl l0_2, T.b b0_3, T.i .i64 n0_4]]).bind fun r338 =>
      (c 22 [T.st [T.sl (asL (T.cell (nth r336 0) 0)), T.i .i64 (asI (T.cell (nth r336 0) 1)), T.sl (asL (T.cell (nth r336 0) 2)), T.b (asB (T.cell (nth r336 0) 3)), T.i .i64 (asI (T.cell (nth r336 0) 4))], T.st [T.sl (asL (T.cell (nth r338 0) 0)), T.i .i64 (asI (T.cell (nth r338 0) 1)), T.sl (asL (T.cell (nth r338 0) 2)), T.b (asB (T.cell (nth r338 0) 3)), T.i .i64 (asI (T.cell (nth r338 0) 4))]]).bind fun r339 =>
      bif !(asB (nth r339 0)) then
        some [T.b false]
      else
        some [T.b true]
def f4 (c : Orc) (lf : Nat) (l0_0 : List T) (n0_1 : Int) (l0_2 : List T) (b0_3 : Bool) (n0_4 : Int) : Option (List T) := f4_t c lf l0_0 n0_1 l0_2 b0_3 n0_4
theorem f4_raw (c : Orc) (lf : Nat) (l0_0 : List T) (n0_1 : Int) (l0_2 : List T) (b0_3 : Bool) (n0_4 : Int) : funK c env lf 6 fi4 [.st [.sl l0_0, .i .i64 n0_1, .sl l0_2, .b b0_3, .i .i64 n0_4]] = f4_t c lf l0_0 n0_1 l0_2 b0_3 n0_4 := by kernel_rfl
theorem f4_eq (c : Orc) (lf : Nat) (l0_0 : List T) (n0_1 : Int) (l0_2 : List T) (b0_3 : Bool) (n0_4 : Int) : funK c env lf 6 fi4 [.st [.sl l0_0, .i .i64 n0_1, .sl l0_2, .b b0_3, .i .i64 n0_4]] = f4 c lf l0_0 n0_1 l0_2 b0_3 n0_4 := by
  refine (f4_raw c lf l0_0 n0_1 l0_2 b0_3 n0_4).trans ?_
  rfl
end Go.Proofs.Ytdclnhlpifahpaa.T
