/- What functions of the law FnExactSameTree come to, in trees; no condition. -/
import Derived.Test.YtncfoonahkieoaaGreatDoorRows
import Derived.Test.YtncfoonahkieoaaGreatDoorV3
import Derived.KernelRfl
set_option linter.unusedVariables false
set_option linter.constructorNameAsVariable false
set_option linter.unusedSimpArgs false
set_option linter.unnecessarySimpa false
namespace Go.Proofs.YtncfoonahkieoaaGreatDoor.T
open Go Go.Proofs.YtncfoonahkieoaaGreatDoorV
def tyTab : List (Nat × Ti) := [
 (3, ⟨false, [.i .i64], .o⟩),
 (4, ⟨false, [.b], .o⟩),
 (5, ⟨false, [.i .u8], .o⟩),
 (9, ⟨false, [.s], .o⟩),
 (22, ⟨false, [.sl true [.i .i64, .i .i64, .i .i64, .sl false [.i .u8], .sl true [.s, .i .i64], .sl true [.s, .s]]], .sl 72⟩),
 (24, ⟨true, [.sl true [.i .i64, .i .i64, .i .i64, .sl false [.i .u8], .sl true [.s, .i .i64], .sl true [.s, .s]], .i .i64], .st [(0, 22), (1, 3)]⟩),
 (27, ⟨false, [.sl true [.i .i64, .i .i64, .i .i64, .sl false [.i .u8], .sl true [.s, .i .i64], .sl true [.s, .s]]], .sl 50⟩),
 (29, ⟨true, [.sl true [.i .i64, .i .i64, .i .i64, .sl false [.i .u8], .sl true [.s, .i .i64], .sl true [.s, .s]], .i .i64], .st [(0, 27), (1, 3)]⟩),
 (32, ⟨false, [.sl true [.s, .i .i64, .sl false [.i .u8], .sl true [.s, .s], .s]], .sl 46⟩),
 (41, ⟨false, [.sl true [.s, .s]], .sl 54⟩),
 (43, ⟨false, [.o], .o⟩),
 (44, ⟨false, [.sl false [.i .u8]], .sl 5⟩),
 (46, ⟨true, [.s, .i .i64, .sl false [.i .u8], .sl true [.s, .s], .s], .st [(0, 9), (1, 3), (2, 44), (3, 41), (4, 9)]⟩),
 (48, ⟨false, [.sl true [.s, .i .i64]], .sl 76⟩),
 (50, ⟨true, [.i .i64, .i .i64, .i .i64, .sl false [.i .u8], .sl true [.s, .i .i64], .sl true [.s, .s]], .st [(0, 3), (1, 3), (2, 3), (3, 44), (4, 48), (5, 41)]⟩),
 (54, ⟨true, [.s, .s], .st [(0, 9), (1, 9)]⟩),
 (57, ⟨false, [.sl false [.s]], .sl 9⟩),
 (69, ⟨false, [.sl true [.s, .i .i64]], .sl 112⟩),
 (70, ⟨false, [.sl true [.s, .s]], .sl 114⟩),
 (72, ⟨true, [.i .i64, .i .i64, .i .i64, .sl false [.i .u8], .sl true [.s, .i .i64], .sl true [.s, .s]], .st [(0, 3), (1, 3), (2, 3), (3, 44), (4, 69), (5, 70)]⟩),
 (73, ⟨false, [.sl false [.i .i64]], .sl 3⟩),
 (76, ⟨true, [.s, .i .i64], .st [(0, 9), (1, 3)]⟩),
 (82, ⟨false, [.o], .o⟩),
 (93, ⟨false, [.o], .o⟩),
 (112, ⟨true, [.s, .i .i64], .st [(0, 9), (1, 3)]⟩),
 (114, ⟨true, [.s, .s], .st [(0, 9), (1, 9)]⟩),
 (120, ⟨false, [.o], .o⟩)]
noncomputable def fi66 : Fi := ⟨Tryz.f66, [], false, [.ro (.sl false [.i .u8]), .v (.i .i64)], [.v (.i .i64)]⟩
noncomputable def fi93 : Fi := ⟨Tryz.f93, [], false, [.ag [.v (.s), .v (.i .i64)], .v (.i .i64)], [.v (.i .i64)]⟩
def x67_5_0 : List (Ex × List Nat × CSt) := [(.ret, [4], ⟨[.i .i64 0], [.dead, .dead]⟩), ((.ex 0), [1], ⟨[.i .i64 0], [.dead, .dead]⟩)]
noncomputable def fi67 : Fi := ⟨Tryz.f67, [⟨5, [0, 1, 5], [], [(⟨[.ro 0 true [.s, .i .i64] [], .i .i64 0, .i .i64 0], [.dead, .dead]⟩, x67_5_0)]⟩], false, [.ro (.sl true [.s, .i .i64]), .v (.i .i64)], [.v (.i .i64)]⟩
noncomputable def fi94 : Fi := ⟨Tryz.f94, [], false, [.ag [.v (.s), .v (.s)], .v (.i .i64)], [.v (.i .i64)]⟩
def x68_5_0 : List (Ex × List Nat × CSt) := [(.ret, [4], ⟨[.i .i64 0], [.dead, .dead]⟩), ((.ex 0), [1], ⟨[.i .i64 0], [.dead, .dead]⟩)]
noncomputable def fi68 : Fi := ⟨Tryz.f68, [⟨5, [0, 1, 5], [], [(⟨[.ro 0 true [.s, .s] [], .i .i64 0, .i .i64 0], [.dead, .dead]⟩, x68_5_0)]⟩], false, [.ro (.sl true [.s, .s]), .v (.i .i64)], [.v (.i .i64)]⟩
noncomputable def fi41 : Fi := ⟨Tryz.f41, [], false, [.ag [.v (.i .i64), .v (.i .i64), .v (.i .i64), .ro (.sl false [.i .u8]), .ro (.sl true [.s, .i .i64]), .ro (.sl true [.s, .s])], .v (.i .i64)], [.v (.i .i64)]⟩
def x16_5_0 : List (Ex × List Nat × CSt) := [(.ret, [4], ⟨[.i .i64 0], [.dead, .dead]⟩), ((.ex 0), [1], ⟨[.i .i64 0], [.dead, .dead]⟩)]
noncomputable def fi16 : Fi := ⟨Tryz.f16, [⟨5, [0, 1, 5], [], [(⟨[.ro 0 true [.i .i64, .i .i64, .i .i64, .sl false [.i .u8], .sl true [.s, .i .i64], .sl true [.s, .s]] [], .i .i64 0, .i .i64 0], [.dead, .dead]⟩, x16_5_0)]⟩], false, [.ro (.sl true [.i .i64, .i .i64, .i .i64, .sl false [.i .u8], .sl true [.s, .i .i64], .sl true [.s, .s]]), .v (.i .i64)], [.v (.i .i64)]⟩
noncomputable def fi5 : Fi := ⟨Tryz.f5, [], false, [.ag [.ro (.sl true [.i .i64, .i .i64, .i .i64, .sl false [.i .u8], .sl true [.s, .i .i64], .sl true [.s, .s]]), .v (.i .i64)], .v (.i .i64)], [.v (.i .i64)]⟩
def x73_3_0 : List (Ex × List Nat × CSt) := [((.ex 0), [3], ⟨[.rf 1 [] 0 none], [.dead, .row false [.i .u8] [] 0 false]⟩)]
noncomputable def fi73 : Fi := ⟨Tryz.f73, [⟨3, [0, 3, 4], [], [(⟨[.ro 0 false [.i .u8] [], .rf 1 [] 0 none, .i .i64 0], [.dead, .row false [.i .u8] [] 0 false]⟩, x73_3_0)]⟩], false, [.ro (.sl false [.i .u8])], [.ow (.sl false [.i .u8])]⟩
noncomputable def fi98 : Fi := ⟨Tryz.f98, [], false, [.ag [.v (.s), .v (.i .i64)]], [.ag [.v (.s), .v (.i .i64)]]⟩
def x74_3_0 : List (Ex × List Nat × CSt) := [((.ex 0), [3], ⟨[.rf 1 [] 0 none], [.dead, .row true [.s, .i .i64] [] 0 false]⟩)]
noncomputable def fi74 : Fi := ⟨Tryz.f74, [⟨3, [0, 3, 4], [], [(⟨[.ro 0 true [.s, .i .i64] [], .rf 1 [] 0 none, .i .i64 0], [.dead, .row true [.s, .i .i64] [] 0 false]⟩, x74_3_0)]⟩], false, [.ro (.sl true [.s, .i .i64])], [.ow (.sl true [.s, .i .i64])]⟩
noncomputable def fi99 : Fi := ⟨Tryz.f99, [], false, [.ag [.v (.s), .v (.s)]], [.ag [.v (.s), .v (.s)]]⟩
def x75_3_0 : List (Ex × List Nat × CSt) := [((.ex 0), [3], ⟨[.rf 1 [] 0 none], [.dead, .row true [.s, .s] [] 0 false]⟩)]
noncomputable def fi75 : Fi := ⟨Tryz.f75, [⟨3, [0, 3, 4], [], [(⟨[.ro 0 true [.s, .s] [], .rf 1 [] 0 none, .i .i64 0], [.dead, .row true [.s, .s] [] 0 false]⟩, x75_3_0)]⟩], false, [.ro (.sl true [.s, .s])], [.ow (.sl true [.s, .s])]⟩
noncomputable def fi48 : Fi := ⟨Tryz.f48, [], false, [.ag [.v (.i .i64), .v (.i .i64), .v (.i .i64), .ro (.sl false [.i .u8]), .ro (.sl true [.s, .i .i64]), .ro (.sl true [.s, .s])]], [.ag [.v (.i .i64), .v (.i .i64), .v (.i .i64), .ow (.sl false [.i .u8]), .ow (.sl true [.s, .i .i64]), .ow (.sl true [.s, .s])]]⟩
def x21_3_0 : List (Ex × List Nat × CSt) := [((.ex 0), [3], ⟨[.rf 1 [] 0 none], [.dead, .row true [.i .i64, .i .i64, .i .i64, .sl false [.i .u8], .sl true [.s, .i .i64], .sl true [.s, .s]] [] 0 false]⟩)]
noncomputable def fi21 : Fi := ⟨Tryz.f21, [⟨3, [0, 3, 4], [], [(⟨[.ro 0 true [.i .i64, .i .i64, .i .i64, .sl false [.i .u8], .sl true [.s, .i .i64], .sl true [.s, .s]] [], .rf 1 [] 0 none, .i .i64 0], [.dead, .row true [.i .i64, .i .i64, .i .i64, .sl false [.i .u8], .sl true [.s, .i .i64], .sl true [.s, .s]] [] 0 false]⟩, x21_3_0)]⟩], false, [.ro (.sl true [.i .i64, .i .i64, .i .i64, .sl false [.i .u8], .sl true [.s, .i .i64], .sl true [.s, .s]])], [.ow (.sl true [.i .i64, .i .i64, .i .i64, .sl false [.i .u8], .sl true [.s, .i .i64], .sl true [.s, .s]])]⟩
noncomputable def fi7 : Fi := ⟨Tryz.f7, [], false, [.ag [.ro (.sl true [.i .i64, .i .i64, .i .i64, .sl false [.i .u8], .sl true [.s, .i .i64], .sl true [.s, .s]]), .v (.i .i64)]], [.ag [.ow (.sl true [.i .i64, .i .i64, .i .i64, .sl false [.i .u8], .sl true [.s, .i .i64], .sl true [.s, .s]]), .v (.i .i64)]]⟩
noncomputable def fi69 : Fi := ⟨Tryz.f69, [], false, [.v (.i .i64), .v (.i .i64), .v (.i .i64)], [.v (.b)]⟩
def x105_2_0 : List (Ex × List Nat × CSt) := [(.ret, [2], ⟨[.b false], [.dead]⟩), ((.ex 0), [0], ⟨[.s (⟨#[]⟩ : ByteArray)], [.dead]⟩)]
noncomputable def fi105 : Fi := ⟨Tryz.f105, [⟨2, [0, 3], [], [(⟨[.s (⟨#[]⟩ : ByteArray), .i .i64 0], [.dead]⟩, x105_2_0)]⟩], false, [.v (.s)], [.v (.b)]⟩
def x95_2_0 : List (Ex × List Nat × CSt) := [(.ret, [2], ⟨[.b false], [.dead]⟩), ((.ex 0), [0], ⟨[.ro 0 true [.s, .i .i64] []], [.dead]⟩)]
noncomputable def fi95 : Fi := ⟨Tryz.f95, [⟨2, [0, 3], [], [(⟨[.ro 0 true [.s, .i .i64] [], .i .i64 0], [.dead]⟩, x95_2_0)]⟩], false, [.ro (.sl true [.s, .i .i64])], [.v (.b)]⟩
def x96_2_0 : List (Ex × List Nat × CSt) := [(.ret, [2], ⟨[.b false], [.dead]⟩), ((.ex 0), [0], ⟨[.ro 0 true [.s, .s] []], [.dead]⟩)]
noncomputable def fi96 : Fi := ⟨Tryz.f96, [⟨2, [0, 3], [], [(⟨[.ro 0 true [.s, .s] [], .i .i64 0], [.dead]⟩, x96_2_0)]⟩], false, [.ro (.sl true [.s, .s])], [.v (.b)]⟩
noncomputable def fi70 : Fi := ⟨Tryz.f70, [], false, [.ag [.v (.i .i64), .v (.i .i64), .v (.i .i64), .ro (.sl false [.i .u8]), .ro (.sl true [.s, .i .i64]), .ro (.sl true [.s, .s])]], [.v (.b)]⟩
def x42_4_0 : List (Ex × List Nat × CSt) := [(.ret, [2], ⟨[.b false], [.dead, .dead]⟩), ((.ex 0), [1], ⟨[.bp 2 0], [.dead, .dead, .box [.ro 0 true [.i .i64, .i .i64, .i .i64, .sl false [.i .u8], .sl true [.s, .i .i64], .sl true [.s, .s]] [], .i .i64 0]]⟩)]
noncomputable def fi42 : Fi := ⟨Tryz.f42, [⟨4, [1, 3], [], [(⟨[.bp 2 0, .i .i64 0], [.dead, .dead, .box [.ro 0 true [.i .i64, .i .i64, .i .i64, .sl false [.i .u8], .sl true [.s, .i .i64], .sl true [.s, .s]] [], .i .i64 0]]⟩, x42_4_0)]⟩], false, [.ag [.ro (.sl true [.i .i64, .i .i64, .i .i64, .sl false [.i .u8], .sl true [.s, .i .i64], .sl true [.s, .s]]), .v (.i .i64)]], [.v (.b)]⟩
def x45_2_0 : List (Ex × List Nat × CSt) := [(.ret, [4], ⟨[.i .i64 0], [.dead, .dead, .dead]⟩), ((.ex 0), [], ⟨[], [.dead, .dead, .dead]⟩)]
noncomputable def fi45 : Fi := ⟨Tryz.f45, [⟨2, [1, 2, 5], [], [(⟨[.i .i64 0, .bp 3 0, .i .i64 0], [.dead, .dead, .dead, .box [.ro 0 true [.i .i64, .i .i64, .i .i64, .sl false [.i .u8], .sl true [.s, .i .i64], .sl true [.s, .s]] [], .i .i64 0]]⟩, x45_2_0)]⟩], false, [.ag [.ro (.sl true [.i .i64, .i .i64, .i .i64, .sl false [.i .u8], .sl true [.s, .i .i64], .sl true [.s, .s]]), .v (.i .i64)], .v (.i .i64)], [.v (.i .i64)]⟩
noncomputable def fi72 : Fi := ⟨Tryz.f72, [], false, [.ag [.v (.i .i64), .v (.i .i64), .v (.i .i64), .ro (.sl false [.i .u8]), .ro (.sl true [.s, .i .i64]), .ro (.sl true [.s, .s])]], [.ag [.v (.i .i64), .v (.i .i64), .v (.i .i64), .ow (.sl false [.i .u8]), .ow (.sl true [.s, .i .i64]), .ow (.sl true [.s, .s])]]⟩
noncomputable def fi46 : Fi := ⟨Tryz.f46, [], false, [.ag [.ro (.sl true [.i .i64, .i .i64, .i .i64, .sl false [.i .u8], .sl true [.s, .i .i64], .sl true [.s, .s]]), .v (.i .i64)], .v (.i .i64)], [.ag [.v (.i .i64), .v (.i .i64), .v (.i .i64), .ow (.sl false [.i .u8]), .ow (.sl true [.s, .i .i64]), .ow (.sl true [.s, .s])], .v (.b)]⟩
def x121_2_0 : List (Ex × List Nat × CSt) := [(.ret, [4], ⟨[.b false], [.dead, .dead]⟩), ((.ex 0), [], ⟨[], [.dead, .dead]⟩)]
noncomputable def fi121 : Fi := ⟨Tryz.f121, [⟨2, [0, 1, 5], [], [(⟨[.ro 0 false [.i .i64] [], .i .i64 0, .i .i64 0], [.dead, .dead]⟩, x121_2_0)]⟩], false, [.ro (.sl false [.i .i64]), .v (.i .i64)], [.v (.b)]⟩
def x97_5_0 : List (Ex × List Nat × CSt) := [((.ex 0), [1, 5, 6], ⟨[.i .i64 0, .rf 2 [] 0 none, .i .i64 0], [.dead, .dead, .row false [.i .i64] [] 0 false]⟩)]
noncomputable def fi97 : Fi := ⟨Tryz.f97, [⟨5, [1, 5, 6], [], [(⟨[.i .i64 0, .rf 2 [] 0 none, .i .i64 0], [.dead, .dead, .row false [.i .i64] [] 0 false]⟩, x97_5_0)]⟩], false, [.ro (.sl false [.i .i64]), .v (.i .i64)], [.ro (.sl false [.i .i64])]⟩
def x71_3_0 : List (Ex × List Nat × CSt) := [((.ex 0), [5], ⟨[.ro 0 false [.i .i64] []], [.dead, .dead, .dead]⟩)]
def x71_7_0 : List (Ex × List Nat × CSt) := [((.ex 2), [1, 2, 5, 6], ⟨[.ro 0 false [.i .i64] [], .bp 3 0, .ro 0 false [.i .i64] [], .i .i64 0], [.dead, .dead, .dead, .box [.ro 0 true [.i .i64, .i .i64, .i .i64, .sl false [.i .u8], .sl true [.s, .i .i64], .sl true [.s, .s]] [], .i .i64 0]]⟩)]
noncomputable def fi71 : Fi := ⟨Tryz.f71, [⟨3, [1, 2, 5, 6], [], [(⟨[.ro 0 false [.i .i64] [], .bp 3 0, .ro 0 false [.i .i64] [], .i .i64 0], [.dead, .dead, .dead, .box [.ro 0 true [.i .i64, .i .i64, .i .i64, .sl false [.i .u8], .sl true [.s, .i .i64], .sl true [.s, .s]] [], .i .i64 0]]⟩, x71_3_0)]⟩, ⟨7, [1, 2, 5, 6, 7, 8, 9], [], [(⟨[.ro 0 false [.i .i64] [], .bp 3 0, .ro 0 false [.i .i64] [], .i .i64 0, .bp 4 0, .b false, .i .i64 0], [.dead, .dead, .dead, .box [.ro 0 true [.i .i64, .i .i64, .i .i64, .sl false [.i .u8], .sl true [.s, .i .i64], .sl true [.s, .s]] [], .i .i64 0], .box [.i .i64 0, .i .i64 0, .i .i64 0, .rf 5 [] 0 none, .rf 6 [] 0 none, .rf 7 [] 0 none], .row false [.i .u8] [] 0 false, .row true [.s, .i .i64] [] 0 false, .row true [.s, .s] [] 0 false]⟩, x71_7_0)]⟩], false, [.ag [.ro (.sl true [.i .i64, .i .i64, .i .i64, .sl false [.i .u8], .sl true [.s, .i .i64], .sl true [.s, .s]]), .v (.i .i64)], .ro (.sl false [.i .i64])], [.ro (.sl false [.i .i64])]⟩
def x43_6_0 : List (Ex × List Nat × CSt) := [((.ex 0), [3], ⟨[.ro 0 false [.i .i64] []], [.dead, .dead]⟩)]
noncomputable def fi43 : Fi := ⟨Tryz.f43, [⟨6, [1, 3, 4], [(3, 0)], [(⟨[.bp 2 0, .ro 0 false [.i .i64] [], .i .i64 0], [.dead, .dead, .box [.ro 0 true [.i .i64, .i .i64, .i .i64, .sl false [.i .u8], .sl true [.s, .i .i64], .sl true [.s, .s]] [], .i .i64 0]]⟩, x43_6_0)]⟩], false, [.ag [.ro (.sl true [.i .i64, .i .i64, .i .i64, .sl false [.i .u8], .sl true [.s, .i .i64], .sl true [.s, .s]]), .v (.i .i64)]], [.ro (.sl false [.i .i64])]⟩
def x44_3_0 : List (Ex × List Nat × CSt) := [((.ex 0), [5], ⟨[.i .i64 0], [.dead, .dead, .dead]⟩)]
def x44_6_0 : List (Ex × List Nat × CSt) := [((.ex 2), [1, 2, 5, 6], ⟨[.i .i64 0, .bp 3 0, .i .i64 0, .i .i64 0], [.dead, .dead, .dead, .box [.ro 0 true [.i .i64, .i .i64, .i .i64, .sl false [.i .u8], .sl true [.s, .i .i64], .sl true [.s, .s]] [], .i .i64 0]]⟩)]
noncomputable def fi44 : Fi := ⟨Tryz.f44, [⟨3, [1, 2, 5, 6], [], [(⟨[.i .i64 0, .bp 3 0, .i .i64 0, .i .i64 0], [.dead, .dead, .dead, .box [.ro 0 true [.i .i64, .i .i64, .i .i64, .sl false [.i .u8], .sl true [.s, .i .i64], .sl true [.s, .s]] [], .i .i64 0]]⟩, x44_3_0)]⟩, ⟨6, [1, 2, 5, 6, 7], [], [(⟨[.i .i64 0, .bp 3 0, .i .i64 0, .i .i64 0, .i .i64 0], [.dead, .dead, .dead, .box [.ro 0 true [.i .i64, .i .i64, .i .i64, .sl false [.i .u8], .sl true [.s, .i .i64], .sl true [.s, .s]] [], .i .i64 0]]⟩, x44_6_0)]⟩], false, [.ag [.ro (.sl true [.i .i64, .i .i64, .i .i64, .sl false [.i .u8], .sl true [.s, .i .i64], .sl true [.s, .s]]), .v (.i .i64)], .v (.i .i64)], [.v (.i .i64)]⟩
def x17_4_0 : List (Ex × List Nat × CSt) := [(.ret, [2], ⟨[.b false], [.dead, .dead]⟩), ((.ex 0), [], ⟨[], [.dead, .dead]⟩)]
def x17_10_0 : List (Ex × List Nat × CSt) := [(.ret, [2], ⟨[.b false], [.dead, .dead]⟩), ((.ex 2), [1, 3], ⟨[.bp 2 0, .i .i64 0], [.dead, .dead, .box [.ro 0 true [.i .i64, .i .i64, .i .i64, .sl false [.i .u8], .sl true [.s, .i .i64], .sl true [.s, .s]] [], .i .i64 0]]⟩)]
noncomputable def fi17 : Fi := ⟨Tryz.f17, [⟨4, [1, 3], [], [(⟨[.bp 2 0, .i .i64 0], [.dead, .dead, .box [.ro 0 true [.i .i64, .i .i64, .i .i64, .sl false [.i .u8], .sl true [.s, .i .i64], .sl true [.s, .s]] [], .i .i64 0]]⟩, x17_4_0)]⟩, ⟨10, [1, 3, 4, 5], [], [(⟨[.bp 2 0, .i .i64 0, .bp 3 0, .i .i64 0], [.dead, .dead, .box [.ro 0 true [.i .i64, .i .i64, .i .i64, .sl false [.i .u8], .sl true [.s, .i .i64], .sl true [.s, .s]] [], .i .i64 0], .box [.i .i64 0, .i .i64 0, .i .i64 0, .ro 0 false [.i .u8] [], .ro 0 true [.s, .i .i64] [], .ro 0 true [.s, .s] []]]⟩, x17_10_0)]⟩], false, [.ag [.ro (.sl true [.i .i64, .i .i64, .i .i64, .sl false [.i .u8], .sl true [.s, .i .i64], .sl true [.s, .s]]), .v (.i .i64)]], [.v (.b)]⟩
noncomputable def fi19 : Fi := ⟨Tryz.f19, [], false, [.ag [.ro (.sl true [.i .i64, .i .i64, .i .i64, .sl false [.i .u8], .sl true [.s, .i .i64], .sl true [.s, .s]]), .v (.i .i64)]], [.ow (.sl true [.s, .s])]⟩
def x18_4_0 : List (Ex × List Nat × CSt) := [(.ret, [4], ⟨[.b false], [.dead, .dead]⟩), ((.ex 0), [], ⟨[], [.dead, .dead]⟩)]
noncomputable def fi18 : Fi := ⟨Tryz.f18, [⟨4, [0, 1, 5], [], [(⟨[.ro 0 true [.s, .s] [], .ro 0 true [.s, .s] [], .i .i64 0], [.dead, .dead]⟩, x18_4_0)]⟩], false, [.ro (.sl true [.s, .s]), .ro (.sl true [.s, .s])], [.v (.b)]⟩
def x56_3_0 : List (Ex × List Nat × CSt) := [((.ex 0), [], ⟨[], [.dead, .dead, .dead, .dead, .box [.rf 5 [] 0 none], .row false [.s] [] 0 false]⟩)]
noncomputable def fi56 : Fi := ⟨Tryz.f56, [⟨3, [2, 3, 4, 8, 10], [], [(⟨[.s (⟨#[]⟩ : ByteArray), .bp 4 0, .bp 6 0, .bp 7 0, .i .i64 0], [.dead, .dead, .dead, .dead, .box [.rf 5 [] 0 none], .row false [.s] [] 0 false, .box [.ro 0 true [.i .i64, .i .i64, .i .i64, .sl false [.i .u8], .sl true [.s, .i .i64], .sl true [.s, .s]] [], .i .i64 0], .box [.i .i64 0, .i .i64 0, .i .i64 0, .rf 8 [] 0 none, .rf 9 [] 0 none, .rf 10 [] 0 none], .row false [.i .u8] [] 0 false, .row true [.s, .i .i64] [] 0 false, .row true [.s, .s] [] 0 false]⟩, x56_3_0)]⟩], false, [.ag [.ro (.sl true [.i .i64, .i .i64, .i .i64, .sl false [.i .u8], .sl true [.s, .i .i64], .sl true [.s, .s]]), .v (.i .i64)], .v (.i .i64), .v (.s), .bx [.ow (.sl false [.s])]], []⟩
def x57_3_0 : List (Ex × List Nat × CSt) := [((.ex 0), [3], ⟨[.rf 1 [] 0 none], [.dead, .row false [.s] [] 0 false]⟩)]
def x57_7_0 : List (Ex × List Nat × CSt) := [((.ex 2), [3, 4, 5, 6], ⟨[.rf 1 [] 0 none, .i .i64 0, .s (⟨#[]⟩ : ByteArray), .i .i64 0], [.dead, .row false [.s] [] 0 false]⟩)]
noncomputable def fi57 : Fi := ⟨Tryz.f57, [⟨3, [3, 4], [], [(⟨[.rf 1 [] 0 none, .i .i64 0], [.dead, .row false [.s] [] 0 false]⟩, x57_3_0)]⟩, ⟨7, [3, 4, 5, 6], [], [(⟨[.rf 1 [] 0 none, .i .i64 0, .s (⟨#[]⟩ : ByteArray), .i .i64 0], [.dead, .row false [.s] [] 0 false]⟩, x57_7_0)]⟩], false, [.ro (.sl false [.s])], [.ow (.sl false [.s])]⟩
noncomputable def fi28 : Fi := ⟨Tryz.f28, [], false, [.ag [.ro (.sl true [.i .i64, .i .i64, .i .i64, .sl false [.i .u8], .sl true [.s, .i .i64], .sl true [.s, .s]]), .v (.i .i64)]], [.ow (.sl false [.s])]⟩
def x86_6_0 : List (Ex × List Nat × CSt) := [((.ex 0), [0, 4], ⟨[.s (⟨#[]⟩ : ByteArray), .rf 1 [] 0 none], [.dead, .row false [.s] [] 0 false]⟩), (.ret, [2, 3], ⟨[.rf 1 [] 0 none, .b false], [.dead, .row false [.s] [] 0 false]⟩)]
noncomputable def fi86 : Fi := ⟨Tryz.f86, [⟨6, [0, 4, 5, 6], [], [(⟨[.s (⟨#[]⟩ : ByteArray), .rf 1 [] 0 none, .i .i64 0, .i .i64 0], [.dead, .row false [.s] [] 0 false]⟩, x86_6_0)]⟩], false, [.v (.s)], [.ow (.sl false [.s]), .v (.b)]⟩
def x106_2_0 : List (Ex × List Nat × CSt) := [(.ret, [4], ⟨[.i .i64 0], [.dead, .dead, .dead, .dead, .dead, .dead, .dead]⟩), ((.ex 0), [], ⟨[], [.dead, .dead, .dead, .dead, .dead, .dead, .dead]⟩)]
noncomputable def fi106 : Fi := ⟨Tryz.f106, [⟨2, [1, 2, 5], [], [(⟨[.s (⟨#[]⟩ : ByteArray), .bp 7 0, .i .i64 0], [.dead, .dead, .dead, .dead, .dead, .dead, .dead, .box [.i .i64 0, .i .i64 0, .i .i64 0, .ro 0 false [.i .u8] [], .ro 0 true [.s, .i .i64] [], .ro 0 true [.s, .s] []]]⟩, x106_2_0)]⟩], false, [.ag [.v (.i .i64), .v (.i .i64), .v (.i .i64), .ro (.sl false [.i .u8]), .ro (.sl true [.s, .i .i64]), .ro (.sl true [.s, .s])], .v (.s)], [.v (.i .i64)]⟩
def x87_3_0 : List (Ex × List Nat × CSt) := [(.ret, [4, 5], ⟨[.i .i64 0, .i .i64 0], [.dead, .dead, .dead]⟩), ((.ex 0), [6], ⟨[.i .i64 0], [.dead, .dead, .dead]⟩)]
noncomputable def fi87 : Fi := ⟨Tryz.f87, [⟨3, [1, 2, 6, 7], [], [(⟨[.ro 0 false [.s] [], .bp 3 0, .i .i64 0, .i .i64 0], [.dead, .dead, .dead, .box [.ro 0 true [.i .i64, .i .i64, .i .i64, .sl false [.i .u8], .sl true [.s, .i .i64], .sl true [.s, .s]] [], .i .i64 0]]⟩, x87_3_0)]⟩], false, [.ag [.ro (.sl true [.i .i64, .i .i64, .i .i64, .sl false [.i .u8], .sl true [.s, .i .i64], .sl true [.s, .s]]), .v (.i .i64)], .ro (.sl false [.s])], [.v (.i .i64), .v (.i .i64)]⟩
noncomputable def fi58 : Fi := ⟨Tryz.f58, [], false, [.ag [.ro (.sl true [.i .i64, .i .i64, .i .i64, .sl false [.i .u8], .sl true [.s, .i .i64], .sl true [.s, .s]]), .v (.i .i64)], .v (.s)], [.v (.i .i64), .v (.i .i64)]⟩
noncomputable def fi29 : Fi := ⟨Tryz.f29, [], false, [.ag [.ro (.sl true [.i .i64, .i .i64, .i .i64, .sl false [.i .u8], .sl true [.s, .i .i64], .sl true [.s, .s]]), .v (.i .i64)], .v (.s)], [.ag [.v (.i .i64), .v (.i .i64), .v (.i .i64), .ow (.sl false [.i .u8]), .ow (.sl true [.s, .i .i64]), .ow (.sl true [.s, .s])], .v (.i .i64)]⟩
def x30_2_0 : List (Ex × List Nat × CSt) := [(.ret, [6], ⟨[.s (⟨#[]⟩ : ByteArray)], [.dead, .dead, .dead, .dead]⟩), ((.ex 0), [], ⟨[], [.dead, .dead, .dead, .dead]⟩)]
noncomputable def fi30 : Fi := ⟨Tryz.f30, [⟨2, [1, 2, 3, 7], [], [(⟨[.ro 0 false [.s] [], .i .i64 0, .bp 4 0, .i .i64 0], [.dead, .dead, .dead, .dead, .box [.ro 0 true [.i .i64, .i .i64, .i .i64, .sl false [.i .u8], .sl true [.s, .i .i64], .sl true [.s, .s]] [], .i .i64 0]]⟩, x30_2_0)]⟩], false, [.ag [.ro (.sl true [.i .i64, .i .i64, .i .i64, .sl false [.i .u8], .sl true [.s, .i .i64], .sl true [.s, .s]]), .v (.i .i64)], .ro (.sl false [.s]), .v (.i .i64)], [.v (.s)]⟩
def x10_4_0 : List (Ex × List Nat × CSt) := [((.ex 0), [3], ⟨[.rf 2 [] 0 none], [.dead, .dead, .row true [.s, .i .i64, .sl false [.i .u8], .sl true [.s, .s], .s] [] 0 false]⟩)]
noncomputable def fi10 : Fi := ⟨Tryz.f10, [⟨4, [1, 3, 4, 5], [], [(⟨[.bp 2 0, .rf 3 [] 0 none, .rf 4 [] 0 none, .i .i64 0], [.dead, .dead, .box [.ro 0 true [.i .i64, .i .i64, .i .i64, .sl false [.i .u8], .sl true [.s, .i .i64], .sl true [.s, .s]] [], .i .i64 0], .row true [.s, .i .i64, .sl false [.i .u8], .sl true [.s, .s], .s] [] 0 false, .row false [.s] [] 0 false]⟩, x10_4_0)]⟩], false, [.ag [.ro (.sl true [.i .i64, .i .i64, .i .i64, .sl false [.i .u8], .sl true [.s, .i .i64], .sl true [.s, .s]]), .v (.i .i64)]], [.ow (.sl true [.s, .i .i64, .sl false [.i .u8], .sl true [.s, .s], .s])]⟩
def x47_4_0 : List (Ex × List Nat × CSt) := [(.ret, [4], ⟨[.b false], [.dead, .dead]⟩), ((.ex 0), [], ⟨[], [.dead, .dead]⟩)]
noncomputable def fi47 : Fi := ⟨Tryz.f47, [⟨4, [0, 1, 5], [], [(⟨[.ro 0 false [.i .u8] [], .ro 0 false [.i .u8] [], .i .i64 0], [.dead, .dead]⟩, x47_4_0)]⟩], false, [.ro (.sl false [.i .u8]), .ro (.sl false [.i .u8])], [.v (.b)]⟩
noncomputable def fi20 : Fi := ⟨Tryz.f20, [], false, [.ag [.v (.s), .v (.i .i64), .ro (.sl false [.i .u8]), .ro (.sl true [.s, .s]), .v (.s)], .ag [.v (.s), .v (.i .i64), .ro (.sl false [.i .u8]), .ro (.sl true [.s, .s]), .v (.s)]], [.v (.b)]⟩
def x6_8_0 : List (Ex × List Nat × CSt) := [(.ret, [4], ⟨[.b false], [.dead, .dead, .dead, .dead]⟩), ((.ex 0), [], ⟨[], [.dead, .dead, .dead, .dead]⟩)]
noncomputable def fi6 : Fi := ⟨Tryz.f6, [⟨8, [5, 6, 7], [], [(⟨[.rf 4 [] 0 none, .rf 5 [] 0 none, .i .i64 0], [.dead, .dead, .dead, .dead, .row true [.s, .i .i64, .sl false [.i .u8], .sl true [.s, .s], .s] [] 0 false, .row true [.s, .i .i64, .sl false [.i .u8], .sl true [.s, .s], .s] [] 0 false]⟩, x6_8_0)]⟩], false, [.ag [.ro (.sl true [.i .i64, .i .i64, .i .i64, .sl false [.i .u8], .sl true [.s, .i .i64], .sl true [.s, .s]]), .v (.i .i64)], .ag [.ro (.sl true [.i .i64, .i .i64, .i .i64, .sl false [.i .u8], .sl true [.s, .i .i64], .sl true [.s, .s]]), .v (.i .i64)]], [.v (.b)]⟩
noncomputable def fi76 : Fi := ⟨Tryz.f76, [], false, [.v (.i .i64), .v (.i .i64), .v (.i .i64)], [.v (.b)]⟩
def x101_2_0 : List (Ex × List Nat × CSt) := [(.ret, [2], ⟨[.b false], [.dead]⟩), ((.ex 0), [0], ⟨[.s (⟨#[]⟩ : ByteArray)], [.dead]⟩)]
noncomputable def fi101 : Fi := ⟨Tryz.f101, [⟨2, [0, 6, 7], [], [(⟨[.s (⟨#[]⟩ : ByteArray), .i .i64 0, .i .i64 0], [.dead]⟩, x101_2_0)]⟩], false, [.v (.s)], [.v (.b)]⟩
def x100_2_0 : List (Ex × List Nat × CSt) := [(.ret, [2], ⟨[.b false], [.dead]⟩), ((.ex 0), [0], ⟨[.ro 0 true [.s, .s] []], [.dead]⟩)]
noncomputable def fi100 : Fi := ⟨Tryz.f100, [⟨2, [0, 5, 6, 7], [], [(⟨[.ro 0 true [.s, .s] [], .ro 0 true [.s, .s] [], .i .i64 0, .i .i64 0], [.dead]⟩, x100_2_0)]⟩], false, [.ro (.sl true [.s, .s])], [.v (.b)]⟩
def x77_4_0 : List (Ex × List Nat × CSt) := [(.ret, [2], ⟨[.b false], [.dead, .dead, .dead, .dead, .dead, .dead]⟩), ((.ex 0), [1], ⟨[.bp 6 0], [.dead, .dead, .dead, .dead, .dead, .dead, .box [.i .i64 0, .i .i64 0, .i .i64 0, .ro 0 false [.i .u8] [], .ro 0 true [.s, .i .i64] [], .ro 0 true [.s, .s] []]]⟩)]
noncomputable def fi77 : Fi := ⟨Tryz.f77, [⟨4, [1, 28, 29, 30], [], [(⟨[.bp 6 0, .ro 0 true [.s, .i .i64] [], .i .i64 0, .i .i64 0], [.dead, .dead, .dead, .dead, .dead, .dead, .box [.i .i64 0, .i .i64 0, .i .i64 0, .ro 0 false [.i .u8] [], .ro 0 true [.s, .i .i64] [], .ro 0 true [.s, .s] []]]⟩, x77_4_0)]⟩], false, [.ag [.v (.i .i64), .v (.i .i64), .v (.i .i64), .ro (.sl false [.i .u8]), .ro (.sl true [.s, .i .i64]), .ro (.sl true [.s, .s])]], [.v (.b)]⟩
noncomputable def fi81 : Fi := ⟨Tryz.f81, [], true, [], []⟩
def x80_2_0 : List (Ex × List Nat × CSt) := [(.ret, [4], ⟨[.i .i64 0], [.box [.i .i64 0]]⟩), ((.ex 0), [], ⟨[], [.box [.i .i64 0]]⟩)]
noncomputable def fi80 : Fi := ⟨Tryz.f80, [⟨2, [0, 1, 7, 8], [], [(⟨[.ro 0 true [.i .i64, .i .i64, .i .i64, .sl false [.i .u8], .sl true [.s, .i .i64], .sl true [.s, .s]] [], .fn 81 [.bp 0 0], .i .i64 0, .i .i64 0], [.box [.i .i64 0]]⟩, x80_2_0)]⟩], true, [], []⟩
noncomputable def fi52 : Fi := ⟨Tryz.f52, [], false, [.ag [.ro (.sl true [.i .i64, .i .i64, .i .i64, .sl false [.i .u8], .sl true [.s, .i .i64], .sl true [.s, .s]]), .v (.i .i64)], .v (.i .i64)], [.v (.i .i64)]⟩
noncomputable def fi82 : Fi := ⟨Tryz.f82, [], false, [.ro (.sl false [.i .u8])], [.ow (.sl false [.i .u8])]⟩
noncomputable def fi83 : Fi := ⟨Tryz.f83, [], false, [.ro (.sl true [.s, .i .i64])], [.ow (.sl true [.s, .i .i64])]⟩
noncomputable def fi84 : Fi := ⟨Tryz.f84, [], false, [.ro (.sl true [.s, .s])], [.ow (.sl true [.s, .s])]⟩
noncomputable def fi53 : Fi := ⟨Tryz.f53, [], false, [.ag [.v (.i .i64), .v (.i .i64), .v (.i .i64), .ro (.sl false [.i .u8]), .ro (.sl true [.s, .i .i64]), .ro (.sl true [.s, .s])]], [.ag [.v (.i .i64), .v (.i .i64), .v (.i .i64), .ow (.sl false [.i .u8]), .ow (.sl true [.s, .i .i64]), .ow (.sl true [.s, .s])]]⟩
noncomputable def fi23 : Fi := ⟨Tryz.f23, [], false, [.ag [.ro (.sl true [.i .i64, .i .i64, .i .i64, .sl false [.i .u8], .sl true [.s, .i .i64], .sl true [.s, .s]]), .v (.i .i64)], .v (.i .i64)], [.ag [.v (.i .i64), .v (.i .i64), .v (.i .i64), .ow (.sl false [.i .u8]), .ow (.sl true [.s, .i .i64]), .ow (.sl true [.s, .s])], .v (.b)]⟩
def x49_4_0 : List (Ex × List Nat × CSt) := [(.ret, [2], ⟨[.b false], [.dead, .dead]⟩), ((.ex 0), [1], ⟨[.bp 2 0], [.dead, .dead, .box [.ro 0 true [.i .i64, .i .i64, .i .i64, .sl false [.i .u8], .sl true [.s, .i .i64], .sl true [.s, .s]] [], .i .i64 0]]⟩)]
noncomputable def fi49 : Fi := ⟨Tryz.f49, [⟨4, [1, 18, 19, 20], [], [(⟨[.bp 2 0, .ro 0 true [.i .i64, .i .i64, .i .i64, .sl false [.i .u8], .sl true [.s, .i .i64], .sl true [.s, .s]] [], .i .i64 0, .i .i64 0], [.dead, .dead, .box [.ro 0 true [.i .i64, .i .i64, .i .i64, .sl false [.i .u8], .sl true [.s, .i .i64], .sl true [.s, .s]] [], .i .i64 0]]⟩, x49_4_0)]⟩], false, [.ag [.ro (.sl true [.i .i64, .i .i64, .i .i64, .sl false [.i .u8], .sl true [.s, .i .i64], .sl true [.s, .s]]), .v (.i .i64)]], [.v (.b)]⟩
def x102_2_0 : List (Ex × List Nat × CSt) := [(.ret, [4], ⟨[.i .i64 0], [.dead, .dead]⟩), ((.ex 0), [], ⟨[], [.dead, .dead]⟩)]
noncomputable def fi102 : Fi := ⟨Tryz.f102, [⟨2, [0, 1, 7, 8], [], [(⟨[.ro 0 false [.i .i64] [], .i .i64 0, .i .i64 0, .i .i64 0], [.dead, .dead]⟩, x102_2_0)]⟩], false, [.ro (.sl false [.i .i64]), .v (.i .i64)], [.v (.i .i64)]⟩
noncomputable def fi78 : Fi := ⟨Tryz.f78, [], false, [.ro (.sl false [.i .i64]), .v (.i .i64)], [.v (.b)]⟩
noncomputable def fi79 : Fi := ⟨Tryz.f79, [], false, [.ow (.sl false [.i .i64])], []⟩
def x50_3_0 : List (Ex × List Nat × CSt) := [((.ex 0), [3], ⟨[.rf 2 [] 0 none], [.dead, .dead, .row false [.i .i64] [] 0 false]⟩)]
def x50_11_0 : List (Ex × List Nat × CSt) := [((.ex 2), [1, 3, 4], ⟨[.bp 2 0, .rf 3 [] 0 none, .rf 4 [] 0 (some (0, 0))], [.dead, .dead, .box [.ro 0 true [.i .i64, .i .i64, .i .i64, .sl false [.i .u8], .sl true [.s, .i .i64], .sl true [.s, .s]] [], .i .i64 0], .row false [.i .i64] [] 0 false, .row false [.i .i64] [] 0 false]⟩)]
noncomputable def fi50 : Fi := ⟨Tryz.f50, [⟨3, [1, 3, 4], [(4, 2)], [(⟨[.bp 2 0, .rf 3 [] 0 none, .rf 4 [] 0 (some (0, 0))], [.dead, .dead, .box [.ro 0 true [.i .i64, .i .i64, .i .i64, .sl false [.i .u8], .sl true [.s, .i .i64], .sl true [.s, .s]] [], .i .i64 0], .row false [.i .i64] [] 0 false, .row false [.i .i64] [] 0 false]⟩, x50_3_0)]⟩, ⟨11, [1, 3, 4, 41, 42, 43], [(4, 2)], [(⟨[.bp 2 0, .rf 3 [] 0 none, .rf 4 [] 0 (some (0, 0)), .rf 5 [] 0 none, .i .i64 0, .i .i64 0], [.dead, .dead, .box [.ro 0 true [.i .i64, .i .i64, .i .i64, .sl false [.i .u8], .sl true [.s, .i .i64], .sl true [.s, .s]] [], .i .i64 0], .row false [.i .i64] [] 0 false, .row false [.i .i64] [] 0 false, .row true [.s, .i .i64] [] 0 false]⟩, x50_11_0)]⟩], false, [.ag [.ro (.sl true [.i .i64, .i .i64, .i .i64, .sl false [.i .u8], .sl true [.s, .i .i64], .sl true [.s, .s]]), .v (.i .i64)]], [.ow (.sl false [.i .i64])]⟩
def x51_3_0 : List (Ex × List Nat × CSt) := [((.ex 0), [5], ⟨[.i .i64 0], [.dead, .dead, .dead]⟩)]
def x51_7_0 : List (Ex × List Nat × CSt) := [((.ex 2), [1, 5, 11, 12, 13], ⟨[.i .i64 0, .i .i64 0, .ro 0 true [.i .i64, .i .i64, .i .i64, .sl false [.i .u8], .sl true [.s, .i .i64], .sl true [.s, .s]] [], .i .i64 0, .i .i64 0], [.dead, .dead, .dead]⟩)]
noncomputable def fi51 : Fi := ⟨Tryz.f51, [⟨3, [1, 5, 11, 12, 13], [], [(⟨[.i .i64 0, .i .i64 0, .ro 0 true [.i .i64, .i .i64, .i .i64, .sl false [.i .u8], .sl true [.s, .i .i64], .sl true [.s, .s]] [], .i .i64 0, .i .i64 0], [.dead, .dead, .dead]⟩, x51_3_0)]⟩, ⟨7, [1, 5, 11, 12, 13, 21, 22, 23], [], [(⟨[.i .i64 0, .i .i64 0, .ro 0 true [.i .i64, .i .i64, .i .i64, .sl false [.i .u8], .sl true [.s, .i .i64], .sl true [.s, .s]] [], .i .i64 0, .i .i64 0, .ro 0 true [.s, .i .i64] [], .i .i64 0, .i .i64 0], [.dead, .dead, .dead]⟩, x51_7_0)]⟩], false, [.ag [.ro (.sl true [.i .i64, .i .i64, .i .i64, .sl false [.i .u8], .sl true [.s, .i .i64], .sl true [.s, .s]]), .v (.i .i64)], .v (.i .i64)], [.v (.i .i64)]⟩
def x22_4_0 : List (Ex × List Nat × CSt) := [(.ret, [2], ⟨[.b false], [.dead, .dead]⟩), ((.ex 0), [], ⟨[], [.dead, .dead]⟩)]
def x22_9_0 : List (Ex × List Nat × CSt) := [(.ret, [2], ⟨[.b false], [.dead, .dead]⟩), ((.ex 2), [1, 20, 21, 22], ⟨[.bp 2 0, .ro 0 true [.i .i64, .i .i64, .i .i64, .sl false [.i .u8], .sl true [.s, .i .i64], .sl true [.s, .s]] [], .i .i64 0, .i .i64 0], [.dead, .dead, .box [.ro 0 true [.i .i64, .i .i64, .i .i64, .sl false [.i .u8], .sl true [.s, .i .i64], .sl true [.s, .s]] [], .i .i64 0]]⟩)]
noncomputable def fi22 : Fi := ⟨Tryz.f22, [⟨4, [1, 20, 21, 22], [], [(⟨[.bp 2 0, .ro 0 true [.i .i64, .i .i64, .i .i64, .sl false [.i .u8], .sl true [.s, .i .i64], .sl true [.s, .s]] [], .i .i64 0, .i .i64 0], [.dead, .dead, .box [.ro 0 true [.i .i64, .i .i64, .i .i64, .sl false [.i .u8], .sl true [.s, .i .i64], .sl true [.s, .s]] [], .i .i64 0]]⟩, x22_4_0)]⟩, ⟨9, [1, 20, 21, 22, 34, 35, 36], [], [(⟨[.bp 2 0, .ro 0 true [.i .i64, .i .i64, .i .i64, .sl false [.i .u8], .sl true [.s, .i .i64], .sl true [.s, .s]] [], .i .i64 0, .i .i64 0, .ro 0 true [.s, .i .i64] [], .i .i64 0, .i .i64 0], [.dead, .dead, .box [.ro 0 true [.i .i64, .i .i64, .i .i64, .sl false [.i .u8], .sl true [.s, .i .i64], .sl true [.s, .s]] [], .i .i64 0]]⟩, x22_9_0)]⟩], false, [.ag [.ro (.sl true [.i .i64, .i .i64, .i .i64, .sl false [.i .u8], .sl true [.s, .i .i64], .sl true [.s, .s]]), .v (.i .i64)]], [.v (.b)]⟩
def x24_4_0 : List (Ex × List Nat × CSt) := [(.ret, [4], ⟨[.b false], [.dead, .dead]⟩), ((.ex 0), [], ⟨[], [.dead, .dead]⟩)]
noncomputable def fi24 : Fi := ⟨Tryz.f24, [⟨4, [0, 1, 12, 13], [], [(⟨[.ro 0 true [.s, .s] [], .ro 0 true [.s, .s] [], .i .i64 0, .i .i64 0], [.dead, .dead]⟩, x24_4_0)]⟩], false, [.ro (.sl true [.s, .s]), .ro (.sl true [.s, .s])], [.v (.b)]⟩
def x59_3_0 : List (Ex × List Nat × CSt) := [((.ex 0), [7], ⟨[.rf 9 [] 0 none], [.dead, .dead, .dead, .dead, .dead, .dead, .dead, .dead, .dead, .row false [.s] [] 0 false]⟩)]
noncomputable def fi59 : Fi := ⟨Tryz.f59, [⟨3, [2, 3, 7, 15, 16, 17], [], [(⟨[.s (⟨#[]⟩ : ByteArray), .bp 9 0, .rf 10 [] 0 none, .ro 0 true [.s, .i .i64] [], .i .i64 0, .i .i64 0], [.dead, .dead, .dead, .dead, .dead, .dead, .dead, .dead, .dead, .box [.ro 0 true [.i .i64, .i .i64, .i .i64, .sl false [.i .u8], .sl true [.s, .i .i64], .sl true [.s, .s]] [], .i .i64 0], .row false [.s] [] 0 false]⟩, x59_3_0)]⟩], false, [.ag [.ro (.sl true [.i .i64, .i .i64, .i .i64, .sl false [.i .u8], .sl true [.s, .i .i64], .sl true [.s, .s]]), .v (.i .i64)], .ag [.v (.i .i64), .v (.i .i64), .v (.i .i64), .ro (.sl false [.i .u8]), .ro (.sl true [.s, .i .i64]), .ro (.sl true [.s, .s])], .v (.s)], [.ow (.sl false [.s])]⟩
noncomputable def fi60 : Fi := ⟨Tryz.f60, [], false, [.ow (.sl false [.s])], []⟩
noncomputable def fi31 : Fi := ⟨Tryz.f31, [], false, [.ag [.ro (.sl true [.i .i64, .i .i64, .i .i64, .sl false [.i .u8], .sl true [.s, .i .i64], .sl true [.s, .s]]), .v (.i .i64)]], [.ow (.sl false [.s])]⟩
noncomputable def fi138 : Fi := ⟨Tryz.f138, [], false, [.v (.s), .v (.s)], [.v (.i .i64)]⟩
noncomputable def fi139 : Fi := ⟨Tryz.f139, [], false, [.v (.s), .v (.s)], [.v (.i .i64)]⟩
def x118_11_0 : List (Ex × List Nat × CSt) := [((.ex 0), [0, 9, 10], ⟨[.s (⟨#[]⟩ : ByteArray), .rf 4 [] 0 none, .i .i64 0], [.dead, .dead, .dead, .dead, .row false [.s] [] 0 false]⟩)]
noncomputable def fi118 : Fi := ⟨Tryz.f118, [⟨11, [0, 1, 2, 3, 9, 10], [], [(⟨[.s (⟨#[]⟩ : ByteArray), .s (⟨#[]⟩ : ByteArray), .i .i64 0, .i .i64 0, .rf 4 [] 0 none, .i .i64 0], [.dead, .dead, .dead, .dead, .row false [.s] [] 0 false]⟩, x118_11_0)]⟩], false, [.v (.s), .v (.s), .v (.i .i64), .v (.i .i64)], [.ow (.sl false [.s])]⟩
noncomputable def fi90 : Fi := ⟨Tryz.f90, [], false, [.v (.s), .v (.s)], [.ow (.sl false [.s])]⟩
def x140_2_0 : List (Ex × List Nat × CSt) := [(.ret, [4], ⟨[.i .i64 0], []⟩), ((.ex 0), [], ⟨[], []⟩)]
noncomputable def fi140 : Fi := ⟨Tryz.f140, [⟨2, [0, 1, 7, 8], [], [(⟨[.ro 0 false [.s] [], .fn 120 [], .i .i64 0, .i .i64 0], []⟩, x140_2_0)]⟩], true, [], []⟩
noncomputable def fi119 : Fi := ⟨Tryz.f119, [], true, [], []⟩
noncomputable def fi120 : Fi := ⟨Tryz.f120, [], false, [.v (.s)], [.v (.b)]⟩
noncomputable def fi91 : Fi := ⟨Tryz.f91, [], false, [.ro (.sl false [.s])], [.v (.b)]⟩
noncomputable def fi61 : Fi := ⟨Tryz.f61, [], false, [.v (.s)], [.ow (.sl false [.s]), .v (.b)]⟩
def x62_2_0 : List (Ex × List Nat × CSt) := [(.ret, [4], ⟨[.i .i64 0], [.dead, .dead, .dead, .dead, .dead, .dead, .dead]⟩), ((.ex 0), [], ⟨[], [.dead, .dead, .dead, .dead, .dead, .dead, .dead]⟩)]
noncomputable def fi62 : Fi := ⟨Tryz.f62, [⟨2, [1, 8, 9, 10], [], [(⟨[.s (⟨#[]⟩ : ByteArray), .ro 0 true [.s, .i .i64] [], .i .i64 0, .i .i64 0], [.dead, .dead, .dead, .dead, .dead, .dead, .dead]⟩, x62_2_0)]⟩], false, [.ag [.v (.i .i64), .v (.i .i64), .v (.i .i64), .ro (.sl false [.i .u8]), .ro (.sl true [.s, .i .i64]), .ro (.sl true [.s, .s])], .v (.s)], [.v (.i .i64)]⟩
def x33_6_0 : List (Ex × List Nat × CSt) := [(.ret, [4, 5], ⟨[.i .i64 0, .i .i64 0], [.dead, .dead, .dead]⟩), ((.ex 0), [8], ⟨[.i .i64 0], [.dead, .dead, .dead]⟩)]
noncomputable def fi33 : Fi := ⟨Tryz.f33, [⟨6, [2, 8, 20, 21, 22], [], [(⟨[.bp 3 0, .i .i64 0, .rf 4 [] 0 none, .i .i64 0, .i .i64 0], [.dead, .dead, .dead, .box [.ro 0 true [.i .i64, .i .i64, .i .i64, .sl false [.i .u8], .sl true [.s, .i .i64], .sl true [.s, .s]] [], .i .i64 0], .row false [.s] [] 0 false]⟩, x33_6_0)]⟩], false, [.ag [.ro (.sl true [.i .i64, .i .i64, .i .i64, .sl false [.i .u8], .sl true [.s, .i .i64], .sl true [.s, .s]]), .v (.i .i64)], .v (.s)], [.v (.i .i64), .v (.i .i64)]⟩
noncomputable def fi32 : Fi := ⟨Tryz.f32, [], false, [.ag [.ro (.sl true [.i .i64, .i .i64, .i .i64, .sl false [.i .u8], .sl true [.s, .i .i64], .sl true [.s, .s]]), .v (.i .i64)], .v (.s)], [.ag [.v (.i .i64), .v (.i .i64), .v (.i .i64), .ow (.sl false [.i .u8]), .ow (.sl true [.s, .i .i64]), .ow (.sl true [.s, .s])], .v (.i .i64)]⟩
def x11_3_0 : List (Ex × List Nat × CSt) := [((.ex 0), [3], ⟨[.rf 2 [] 0 none], [.dead, .dead, .row true [.s, .i .i64, .sl false [.i .u8], .sl true [.s, .s], .s] [] 0 false]⟩)]
def x11_8_0 : List (Ex × List Nat × CSt) := [((.ex 2), [1, 3, 5, 6, 8, 15, 16, 17], ⟨[.bp 2 0, .rf 3 [] 0 none, .s (⟨#[]⟩ : ByteArray), .bp 4 0, .s (⟨#[]⟩ : ByteArray), .rf 8 [] 0 none, .i .i64 0, .i .i64 0], [.dead, .dead, .box [.ro 0 true [.i .i64, .i .i64, .i .i64, .sl false [.i .u8], .sl true [.s, .i .i64], .sl true [.s, .s]] [], .i .i64 0], .row true [.s, .i .i64, .sl false [.i .u8], .sl true [.s, .s], .s] [] 0 false, .box [.i .i64 0, .i .i64 0, .i .i64 0, .rf 5 [] 0 none, .rf 6 [] 0 none, .rf 7 [] 0 none], .row false [.i .u8] [] 0 false, .row true [.s, .i .i64] [] 0 false, .row true [.s, .s] [] 0 false, .row false [.s] [] 0 false]⟩)]
noncomputable def fi11 : Fi := ⟨Tryz.f11, [⟨3, [1, 3, 15, 16, 17], [], [(⟨[.bp 2 0, .rf 3 [] 0 none, .rf 4 [] 0 none, .i .i64 0, .i .i64 0], [.dead, .dead, .box [.ro 0 true [.i .i64, .i .i64, .i .i64, .sl false [.i .u8], .sl true [.s, .i .i64], .sl true [.s, .s]] [], .i .i64 0], .row true [.s, .i .i64, .sl false [.i .u8], .sl true [.s, .s], .s] [] 0 false, .row false [.s] [] 0 false]⟩, x11_3_0)]⟩, ⟨8, [1, 3, 5, 6, 8, 15, 16, 17, 28, 29, 30], [], [(⟨[.bp 2 0, .rf 3 [] 0 none, .s (⟨#[]⟩ : ByteArray), .bp 4 0, .s (⟨#[]⟩ : ByteArray), .rf 8 [] 0 none, .i .i64 0, .i .i64 0, .rf 3 [] 0 none, .i .i64 0, .i .i64 0], [.dead, .dead, .box [.ro 0 true [.i .i64, .i .i64, .i .i64, .sl false [.i .u8], .sl true [.s, .i .i64], .sl true [.s, .s]] [], .i .i64 0], .row true [.s, .i .i64, .sl false [.i .u8], .sl true [.s, .s], .s] [] 0 false, .box [.i .i64 0, .i .i64 0, .i .i64 0, .rf 5 [] 0 none, .rf 6 [] 0 none, .rf 7 [] 0 none], .row false [.i .u8] [] 0 false, .row true [.s, .i .i64] [] 0 false, .row true [.s, .s] [] 0 false, .row false [.s] [] 0 false]⟩, x11_8_0)]⟩], false, [.ag [.ro (.sl true [.i .i64, .i .i64, .i .i64, .sl false [.i .u8], .sl true [.s, .i .i64], .sl true [.s, .s]]), .v (.i .i64)]], [.ow (.sl true [.s, .i .i64, .sl false [.i .u8], .sl true [.s, .s], .s])]⟩
def x25_4_0 : List (Ex × List Nat × CSt) := [(.ret, [6], ⟨[.b false], [.dead, .dead, .dead]⟩), ((.ex 0), [], ⟨[], [.dead, .dead, .dead]⟩)]
noncomputable def fi25 : Fi := ⟨Tryz.f25, [⟨4, [1, 2, 15, 16, 17], [], [(⟨[.ro 0 true [.s, .i .i64, .sl false [.i .u8], .sl true [.s, .s], .s] [], .fn 26 [], .ro 0 true [.s, .i .i64, .sl false [.i .u8], .sl true [.s, .s], .s] [], .i .i64 0, .i .i64 0], [.dead, .dead, .dead]⟩, x25_4_0)]⟩], false, [.ro (.sl true [.s, .i .i64, .sl false [.i .u8], .sl true [.s, .s], .s]), .ro (.sl true [.s, .i .i64, .sl false [.i .u8], .sl true [.s, .s], .s]), .fn 26], [.v (.b)]⟩
def x54_4_0 : List (Ex × List Nat × CSt) := [(.ret, [4], ⟨[.b false], [.dead, .dead]⟩), ((.ex 0), [], ⟨[], [.dead, .dead]⟩)]
noncomputable def fi54 : Fi := ⟨Tryz.f54, [⟨4, [0, 1, 12, 13], [], [(⟨[.ro 0 false [.i .u8] [], .ro 0 false [.i .u8] [], .i .i64 0, .i .i64 0], [.dead, .dead]⟩, x54_4_0)]⟩], false, [.ro (.sl false [.i .u8]), .ro (.sl false [.i .u8])], [.v (.b)]⟩
noncomputable def fi26 : Fi := ⟨Tryz.f26, [], false, [.ag [.v (.s), .v (.i .i64), .ro (.sl false [.i .u8]), .ro (.sl true [.s, .s]), .v (.s)], .ag [.v (.s), .v (.i .i64), .ro (.sl false [.i .u8]), .ro (.sl true [.s, .s]), .v (.s)]], [.v (.b)]⟩
noncomputable def fi8 : Fi := ⟨Tryz.f8, [], false, [.ag [.ro (.sl true [.i .i64, .i .i64, .i .i64, .sl false [.i .u8], .sl true [.s, .i .i64], .sl true [.s, .s]]), .v (.i .i64)], .ag [.ro (.sl true [.i .i64, .i .i64, .i .i64, .sl false [.i .u8], .sl true [.s, .i .i64], .sl true [.s, .s]]), .v (.i .i64)]], [.v (.b)]⟩
def x63_4_0 : List (Ex × List Nat × CSt) := [(.ret, [4], ⟨[.b false], [.dead, .dead]⟩), ((.ex 0), [], ⟨[], [.dead, .dead]⟩)]
noncomputable def fi63 : Fi := ⟨Tryz.f63, [⟨4, [0, 1, 5], [], [(⟨[.ro 0 false [.i .u8] [], .ro 0 false [.i .u8] [], .i .i64 0], [.dead, .dead]⟩, x63_4_0)]⟩], false, [.ro (.sl false [.i .u8]), .ro (.sl false [.i .u8])], [.v (.b)]⟩
noncomputable def fi104 : Fi := ⟨Tryz.f104, [], false, [.ag [.v (.s), .v (.i .i64)], .ag [.v (.s), .v (.i .i64)]], [.v (.b)]⟩
def x85_4_0 : List (Ex × List Nat × CSt) := [(.ret, [4], ⟨[.b false], [.dead, .dead]⟩), ((.ex 0), [], ⟨[], [.dead, .dead]⟩)]
noncomputable def fi85 : Fi := ⟨Tryz.f85, [⟨4, [0, 1, 5], [], [(⟨[.ro 0 true [.s, .i .i64] [], .ro 0 true [.s, .i .i64] [], .i .i64 0], [.dead, .dead]⟩, x85_4_0)]⟩], false, [.ro (.sl true [.s, .i .i64]), .ro (.sl true [.s, .i .i64])], [.v (.b)]⟩
noncomputable def fi92 : Fi := ⟨Tryz.f92, [], false, [.ag [.v (.s), .v (.s)], .ag [.v (.s), .v (.s)]], [.v (.b)]⟩
def x64_4_0 : List (Ex × List Nat × CSt) := [(.ret, [4], ⟨[.b false], [.dead, .dead]⟩), ((.ex 0), [], ⟨[], [.dead, .dead]⟩)]
noncomputable def fi64 : Fi := ⟨Tryz.f64, [⟨4, [0, 1, 5], [], [(⟨[.ro 0 true [.s, .s] [], .ro 0 true [.s, .s] [], .i .i64 0], [.dead, .dead]⟩, x64_4_0)]⟩], false, [.ro (.sl true [.s, .s]), .ro (.sl true [.s, .s])], [.v (.b)]⟩
noncomputable def fi55 : Fi := ⟨Tryz.f55, [], false, [.ag [.v (.i .i64), .v (.i .i64), .v (.i .i64), .ro (.sl false [.i .u8]), .ro (.sl true [.s, .i .i64]), .ro (.sl true [.s, .s])], .ag [.v (.i .i64), .v (.i .i64), .v (.i .i64), .ro (.sl false [.i .u8]), .ro (.sl true [.s, .i .i64]), .ro (.sl true [.s, .s])]], [.v (.b)]⟩
def x27_4_0 : List (Ex × List Nat × CSt) := [(.ret, [4], ⟨[.b false], [.dead, .dead]⟩), ((.ex 0), [], ⟨[], [.dead, .dead]⟩)]
noncomputable def fi27 : Fi := ⟨Tryz.f27, [⟨4, [0, 1, 5], [], [(⟨[.ro 0 true [.i .i64, .i .i64, .i .i64, .sl false [.i .u8], .sl true [.s, .i .i64], .sl true [.s, .s]] [], .ro 0 true [.i .i64, .i .i64, .i .i64, .sl false [.i .u8], .sl true [.s, .i .i64], .sl true [.s, .s]] [], .i .i64 0], [.dead, .dead]⟩, x27_4_0)]⟩], false, [.ro (.sl true [.i .i64, .i .i64, .i .i64, .sl false [.i .u8], .sl true [.s, .i .i64], .sl true [.s, .s]]), .ro (.sl true [.i .i64, .i .i64, .i .i64, .sl false [.i .u8], .sl true [.s, .i .i64], .sl true [.s, .s]])], [.v (.b)]⟩
noncomputable def fi9 : Fi := ⟨Tryz.f9, [], false, [.ag [.ro (.sl true [.i .i64, .i .i64, .i .i64, .sl false [.i .u8], .sl true [.s, .i .i64], .sl true [.s, .s]]), .v (.i .i64)], .ag [.ro (.sl true [.i .i64, .i .i64, .i .i64, .sl false [.i .u8], .sl true [.s, .i .i64], .sl true [.s, .s]]), .v (.i .i64)]], [.v (.b)]⟩
noncomputable def fi3 : Fi := ⟨Tryz.f3, [], false, [.ag [.ro (.sl true [.i .i64, .i .i64, .i .i64, .sl false [.i .u8], .sl true [.s, .i .i64], .sl true [.s, .s]]), .v (.i .i64)], .ag [.ro (.sl true [.i .i64, .i .i64, .i .i64, .sl false [.i .u8], .sl true [.s, .i .i64], .sl true [.s, .s]]), .v (.i .i64)]], [.v (.b)]⟩
noncomputable def fiTab : List (Nat × Fi) := [(66, fi66), (93, fi93), (67, fi67), (94, fi94), (68, fi68), (41, fi41), (16, fi16), (5, fi5), (73, fi73), (98, fi98), (74, fi74), (99, fi99), (75, fi75), (48, fi48), (21, fi21), (7, fi7), (69, fi69), (105, fi105), (95, fi95), (96, fi96), (70, fi70), (42, fi42), (45, fi45), (72, fi72), (46, fi46), (121, fi121), (97, fi97), (71, fi71), (43, fi43), (44, fi44), (17, fi17), (19, fi19), (18, fi18), (56, fi56), (57, fi57), (28, fi28), (86, fi86), (106, fi106), (87, fi87), (58, fi58), (29, fi29), (30, fi30), (10, fi10), (47, fi47), (20, fi20), (6, fi6), (76, fi76), (101, fi101), (100, fi100), (77, fi77), (81, fi81), (80, fi80), (52, fi52), (82, fi82), (83, fi83), (84, fi84), (53, fi53), (23, fi23), (49, fi49), (102, fi102), (78, fi78), (79, fi79), (50, fi50), (51, fi51), (22, fi22), (24, fi24), (59, fi59), (60, fi60), (31, fi31), (138, fi138), (139, fi139), (118, fi118), (90, fi90), (140, fi140), (119, fi119), (120, fi120), (91, fi91), (61, fi61), (62, fi62), (33, fi33), (32, fi32), (11, fi11), (25, fi25), (54, fi54), (26, fi26), (8, fi8), (63, fi63), (104, fi104), (85, fi85), (92, fi92), (64, fi64), (55, fi55), (27, fi27), (9, fi9), (3, fi3)]
def X : Nat → Option (List T → Option (List T)) := lookN [(82, qfx), (83, qfx), (84, qfx), (79, sortF), (60, qos), (138, qpx), (139, qpn)]
noncomputable def env : Env := ⟨lookN fiTab, lookN tyTab⟩
def f66_t (c : Orc) (lf : Nat) (l0 : List T) (n1 : Int) : Option (List T) :=
 bif iLt (IntKind.wrap .i64 (n1 - (l0.length : Int))) 0 then
  some [T.i .i64 (-1)]
 else
  some [T.i .i64 (IntKind.wrap .i64 (n1 - (l0.length : Int)))]
def f66 (c : Orc) (lf : Nat) (l0 : List T) (n1 : Int) : Option (List T) := f66_t c lf l0 n1
theorem f66_eq (c : Orc) (lf : Nat) (l0 : List T) (n1 : Int) : funK c env lf 6 fi66 [.sl l0, .i .i64 n1] = f66 c lf l0 n1 := by kernel_rfl
def f93_t (c : Orc) (lf : Nat) (s0_0 : ByteArray) (n0_1 n1 : Int) : Option (List T) :=
 bif iLt (IntKind.wrap .i64 (n1 - (s0_0.size : Int))) 0 then
  some [T.i .i64 (-1)]
 else
  some [T.i .i64 (IntKind.wrap .i64 (n1 - (s0_0.size : Int)))]
def f93 (c : Orc) (lf : Nat) (s0_0 : ByteArray) (n0_1 n1 : Int) : Option (List T) := f93_t c lf s0_0 n0_1 n1
theorem f93_eq (c : Orc) (lf : Nat) (s0_0 : ByteArray) (n0_1 n1 : Int) : funK c env lf 6 fi93 [.st [.s s0_0, .i .i64 n0_1], .i .i64 n1] = f93 c lf s0_0 n0_1 n1 := by kernel_rfl
def f67_0_s (c : Orc) (lf : Nat) (l0 : List T) (L : Int → Int → Option (List T)) (x7 : Int) (x8 : Int) : Option (List T) :=
 bif iLt x8 (l0.length : Int) then
  bif inR x8 l0.length then
  (c 93 [T.st [T.s (asS (T.cell (l0.getD x8.toNat T.u) 0)), T.i .i64 (asI (T.cell (l0.getD x8.toNat T.u) 1))], T.i .i64 x7]).bind fun r9 =>
  bif iLt (asI (nth r9 0)) 0 then
   some [T.i .i64 0, T.i .i64 (-1)]
  else
   L (asI (nth r9 0)) (IntKind.wrap .i64 (x8 + 1))
  else none
 else
  some [T.i .i64 1, T.i .i64 x7]
def f67_0_c (l0 : List T) (x7 x8 : Int) : CSt := ⟨[.ro 0 true [.s, .i .i64] l0, .i .i64 x7, .i .i64 x8], [.dead, .dead]⟩
theorem f67_0_round (c : Orc) (lf : Nat) (l0 : List T) (L : CSt → Option (List T)) (x7 : Int) (x8 : Int) :
 qa8 c env lf 6 fi67 2 5 [] [0, 1, 5] (x67_5_0) L (f67_0_c l0 x7 x8) = f67_0_s c lf l0 (fun x7 x8 => L (f67_0_c l0 x7 x8)) x7 x8 := by kernel_rfl
def f67_0 (c : Orc) (lf : Nat) (l0 : List T) : Nat → Int → Int → Option (List T)
 | 0 => fun _ _ => none
 | n + 1 => fun x7 x8 => f67_0_s c lf l0 (f67_0 c lf l0 n) x7 x8
theorem f67_0_eq (c : Orc) (lf : Nat) (l0 : List T) (n : Nat) (x7 x8 : Int) :
 lpK c env lf 6 fi67 2 5 [] [0, 1, 5] (x67_5_0) n (f67_0_c l0 x7 x8) = f67_0 c lf l0 n x7 x8 := by
 induction n generalizing x7 x8 with
 | zero => rfl
 | succ n ih =>
  refine (f67_0_round c lf l0 _ x7 x8).trans ?_
  have e : (fun x7 x8 => lpK c env lf 6 fi67 2 5 [] [0, 1, 5] (x67_5_0) n (f67_0_c l0 x7 x8)) = f67_0 c lf l0 n := by funext x7 x8; exact ih x7 x8
  show f67_0_s c lf l0 (fun x7 x8 => lpK c env lf 6 fi67 2 5 [] [0, 1, 5] (x67_5_0) n (f67_0_c l0 x7 x8)) x7 x8 = _
  rw [e]; rfl
def f67_t (c : Orc) (lf : Nat) (lp0 : List T → Int → Int → Option (List T)) (l0 : List T) (n1 : Int) : Option (List T) :=
 bif iLt (IntKind.wrap .i64 (n1 - (l0.length : Int))) 0 then
  some [T.i .i64 (-1)]
 else
  (lp0 l0 (IntKind.wrap .i64 (n1 - (l0.length : Int))) 0).bind fun r10 =>
  bif asI (nth r10 0) == 0 then
   some [T.i .i64 (asI (nth r10 1))]
  else
   some [T.i .i64 (asI (nth r10 1))]
def f67 (c : Orc) (lf : Nat) (l0 : List T) (n1 : Int) : Option (List T) := f67_t c lf (fun (l0 : List T) (x7 x8 : Int) => f67_0 c lf l0 lf x7 x8) l0 n1
theorem f67_raw (c : Orc) (lf : Nat) (l0 : List T) (n1 : Int) : funK c env lf 6 fi67 [.sl l0, .i .i64 n1] = f67_t c lf (fun (l0 : List T) (x7 x8 : Int) => lpK c env lf 6 fi67 2 5 [] [0, 1, 5] (x67_5_0) lf (f67_0_c l0 x7 x8)) l0 n1 := by kernel_rfl
theorem f67_eq (c : Orc) (lf : Nat) (l0 : List T) (n1 : Int) : funK c env lf 6 fi67 [.sl l0, .i .i64 n1] = f67 c lf l0 n1 := by
 refine (f67_raw c lf l0 n1).trans ?_
 have e0 : (fun (l0 : List T) (x7 x8 : Int) => lpK c env lf 6 fi67 2 5 [] [0, 1, 5] (x67_5_0) lf (f67_0_c l0 x7 x8)) = (fun (l0 : List T) (x7 x8 : Int) => f67_0 c lf l0 lf x7 x8) := by funext l0 x7 x8; exact f67_0_eq c lf l0 lf x7 x8
 rw [e0]; rfl
def f94_t (c : Orc) (lf : Nat) (s0_0 s0_1 : ByteArray) (n1 : Int) : Option (List T) :=
 bif iLt (IntKind.wrap .i64 (n1 - (s0_0.size : Int))) 0 then
  some [T.i .i64 (-1)]
 else
  bif iLt (IntKind.wrap .i64 ((IntKind.wrap .i64 (n1 - (s0_0.size : Int))) - (s0_1.size : Int))) 0 then
   some [T.i .i64 (-1)]
  else
   some [T.i .i64 (IntKind.wrap .i64 ((IntKind.wrap .i64 (n1 - (s0_0.size : Int))) - (s0_1.size : Int)))]
def f94 (c : Orc) (lf : Nat) (s0_0 s0_1 : ByteArray) (n1 : Int) : Option (List T) := f94_t c lf s0_0 s0_1 n1
theorem f94_eq (c : Orc) (lf : Nat) (s0_0 s0_1 : ByteArray) (n1 : Int) : funK c env lf 6 fi94 [.st [.s s0_0, .s s0_1], .i .i64 n1] = f94 c lf s0_0 s0_1 n1 := by kernel_rfl
def f68_0_s (c : Orc) (lf : Nat) (l0 : List T) (L : Int → Int → Option (List T)) (x17 : Int) (x18 : Int) : Option (List T) :=
 bif iLt x18 (l0.length : Int) then
  bif inR x18 l0.length then
  (c 94 [T.st [T.s (asS (T.cell (l0.getD x18.toNat T.u) 0)), T.s (asS (T.cell (l0.getD x18.toNat T.u) 1))], T.i .i64 x17]).bind fun r19 =>
  bif iLt (asI (nth r19 0)) 0 then
   some [T.i .i64 0, T.i .i64 (-1)]
  else
   L (asI (nth r19 0)) (IntKind.wrap .i64 (x18 + 1))
  else none
 else
  some [T.i .i64 1, T.i .i64 x17]
def f68_0_c (l0 : List T) (x17 x18 : Int) : CSt := ⟨[.ro 0 true [.s, .s] l0, .i .i64 x17, .i .i64 x18], [.dead, .dead]⟩
theorem f68_0_round (c : Orc) (lf : Nat) (l0 : List T) (L : CSt → Option (List T)) (x17 : Int) (x18 : Int) :
 qa8 c env lf 6 fi68 2 5 [] [0, 1, 5] (x68_5_0) L (f68_0_c l0 x17 x18) = f68_0_s c lf l0 (fun x17 x18 => L (f68_0_c l0 x17 x18)) x17 x18 := by kernel_rfl
def f68_0 (c : Orc) (lf : Nat) (l0 : List T) : Nat → Int → Int → Option (List T)
 | 0 => fun _ _ => none
 | n + 1 => fun x17 x18 => f68_0_s c lf l0 (f68_0 c lf l0 n) x17 x18
theorem f68_0_eq (c : Orc) (lf : Nat) (l0 : List T) (n : Nat) (x17 x18 : Int) :
 lpK c env lf 6 fi68 2 5 [] [0, 1, 5] (x68_5_0) n (f68_0_c l0 x17 x18) = f68_0 c lf l0 n x17 x18 := by
 induction n generalizing x17 x18 with
 | zero => rfl
 | succ n ih =>
  refine (f68_0_round c lf l0 _ x17 x18).trans ?_
  have e : (fun x17 x18 => lpK c env lf 6 fi68 2 5 [] [0, 1, 5] (x68_5_0) n (f68_0_c l0 x17 x18)) = f68_0 c lf l0 n := by funext x17 x18; exact ih x17 x18
  show f68_0_s c lf l0 (fun x17 x18 => lpK c env lf 6 fi68 2 5 [] [0, 1, 5] (x68_5_0) n (f68_0_c l0 x17 x18)) x17 x18 = _
  rw [e]; rfl
def f68_t (c : Orc) (lf : Nat) (lp0 : List T → Int → Int → Option (List T)) (l0 : List T) (n1 : Int) : Option (List T) :=
 bif iLt (IntKind.wrap .i64 (n1 - (l0.length : Int))) 0 then
  some [T.i .i64 (-1)]
 else
  (lp0 l0 (IntKind.wrap .i64 (n1 - (l0.length : Int))) 0).bind fun r20 =>
  bif asI (nth r20 0) == 0 then
   some [T.i .i64 (asI (nth r20 1))]
  else
   some [T.i .i64 (asI (nth r20 1))]
def f68 (c : Orc) (lf : Nat) (l0 : List T) (n1 : Int) : Option (List T) := f68_t c lf (fun (l0 : List T) (x17 x18 : Int) => f68_0 c lf l0 lf x17 x18) l0 n1
theorem f68_raw (c : Orc) (lf : Nat) (l0 : List T) (n1 : Int) : funK c env lf 6 fi68 [.sl l0, .i .i64 n1] = f68_t c lf (fun (l0 : List T) (x17 x18 : Int) => lpK c env lf 6 fi68 2 5 [] [0, 1, 5] (x68_5_0) lf (f68_0_c l0 x17 x18)) l0 n1 := by kernel_rfl
theorem f68_eq (c : Orc) (lf : Nat) (l0 : List T) (n1 : Int) : funK c env lf 6 fi68 [.sl l0, .i .i64 n1] = f68 c lf l0 n1 := by
 refine (f68_raw c lf l0 n1).trans ?_
 have e0 : (fun (l0 : List T) (x17 x18 : Int) => lpK c env lf 6 fi68 2 5 [] [0, 1, 5] (x68_5_0) lf (f68_0_c l0 x17 x18)) = (fun (l0 : List T) (x17 x18 : Int) => f68_0 c lf l0 lf x17 x18) := by funext l0 x17 x18; exact f68_0_eq c lf l0 lf x17 x18
 rw [e0]; rfl
def f41_t (c : Orc) (lf : Nat) (n0_0 n0_1 n0_2 : Int) (l0_3 l0_4 l0_5 : List T) (n1 : Int) : Option (List T) :=
 (c 66 [T.sl l0_3, T.i .i64 n1]).bind fun r21 =>
 bif iLt (asI (nth r21 0)) 0 then
  some [T.i .i64 (-1)]
 else
  (c 67 [T.sl l0_4, T.i .i64 (asI (nth r21 0))]).bind fun r22 =>
  bif iLt (asI (nth r22 0)) 0 then
   some [T.i .i64 (-1)]
  else
   (c 68 [T.sl l0_5, T.i .i64 (asI (nth r22 0))]).bind fun r23 =>
   bif iLt (asI (nth r23 0)) 0 then
    some [T.i .i64 (-1)]
   else
    some [T.i .i64 (asI (nth r23 0))]
def f41 (c : Orc) (lf : Nat) (n0_0 n0_1 n0_2 : Int) (l0_3 l0_4 l0_5 : List T) (n1 : Int) : Option (List T) := f41_t c lf n0_0 n0_1 n0_2 l0_3 l0_4 l0_5 n1
theorem f41_eq (c : Orc) (lf : Nat) (n0_0 n0_1 n0_2 : Int) (l0_3 l0_4 l0_5 : List T) (n1 : Int) : funK c env lf 6 fi41 [.st [.i .i64 n0_0, .i .i64 n0_1, .i .i64 n0_2, .sl l0_3, .sl l0_4, .sl l0_5], .i .i64 n1] = f41 c lf n0_0 n0_1 n0_2 l0_3 l0_4 l0_5 n1 := by kernel_rfl
def f16_0_s (c : Orc) (lf : Nat) (l0 : List T) (L : Int → Int → Option (List T)) (x30 : Int) (x31 : Int) : Option (List T) :=
 bif iLt x31 (l0.length : Int) then
  bif inR x31 l0.length then
  (c 41 [T.st [T.i .i64 (asI (T.cell (l0.getD x31.toNat T.u) 0)), T.i .i64 (asI (T.cell (l0.getD x31.toNat T.u) 1)), T.i .i64 (asI (T.cell (l0.getD x31.toNat T.u) 2)), T.sl (asL (T.cell (l0.getD x31.toNat T.u) 3)), T.sl (asL (T.cell (l0.getD x31.toNat T.u) 4)), T.sl (asL (T.cell (l0.getD x31.toNat T.u) 5))], T.i .i64 x30]).bind fun r32 =>
  bif iLt (asI (nth r32 0)) 0 then
   some [T.i .i64 0, T.i .i64 (-1)]
  else
   L (asI (nth r32 0)) (IntKind.wrap .i64 (x31 + 1))
  else none
 else
  some [T.i .i64 1, T.i .i64 x30]
def f16_0_c (l0 : List T) (x30 x31 : Int) : CSt := ⟨[.ro 0 true [.i .i64, .i .i64, .i .i64, .sl false [.i .u8], .sl true [.s, .i .i64], .sl true [.s, .s]] l0, .i .i64 x30, .i .i64 x31], [.dead, .dead]⟩
theorem f16_0_round (c : Orc) (lf : Nat) (l0 : List T) (L : CSt → Option (List T)) (x30 : Int) (x31 : Int) :
 qa8 c env lf 6 fi16 2 5 [] [0, 1, 5] (x16_5_0) L (f16_0_c l0 x30 x31) = f16_0_s c lf l0 (fun x30 x31 => L (f16_0_c l0 x30 x31)) x30 x31 := by kernel_rfl
def f16_0 (c : Orc) (lf : Nat) (l0 : List T) : Nat → Int → Int → Option (List T)
 | 0 => fun _ _ => none
 | n + 1 => fun x30 x31 => f16_0_s c lf l0 (f16_0 c lf l0 n) x30 x31
theorem f16_0_eq (c : Orc) (lf : Nat) (l0 : List T) (n : Nat) (x30 x31 : Int) :
 lpK c env lf 6 fi16 2 5 [] [0, 1, 5] (x16_5_0) n (f16_0_c l0 x30 x31) = f16_0 c lf l0 n x30 x31 := by
 induction n generalizing x30 x31 with
 | zero => rfl
 | succ n ih =>
  refine (f16_0_round c lf l0 _ x30 x31).trans ?_
  have e : (fun x30 x31 => lpK c env lf 6 fi16 2 5 [] [0, 1, 5] (x16_5_0) n (f16_0_c l0 x30 x31)) = f16_0 c lf l0 n := by funext x30 x31; exact ih x30 x31
  show f16_0_s c lf l0 (fun x30 x31 => lpK c env lf 6 fi16 2 5 [] [0, 1, 5] (x16_5_0) n (f16_0_c l0 x30 x31)) x30 x31 = _
  rw [e]; rfl
def f16_t (c : Orc) (lf : Nat) (lp0 : List T → Int → Int → Option (List T)) (l0 : List T) (n1 : Int) : Option (List T) :=
 bif iLt (IntKind.wrap .i64 (n1 - (l0.length : Int))) 0 then
  some [T.i .i64 (-1)]
 else
  (lp0 l0 (IntKind.wrap .i64 (n1 - (l0.length : Int))) 0).bind fun r33 =>
  bif asI (nth r33 0) == 0 then
   some [T.i .i64 (asI (nth r33 1))]
  else
   some [T.i .i64 (asI (nth r33 1))]
def f16 (c : Orc) (lf : Nat) (l0 : List T) (n1 : Int) : Option (List T) := f16_t c lf (fun (l0 : List T) (x30 x31 : Int) => f16_0 c lf l0 lf x30 x31) l0 n1
theorem f16_raw (c : Orc) (lf : Nat) (l0 : List T) (n1 : Int) : funK c env lf 6 fi16 [.sl l0, .i .i64 n1] = f16_t c lf (fun (l0 : List T) (x30 x31 : Int) => lpK c env lf 6 fi16 2 5 [] [0, 1, 5] (x16_5_0) lf (f16_0_c l0 x30 x31)) l0 n1 := by kernel_rfl
theorem f16_eq (c : Orc) (lf : Nat) (l0 : List T) (n1 : Int) : funK c env lf 6 fi16 [.sl l0, .i .i64 n1] = f16 c lf l0 n1 := by
 refine (f16_raw c lf l0 n1).trans ?_
 have e0 : (fun (l0 : List T) (x30 x31 : Int) => lpK c env lf 6 fi16 2 5 [] [0, 1, 5] (x16_5_0) lf (f16_0_c l0 x30 x31)) = (fun (l0 : List T) (x30 x31 : Int) => f16_0 c lf l0 lf x30 x31) := by funext l0 x30 x31; exact f16_0_eq c lf l0 lf x30 x31
 rw [e0]; rfl
def f5_t (c : Orc) (lf : Nat) (l0_0 : List T) (n0_1 n1 : Int) : Option (List T) :=
 (c 16 [T.sl l0_0, T.i .i64 n1]).bind fun r34 =>
 bif iLt (asI (nth r34 0)) 0 then
  some [T.i .i64 (-1)]
 else
  some [T.i .i64 (asI (nth r34 0))]
def f5 (c : Orc) (lf : Nat) (l0_0 : List T) (n0_1 n1 : Int) : Option (List T) := f5_t c lf l0_0 n0_1 n1
theorem f5_eq (c : Orc) (lf : Nat) (l0_0 : List T) (n0_1 n1 : Int) : funK c env lf 6 fi5 [.st [.sl l0_0, .i .i64 n0_1], .i .i64 n1] = f5 c lf l0_0 n0_1 n1 := by kernel_rfl
def f73_0_s (c : Orc) (lf : Nat) (l0 : List T) (L : Int → List T → Option (List T)) (x38 : Int) (x39 : List T) : Option (List T) :=
 bif iLt x38 (l0.length : Int) then
  bif inR x38 l0.length then
  bif inR x38 x39.length then
  L (IntKind.wrap .i64 (x38 + 1)) (x39.set x38.toNat (T.i .u8 (asI (l0.getD x38.toNat T.u))))
  else none
  else none
 else
  some [T.i .i64 0, T.sl x39]
def f73_0_c (l0 : List T) (x38 : Int) (x39 : List T) : CSt := ⟨[.ro 0 false [.i .u8] l0, .rf 1 [] 0 none, .i .i64 x38], [.dead, .row false [.i .u8] x39 0 false]⟩
theorem f73_0_round (c : Orc) (lf : Nat) (l0 : List T) (L : CSt → Option (List T)) (x38 : Int) (x39 : List T) :
 qa8 c env lf 6 fi73 1 3 [] [0, 3, 4] (x73_3_0) L (f73_0_c l0 x38 x39) = f73_0_s c lf l0 (fun x38 x39 => L (f73_0_c l0 x38 x39)) x38 x39 := by kernel_rfl
def f73_0 (c : Orc) (lf : Nat) (l0 : List T) : Nat → Int → List T → Option (List T)
 | 0 => fun _ _ => none
 | n + 1 => fun x38 x39 => f73_0_s c lf l0 (f73_0 c lf l0 n) x38 x39
theorem f73_0_eq (c : Orc) (lf : Nat) (l0 : List T) (n : Nat) (x38 : Int) (x39 : List T) :
 lpK c env lf 6 fi73 1 3 [] [0, 3, 4] (x73_3_0) n (f73_0_c l0 x38 x39) = f73_0 c lf l0 n x38 x39 := by
 induction n generalizing x38 x39 with
 | zero => rfl
 | succ n ih =>
  refine (f73_0_round c lf l0 _ x38 x39).trans ?_
  have e : (fun x38 x39 => lpK c env lf 6 fi73 1 3 [] [0, 3, 4] (x73_3_0) n (f73_0_c l0 x38 x39)) = f73_0 c lf l0 n := by funext x38 x39; exact ih x38 x39
  show f73_0_s c lf l0 (fun x38 x39 => lpK c env lf 6 fi73 1 3 [] [0, 3, 4] (x73_3_0) n (f73_0_c l0 x38 x39)) x38 x39 = _
  rw [e]; rfl
def f73_t (c : Orc) (lf : Nat) (lp0 : List T → Int → List T → Option (List T)) (l0 : List T) : Option (List T) :=
 bif iLe 0 (l0.length : Int) && iLe (l0.length : Int) (LIM : Int) && ((l0.length : Int) == (l0.length : Int)) then
 (lp0 l0 0 (List.replicate (l0.length : Int).toNat (T.i .u8 0))).bind fun r40 =>
 some [T.sl (asL (nth r40 1))]
 else none
def f73 (c : Orc) (lf : Nat) (l0 : List T) : Option (List T) := f73_t c lf (fun (l0 : List T) (x38 : Int) (x39 : List T) => f73_0 c lf l0 lf x38 x39) l0
theorem f73_raw (c : Orc) (lf : Nat) (l0 : List T) : funK c env lf 6 fi73 [.sl l0] = f73_t c lf (fun (l0 : List T) (x38 : Int) (x39 : List T) => lpK c env lf 6 fi73 1 3 [] [0, 3, 4] (x73_3_0) lf (f73_0_c l0 x38 x39)) l0 := by kernel_rfl
theorem f73_eq (c : Orc) (lf : Nat) (l0 : List T) : funK c env lf 6 fi73 [.sl l0] = f73 c lf l0 := by
 refine (f73_raw c lf l0).trans ?_
 have e0 : (fun (l0 : List T) (x38 : Int) (x39 : List T) => lpK c env lf 6 fi73 1 3 [] [0, 3, 4] (x73_3_0) lf (f73_0_c l0 x38 x39)) = (fun (l0 : List T) (x38 : Int) (x39 : List T) => f73_0 c lf l0 lf x38 x39) := by funext l0 x38 x39; exact f73_0_eq c lf l0 lf x38 x39
 rw [e0]; rfl
def f98_t (c : Orc) (lf : Nat) (s0_0 : ByteArray) (n0_1 : Int) : Option (List T) :=
 some [T.st [T.s s0_0, T.i .i64 n0_1]]
def f98 (c : Orc) (lf : Nat) (s0_0 : ByteArray) (n0_1 : Int) : Option (List T) := f98_t c lf s0_0 n0_1
theorem f98_eq (c : Orc) (lf : Nat) (s0_0 : ByteArray) (n0_1 : Int) : funK c env lf 6 fi98 [.st [.s s0_0, .i .i64 n0_1]] = f98 c lf s0_0 n0_1 := by kernel_rfl
def f74_0_s (c : Orc) (lf : Nat) (l0 : List T) (L : Int → List T → Option (List T)) (x47 : Int) (x48 : List T) : Option (List T) :=
 bif iLt x47 (l0.length : Int) then
  bif inR x47 l0.length then
  (c 98 [T.st [T.s (asS (T.cell (l0.getD x47.toNat T.u) 0)), T.i .i64 (asI (T.cell (l0.getD x47.toNat T.u) 1))]]).bind fun r49 =>
  bif inR x47 x48.length then
  L (IntKind.wrap .i64 (x47 + 1)) (x48.set x47.toNat (T.st [T.s (asS (T.cell (nth r49 0) 0)), T.i .i64 (asI (T.cell (nth r49 0) 1))]))
  else none
  else none
 else
  some [T.i .i64 0, T.sl x48]
def f74_0_c (l0 : List T) (x47 : Int) (x48 : List T) : CSt := ⟨[.ro 0 true [.s, .i .i64] l0, .rf 1 [] 0 none, .i .i64 x47], [.dead, .row true [.s, .i .i64] x48 0 false]⟩
theorem f74_0_round (c : Orc) (lf : Nat) (l0 : List T) (L : CSt → Option (List T)) (x47 : Int) (x48 : List T) :
 qa8 c env lf 6 fi74 1 3 [] [0, 3, 4] (x74_3_0) L (f74_0_c l0 x47 x48) = f74_0_s c lf l0 (fun x47 x48 => L (f74_0_c l0 x47 x48)) x47 x48 := by kernel_rfl
def f74_0 (c : Orc) (lf : Nat) (l0 : List T) : Nat → Int → List T → Option (List T)
 | 0 => fun _ _ => none
 | n + 1 => fun x47 x48 => f74_0_s c lf l0 (f74_0 c lf l0 n) x47 x48
theorem f74_0_eq (c : Orc) (lf : Nat) (l0 : List T) (n : Nat) (x47 : Int) (x48 : List T) :
 lpK c env lf 6 fi74 1 3 [] [0, 3, 4] (x74_3_0) n (f74_0_c l0 x47 x48) = f74_0 c lf l0 n x47 x48 := by
 induction n generalizing x47 x48 with
 | zero => rfl
 | succ n ih =>
  refine (f74_0_round c lf l0 _ x47 x48).trans ?_
  have e : (fun x47 x48 => lpK c env lf 6 fi74 1 3 [] [0, 3, 4] (x74_3_0) n (f74_0_c l0 x47 x48)) = f74_0 c lf l0 n := by funext x47 x48; exact ih x47 x48
  show f74_0_s c lf l0 (fun x47 x48 => lpK c env lf 6 fi74 1 3 [] [0, 3, 4] (x74_3_0) n (f74_0_c l0 x47 x48)) x47 x48 = _
  rw [e]; rfl
def f74_t (c : Orc) (lf : Nat) (lp0 : List T → Int → List T → Option (List T)) (l0 : List T) : Option (List T) :=
 bif iLe 0 (l0.length : Int) && iLe (l0.length : Int) (LIM : Int) && ((l0.length : Int) == (l0.length : Int)) then
 (lp0 l0 0 (List.replicate (l0.length : Int).toNat (T.st [T.s (⟨#[]⟩ : ByteArray), T.i .i64 0]))).bind fun r50 =>
 some [T.sl (asL (nth r50 1))]
 else none
def f74 (c : Orc) (lf : Nat) (l0 : List T) : Option (List T) := f74_t c lf (fun (l0 : List T) (x47 : Int) (x48 : List T) => f74_0 c lf l0 lf x47 x48) l0
theorem f74_raw (c : Orc) (lf : Nat) (l0 : List T) : funK c env lf 6 fi74 [.sl l0] = f74_t c lf (fun (l0 : List T) (x47 : Int) (x48 : List T) => lpK c env lf 6 fi74 1 3 [] [0, 3, 4] (x74_3_0) lf (f74_0_c l0 x47 x48)) l0 := by kernel_rfl
theorem f74_eq (c : Orc) (lf : Nat) (l0 : List T) : funK c env lf 6 fi74 [.sl l0] = f74 c lf l0 := by
 refine (f74_raw c lf l0).trans ?_
 have e0 : (fun (l0 : List T) (x47 : Int) (x48 : List T) => lpK c env lf 6 fi74 1 3 [] [0, 3, 4] (x74_3_0) lf (f74_0_c l0 x47 x48)) = (fun (l0 : List T) (x47 : Int) (x48 : List T) => f74_0 c lf l0 lf x47 x48) := by funext l0 x47 x48; exact f74_0_eq c lf l0 lf x47 x48
 rw [e0]; rfl
def f99_t (c : Orc) (lf : Nat) (s0_0 s0_1 : ByteArray) : Option (List T) :=
 some [T.st [T.s s0_0, T.s s0_1]]
def f99 (c : Orc) (lf : Nat) (s0_0 s0_1 : ByteArray) : Option (List T) := f99_t c lf s0_0 s0_1
theorem f99_eq (c : Orc) (lf : Nat) (s0_0 s0_1 : ByteArray) : funK c env lf 6 fi99 [.st [.s s0_0, .s s0_1]] = f99 c lf s0_0 s0_1 := by kernel_rfl
def f75_0_s (c : Orc) (lf : Nat) (l0 : List T) (L : Int → List T → Option (List T)) (x57 : Int) (x58 : List T) : Option (List T) :=
 bif iLt x57 (l0.length : Int) then
  bif inR x57 l0.length then
  (c 99 [T.st [T.s (asS (T.cell (l0.getD x57.toNat T.u) 0)), T.s (asS (T.cell (l0.getD x57.toNat T.u) 1))]]).bind fun r59 =>
  bif inR x57 x58.length then
  L (IntKind.wrap .i64 (x57 + 1)) (x58.set x57.toNat (T.st [T.s (asS (T.cell (nth r59 0) 0)), T.s (asS (T.cell (nth r59 0) 1))]))
  else none
  else none
 else
  some [T.i .i64 0, T.sl x58]
def f75_0_c (l0 : List T) (x57 : Int) (x58 : List T) : CSt := ⟨[.ro 0 true [.s, .s] l0, .rf 1 [] 0 none, .i .i64 x57], [.dead, .row true [.s, .s] x58 0 false]⟩
theorem f75_0_round (c : Orc) (lf : Nat) (l0 : List T) (L : CSt → Option (List T)) (x57 : Int) (x58 : List T) :
 qa8 c env lf 6 fi75 1 3 [] [0, 3, 4] (x75_3_0) L (f75_0_c l0 x57 x58) = f75_0_s c lf l0 (fun x57 x58 => L (f75_0_c l0 x57 x58)) x57 x58 := by kernel_rfl
def f75_0 (c : Orc) (lf : Nat) (l0 : List T) : Nat → Int → List T → Option (List T)
 | 0 => fun _ _ => none
 | n + 1 => fun x57 x58 => f75_0_s c lf l0 (f75_0 c lf l0 n) x57 x58
theorem f75_0_eq (c : Orc) (lf : Nat) (l0 : List T) (n : Nat) (x57 : Int) (x58 : List T) :
 lpK c env lf 6 fi75 1 3 [] [0, 3, 4] (x75_3_0) n (f75_0_c l0 x57 x58) = f75_0 c lf l0 n x57 x58 := by
 induction n generalizing x57 x58 with
 | zero => rfl
 | succ n ih =>
  refine (f75_0_round c lf l0 _ x57 x58).trans ?_
  have e : (fun x57 x58 => lpK c env lf 6 fi75 1 3 [] [0, 3, 4] (x75_3_0) n (f75_0_c l0 x57 x58)) = f75_0 c lf l0 n := by funext x57 x58; exact ih x57 x58
  show f75_0_s c lf l0 (fun x57 x58 => lpK c env lf 6 fi75 1 3 [] [0, 3, 4] (x75_3_0) n (f75_0_c l0 x57 x58)) x57 x58 = _
  rw [e]; rfl
def f75_t (c : Orc) (lf : Nat) (lp0 : List T → Int → List T → Option (List T)) (l0 : List T) : Option (List T) :=
 bif iLe 0 (l0.length : Int) && iLe (l0.length : Int) (LIM : Int) && ((l0.length : Int) == (l0.length : Int)) then
 (lp0 l0 0 (List.replicate (l0.length : Int).toNat (T.st [T.s (⟨#[]⟩ : ByteArray), T.s (⟨#[]⟩ : ByteArray)]))).bind fun r60 =>
 some [T.sl (asL (nth r60 1))]
 else none
def f75 (c : Orc) (lf : Nat) (l0 : List T) : Option (List T) := f75_t c lf (fun (l0 : List T) (x57 : Int) (x58 : List T) => f75_0 c lf l0 lf x57 x58) l0
theorem f75_raw (c : Orc) (lf : Nat) (l0 : List T) : funK c env lf 6 fi75 [.sl l0] = f75_t c lf (fun (l0 : List T) (x57 : Int) (x58 : List T) => lpK c env lf 6 fi75 1 3 [] [0, 3, 4] (x75_3_0) lf (f75_0_c l0 x57 x58)) l0 := by kernel_rfl
theorem f75_eq (c : Orc) (lf : Nat) (l0 : List T) : funK c env lf 6 fi75 [.sl l0] = f75 c lf l0 := by
 refine (f75_raw c lf l0).trans ?_
 have e0 : (fun (l0 : List T) (x57 : Int) (x58 : List T) => lpK c env lf 6 fi75 1 3 [] [0, 3, 4] (x75_3_0) lf (f75_0_c l0 x57 x58)) = (fun (l0 : List T) (x57 : Int) (x58 : List T) => f75_0 c lf l0 lf x57 x58) := by funext l0 x57 x58; exact f75_0_eq c lf l0 lf x57 x58
 rw [e0]; rfl
def f48_t (c : Orc) (lf : Nat) (n0_0 n0_1 n0_2 : Int) (l0_3 l0_4 l0_5 : List T) : Option (List T) :=
 (c 73 [T.sl l0_3]).bind fun r61 =>
 (c 74 [T.sl l0_4]).bind fun r62 =>
 (c 75 [T.sl l0_5]).bind fun r63 =>
 some [T.st [T.i .i64 n0_0, T.i .i64 n0_1, T.i .i64 n0_2, T.sl (asL (nth r61 0)), T.sl (asL (nth r62 0)), T.sl (asL (nth r63 0))]]
def f48 (c : Orc) (lf : Nat) (n0_0 n0_1 n0_2 : Int) (l0_3 l0_4 l0_5 : List T) : Option (List T) := f48_t c lf n0_0 n0_1 n0_2 l0_3 l0_4 l0_5
theorem f48_eq (c : Orc) (lf : Nat) (n0_0 n0_1 n0_2 : Int) (l0_3 l0_4 l0_5 : List T) : funK c env lf 6 fi48 [.st [.i .i64 n0_0, .i .i64 n0_1, .i .i64 n0_2, .sl l0_3, .sl l0_4, .sl l0_5]] = f48 c lf n0_0 n0_1 n0_2 l0_3 l0_4 l0_5 := by kernel_rfl
def f21_0_s (c : Orc) (lf : Nat) (l0 : List T) (L : Int → List T → Option (List T)) (x70 : Int) (x71 : List T) : Option (List T) :=
 bif iLt x70 (l0.length : Int) then
  bif inR x70 l0.length then
  (c 48 [T.st [T.i .i64 (asI (T.cell (l0.getD x70.toNat T.u) 0)), T.i .i64 (asI (T.cell (l0.getD x70.toNat T.u) 1)), T.i .i64 (asI (T.cell (l0.getD x70.toNat T.u) 2)), T.sl (asL (T.cell (l0.getD x70.toNat T.u) 3)), T.sl (asL (T.cell (l0.getD x70.toNat T.u) 4)), T.sl (asL (T.cell (l0.getD x70.toNat T.u) 5))]]).bind fun r72 =>
  bif inR x70 x71.length then
  L (IntKind.wrap .i64 (x70 + 1)) (x71.set x70.toNat (T.st [T.i .i64 (asI (T.cell (nth r72 0) 0)), T.i .i64 (asI (T.cell (nth r72 0) 1)), T.i .i64 (asI (T.cell (nth r72 0) 2)), T.sl (asL (T.cell (nth r72 0) 3)), T.sl (asL (T.cell (nth r72 0) 4)), T.sl (asL (T.cell (nth r72 0) 5))]))
  else none
  else none
 else
  some [T.i .i64 0, T.sl x71]
def f21_0_c (l0 : List T) (x70 : Int) (x71 : List T) : CSt := ⟨[.ro 0 true [.i .i64, .i .i64, .i .i64, .sl false [.i .u8], .sl true [.s, .i .i64], .sl true [.s, .s]] l0, .rf 1 [] 0 none, .i .i64 x70], [.dead, .row true [.i .i64, .i .i64, .i .i64, .sl false [.i .u8], .sl true [.s, .i .i64], .sl true [.s, .s]] x71 0 false]⟩
theorem f21_0_round (c : Orc) (lf : Nat) (l0 : List T) (L : CSt → Option (List T)) (x70 : Int) (x71 : List T) :
 qa8 c env lf 6 fi21 1 3 [] [0, 3, 4] (x21_3_0) L (f21_0_c l0 x70 x71) = f21_0_s c lf l0 (fun x70 x71 => L (f21_0_c l0 x70 x71)) x70 x71 := by kernel_rfl
def f21_0 (c : Orc) (lf : Nat) (l0 : List T) : Nat → Int → List T → Option (List T)
 | 0 => fun _ _ => none
 | n + 1 => fun x70 x71 => f21_0_s c lf l0 (f21_0 c lf l0 n) x70 x71
theorem f21_0_eq (c : Orc) (lf : Nat) (l0 : List T) (n : Nat) (x70 : Int) (x71 : List T) :
 lpK c env lf 6 fi21 1 3 [] [0, 3, 4] (x21_3_0) n (f21_0_c l0 x70 x71) = f21_0 c lf l0 n x70 x71 := by
 induction n generalizing x70 x71 with
 | zero => rfl
 | succ n ih =>
  refine (f21_0_round c lf l0 _ x70 x71).trans ?_
  have e : (fun x70 x71 => lpK c env lf 6 fi21 1 3 [] [0, 3, 4] (x21_3_0) n (f21_0_c l0 x70 x71)) = f21_0 c lf l0 n := by funext x70 x71; exact ih x70 x71
  show f21_0_s c lf l0 (fun x70 x71 => lpK c env lf 6 fi21 1 3 [] [0, 3, 4] (x21_3_0) n (f21_0_c l0 x70 x71)) x70 x71 = _
  rw [e]; rfl
def f21_t (c : Orc) (lf : Nat) (lp0 : List T → Int → List T → Option (List T)) (l0 : List T) : Option (List T) :=
 bif iLe 0 (l0.length : Int) && iLe (l0.length : Int) (LIM : Int) && ((l0.length : Int) == (l0.length : Int)) then
 (lp0 l0 0 (List.replicate (l0.length : Int).toNat (T.st [T.i .i64 0, T.i .i64 0, T.i .i64 0, T.sl [], T.sl [], T.sl []]))).bind fun r73 =>
 some [T.sl (asL (nth r73 1))]
 else none
def f21 (c : Orc) (lf : Nat) (l0 : List T) : Option (List T) := f21_t c lf (fun (l0 : List T) (x70 : Int) (x71 : List T) => f21_0 c lf l0 lf x70 x71) l0
theorem f21_raw (c : Orc) (lf : Nat) (l0 : List T) : funK c env lf 6 fi21 [.sl l0] = f21_t c lf (fun (l0 : List T) (x70 : Int) (x71 : List T) => lpK c env lf 6 fi21 1 3 [] [0, 3, 4] (x21_3_0) lf (f21_0_c l0 x70 x71)) l0 := by kernel_rfl
theorem f21_eq (c : Orc) (lf : Nat) (l0 : List T) : funK c env lf 6 fi21 [.sl l0] = f21 c lf l0 := by
 refine (f21_raw c lf l0).trans ?_
 have e0 : (fun (l0 : List T) (x70 : Int) (x71 : List T) => lpK c env lf 6 fi21 1 3 [] [0, 3, 4] (x21_3_0) lf (f21_0_c l0 x70 x71)) = (fun (l0 : List T) (x70 : Int) (x71 : List T) => f21_0 c lf l0 lf x70 x71) := by funext l0 x70 x71; exact f21_0_eq c lf l0 lf x70 x71
 rw [e0]; rfl
def f7_t (c : Orc) (lf : Nat) (l0_0 : List T) (n0_1 : Int) : Option (List T) :=
 (c 21 [T.sl l0_0]).bind fun r74 =>
 some [T.st [T.sl (asL (nth r74 0)), T.i .i64 n0_1]]
def f7 (c : Orc) (lf : Nat) (l0_0 : List T) (n0_1 : Int) : Option (List T) := f7_t c lf l0_0 n0_1
theorem f7_eq (c : Orc) (lf : Nat) (l0_0 : List T) (n0_1 : Int) : funK c env lf 6 fi7 [.st [.sl l0_0, .i .i64 n0_1]] = f7 c lf l0_0 n0_1 := by kernel_rfl
def f69_t (c : Orc) (lf : Nat) (n0 n1 n2 : Int) : Option (List T) :=
 bif iLe n1 n0 then
  some [T.b (iLe n0 n2)]
 else
  some [T.b false]
def f69 (c : Orc) (lf : Nat) (n0 n1 n2 : Int) : Option (List T) := f69_t c lf n0 n1 n2
theorem f69_eq (c : Orc) (lf : Nat) (n0 n1 n2 : Int) : funK c env lf 6 fi69 [.i .i64 n0, .i .i64 n1, .i .i64 n2] = f69 c lf n0 n1 n2 := by kernel_rfl
def f105_0_s (c : Orc) (lf : Nat) (s0 : ByteArray) (L : Int → Option (List T)) (x84 : Int) : Option (List T) :=
 bif iLt x84 (s0.size : Int) then
  bif inR x84 s0.size then
  (c 69 [T.i .i64 (IntKind.wrap .i64 (qad s0 x84)), T.i .i64 97, T.i .i64 122]).bind fun r85 =>
  bif !(asB (nth r85 0)) then
   (c 69 [T.i .i64 (IntKind.wrap .i64 (qad s0 x84)), T.i .i64 48, T.i .i64 57]).bind fun r86 =>
   bif !(asB (nth r86 0)) then
    bif (IntKind.wrap .i64 (qad s0 x84)) != 95 then
     bif (IntKind.wrap .i64 (qad s0 x84)) != 45 then
      bif (IntKind.wrap .i64 (qad s0 x84)) != 46 then
       some [T.i .i64 0, T.b false]
      else
       L (IntKind.wrap .i64 (x84 + 1))
     else
      L (IntKind.wrap .i64 (x84 + 1))
    else
     L (IntKind.wrap .i64 (x84 + 1))
   else
    L (IntKind.wrap .i64 (x84 + 1))
  else
   L (IntKind.wrap .i64 (x84 + 1))
  else none
 else
  some [T.i .i64 1, T.s s0]
def f105_0_c (s0 : ByteArray) (x84 : Int) : CSt := ⟨[.s s0, .i .i64 x84], [.dead]⟩
theorem f105_0_round (c : Orc) (lf : Nat) (s0 : ByteArray) (L : CSt → Option (List T)) (x84 : Int) :
 qa8 c env lf 6 fi105 1 2 [] [0, 3] (x105_2_0) L (f105_0_c s0 x84) = f105_0_s c lf s0 (fun x84 => L (f105_0_c s0 x84)) x84 := by kernel_rfl
def f105_0 (c : Orc) (lf : Nat) (s0 : ByteArray) : Nat → Int → Option (List T)
 | 0 => fun _ => none
 | n + 1 => fun x84 => f105_0_s c lf s0 (f105_0 c lf s0 n) x84
theorem f105_0_eq (c : Orc) (lf : Nat) (s0 : ByteArray) (n : Nat) (x84 : Int) :
 lpK c env lf 6 fi105 1 2 [] [0, 3] (x105_2_0) n (f105_0_c s0 x84) = f105_0 c lf s0 n x84 := by
 induction n generalizing x84 with
 | zero => rfl
 | succ n ih =>
  refine (f105_0_round c lf s0 _ x84).trans ?_
  have e : (fun x84 => lpK c env lf 6 fi105 1 2 [] [0, 3] (x105_2_0) n (f105_0_c s0 x84)) = f105_0 c lf s0 n := by funext x84; exact ih x84
  show f105_0_s c lf s0 (fun x84 => lpK c env lf 6 fi105 1 2 [] [0, 3] (x105_2_0) n (f105_0_c s0 x84)) x84 = _
  rw [e]; rfl
def f105_t (c : Orc) (lf : Nat) (lp0 : ByteArray → Int → Option (List T)) (s0 : ByteArray) : Option (List T) :=
 (lp0 s0 0).bind fun r87 =>
 bif asI (nth r87 0) == 0 then
  some [T.b (asB (nth r87 1))]
 else
  (c 69 [T.i .i64 ((asS (nth r87 1)).size : Int), T.i .i64 1, T.i .i64 14]).bind fun r88 =>
  bif asB (nth r88 0) then
   bif !((asS (nth r87 1)).toList == (⟨#[46]⟩ : ByteArray).toList) then
    some [T.b (!((asS (nth r87 1)).toList == (⟨#[46, 46]⟩ : ByteArray).toList))]
   else
    some [T.b false]
  else
   some [T.b false]
def f105 (c : Orc) (lf : Nat) (s0 : ByteArray) : Option (List T) := f105_t c lf (fun (s0 : ByteArray) (x84 : Int) => f105_0 c lf s0 lf x84) s0
theorem f105_raw (c : Orc) (lf : Nat) (s0 : ByteArray) : funK c env lf 6 fi105 [.s s0] = f105_t c lf (fun (s0 : ByteArray) (x84 : Int) => lpK c env lf 6 fi105 1 2 [] [0, 3] (x105_2_0) lf (f105_0_c s0 x84)) s0 := by kernel_rfl
theorem f105_eq (c : Orc) (lf : Nat) (s0 : ByteArray) : funK c env lf 6 fi105 [.s s0] = f105 c lf s0 := by
 refine (f105_raw c lf s0).trans ?_
 have e0 : (fun (s0 : ByteArray) (x84 : Int) => lpK c env lf 6 fi105 1 2 [] [0, 3] (x105_2_0) lf (f105_0_c s0 x84)) = (fun (s0 : ByteArray) (x84 : Int) => f105_0 c lf s0 lf x84) := by funext s0 x84; exact f105_0_eq c lf s0 lf x84
 rw [e0]; rfl
def f95_0_s (c : Orc) (lf : Nat) (l0 : List T) (L : Int → Option (List T)) (x97 : Int) : Option (List T) :=
 bif iLt x97 (l0.length : Int) then
  bif inR x97 l0.length then
  (c 105 [T.s (asS (T.cell (l0.getD x97.toNat T.u) 0))]).bind fun r98 =>
  bif !(asB (nth r98 0)) then
   some [T.i .i64 0, T.b false]
  else
   bif inR x97 l0.length then
   (c 69 [T.i .i64 (asI (T.cell (l0.getD x97.toNat T.u) 1)), T.i .i64 2, T.i .i64 1000]).bind fun r99 =>
   bif !(asB (nth r99 0)) then
    some [T.i .i64 0, T.b false]
   else
    bif iLt 0 x97 then
     bif inR (IntKind.wrap .i64 (x97 - 1)) l0.length then
     bif inR x97 l0.length then
     bif !(Op.bytesLess (asS (T.cell (l0.getD ((IntKind.wrap .i64 (x97 - 1)).toNat) T.u) 0)).toList (asS (T.cell (l0.getD x97.toNat T.u) 0)).toList) then
      some [T.i .i64 0, T.b false]
     else
      L (IntKind.wrap .i64 (x97 + 1))
     else none
     else none
    else
     L (IntKind.wrap .i64 (x97 + 1))
   else none
  else none
 else
  some [T.i .i64 1, T.sl l0]
def f95_0_c (l0 : List T) (x97 : Int) : CSt := ⟨[.ro 0 true [.s, .i .i64] l0, .i .i64 x97], [.dead]⟩
theorem f95_0_round (c : Orc) (lf : Nat) (l0 : List T) (L : CSt → Option (List T)) (x97 : Int) :
 qa8 c env lf 6 fi95 1 2 [] [0, 3] (x95_2_0) L (f95_0_c l0 x97) = f95_0_s c lf l0 (fun x97 => L (f95_0_c l0 x97)) x97 := by kernel_rfl
def f95_0 (c : Orc) (lf : Nat) (l0 : List T) : Nat → Int → Option (List T)
 | 0 => fun _ => none
 | n + 1 => fun x97 => f95_0_s c lf l0 (f95_0 c lf l0 n) x97
theorem f95_0_u (c : Orc) (lf : Nat) (l0 : List T) (n : Nat) (x97 : Int) : f95_0 c lf l0 (n + 1) x97 = f95_0_s c lf l0 (f95_0 c lf l0 n) x97 := rfl
theorem f95_0_eq (c : Orc) (lf : Nat) (l0 : List T) (n : Nat) (x97 : Int) :
 lpK c env lf 6 fi95 1 2 [] [0, 3] (x95_2_0) n (f95_0_c l0 x97) = f95_0 c lf l0 n x97 := by
 induction n generalizing x97 with
 | zero => rfl
 | succ n ih =>
  refine (f95_0_round c lf l0 _ x97).trans ?_
  have e : (fun x97 => lpK c env lf 6 fi95 1 2 [] [0, 3] (x95_2_0) n (f95_0_c l0 x97)) = f95_0 c lf l0 n := by funext x97; exact ih x97
  show f95_0_s c lf l0 (fun x97 => lpK c env lf 6 fi95 1 2 [] [0, 3] (x95_2_0) n (f95_0_c l0 x97)) x97 = _
  rw [e]; rfl
def f95_t (c : Orc) (lf : Nat) (lp0 : List T → Int → Option (List T)) (l0 : List T) : Option (List T) :=
 (lp0 l0 0).bind fun r100 =>
 bif asI (nth r100 0) == 0 then
  some [T.b (asB (nth r100 1))]
 else
  some [T.b (iLe ((asL (nth r100 1)).length : Int) 10)]
def f95 (c : Orc) (lf : Nat) (l0 : List T) : Option (List T) := f95_t c lf (fun (l0 : List T) (x97 : Int) => f95_0 c lf l0 lf x97) l0
theorem f95_raw (c : Orc) (lf : Nat) (l0 : List T) : funK c env lf 6 fi95 [.sl l0] = f95_t c lf (fun (l0 : List T) (x97 : Int) => lpK c env lf 6 fi95 1 2 [] [0, 3] (x95_2_0) lf (f95_0_c l0 x97)) l0 := by kernel_rfl
theorem f95_eq (c : Orc) (lf : Nat) (l0 : List T) : funK c env lf 6 fi95 [.sl l0] = f95 c lf l0 := by
 refine (f95_raw c lf l0).trans ?_
 have e0 : (fun (l0 : List T) (x97 : Int) => lpK c env lf 6 fi95 1 2 [] [0, 3] (x95_2_0) lf (f95_0_c l0 x97)) = (fun (l0 : List T) (x97 : Int) => f95_0 c lf l0 lf x97) := by funext l0 x97; exact f95_0_eq c lf l0 lf x97
 rw [e0]; rfl
def f96_0_s (c : Orc) (lf : Nat) (l0 : List T) (L : Int → Option (List T)) (x109 : Int) : Option (List T) :=
 bif iLt x109 (l0.length : Int) then
  bif inR x109 l0.length then
  (c 105 [T.s (asS (T.cell (l0.getD x109.toNat T.u) 0))]).bind fun r110 =>
  bif !(asB (nth r110 0)) then
   some [T.i .i64 0, T.b false]
  else
   bif inR x109 l0.length then
   (c 69 [T.i .i64 ((asS (T.cell (l0.getD x109.toNat T.u) 1)).size : Int), T.i .i64 1, T.i .i64 16]).bind fun r111 =>
   bif !(asB (nth r111 0)) then
    some [T.i .i64 0, T.b false]
   else
    bif iLt 0 x109 then
     bif inR (IntKind.wrap .i64 (x109 - 1)) l0.length then
     bif inR x109 l0.length then
     bif !(Op.bytesLess (asS (T.cell (l0.getD ((IntKind.wrap .i64 (x109 - 1)).toNat) T.u) 0)).toList (asS (T.cell (l0.getD x109.toNat T.u) 0)).toList) then
      some [T.i .i64 0, T.b false]
     else
      L (IntKind.wrap .i64 (x109 + 1))
     else none
     else none
    else
     L (IntKind.wrap .i64 (x109 + 1))
   else none
  else none
 else
  some [T.i .i64 1, T.sl l0]
def f96_0_c (l0 : List T) (x109 : Int) : CSt := ⟨[.ro 0 true [.s, .s] l0, .i .i64 x109], [.dead]⟩
theorem f96_0_round (c : Orc) (lf : Nat) (l0 : List T) (L : CSt → Option (List T)) (x109 : Int) :
 qa8 c env lf 6 fi96 1 2 [] [0, 3] (x96_2_0) L (f96_0_c l0 x109) = f96_0_s c lf l0 (fun x109 => L (f96_0_c l0 x109)) x109 := by kernel_rfl
def f96_0 (c : Orc) (lf : Nat) (l0 : List T) : Nat → Int → Option (List T)
 | 0 => fun _ => none
 | n + 1 => fun x109 => f96_0_s c lf l0 (f96_0 c lf l0 n) x109
theorem f96_0_u (c : Orc) (lf : Nat) (l0 : List T) (n : Nat) (x109 : Int) : f96_0 c lf l0 (n + 1) x109 = f96_0_s c lf l0 (f96_0 c lf l0 n) x109 := rfl
theorem f96_0_eq (c : Orc) (lf : Nat) (l0 : List T) (n : Nat) (x109 : Int) :
 lpK c env lf 6 fi96 1 2 [] [0, 3] (x96_2_0) n (f96_0_c l0 x109) = f96_0 c lf l0 n x109 := by
 induction n generalizing x109 with
 | zero => rfl
 | succ n ih =>
  refine (f96_0_round c lf l0 _ x109).trans ?_
  have e : (fun x109 => lpK c env lf 6 fi96 1 2 [] [0, 3] (x96_2_0) n (f96_0_c l0 x109)) = f96_0 c lf l0 n := by funext x109; exact ih x109
  show f96_0_s c lf l0 (fun x109 => lpK c env lf 6 fi96 1 2 [] [0, 3] (x96_2_0) n (f96_0_c l0 x109)) x109 = _
  rw [e]; rfl
def f96_t (c : Orc) (lf : Nat) (lp0 : List T → Int → Option (List T)) (l0 : List T) : Option (List T) :=
 (lp0 l0 0).bind fun r112 =>
 bif asI (nth r112 0) == 0 then
  some [T.b (asB (nth r112 1))]
 else
  some [T.b (iLe ((asL (nth r112 1)).length : Int) 4)]
def f96 (c : Orc) (lf : Nat) (l0 : List T) : Option (List T) := f96_t c lf (fun (l0 : List T) (x109 : Int) => f96_0 c lf l0 lf x109) l0
theorem f96_raw (c : Orc) (lf : Nat) (l0 : List T) : funK c env lf 6 fi96 [.sl l0] = f96_t c lf (fun (l0 : List T) (x109 : Int) => lpK c env lf 6 fi96 1 2 [] [0, 3] (x96_2_0) lf (f96_0_c l0 x109)) l0 := by kernel_rfl
theorem f96_eq (c : Orc) (lf : Nat) (l0 : List T) : funK c env lf 6 fi96 [.sl l0] = f96 c lf l0 := by
 refine (f96_raw c lf l0).trans ?_
 have e0 : (fun (l0 : List T) (x109 : Int) => lpK c env lf 6 fi96 1 2 [] [0, 3] (x96_2_0) lf (f96_0_c l0 x109)) = (fun (l0 : List T) (x109 : Int) => f96_0 c lf l0 lf x109) := by funext l0 x109; exact f96_0_eq c lf l0 lf x109
 rw [e0]; rfl
def f70_t (c : Orc) (lf : Nat) (n0_0 n0_1 n0_2 : Int) (l0_3 l0_4 l0_5 : List T) : Option (List T) :=
 (c 69 [T.i .i64 n0_0, T.i .i64 1, T.i .i64 1000]).bind fun r113 =>
 bif !(asB (nth r113 0)) then
  some [T.b false]
 else
  (c 69 [T.i .i64 n0_2, T.i .i64 0, T.i .i64 1000]).bind fun r114 =>
  bif !(asB (nth r114 0)) then
   some [T.b false]
  else
   bif !((n0_2 == 0) == (n0_0 == 1)) then
    some [T.b false]
   else
    bif iLt 100 (l0_3.length : Int) then
     some [T.b false]
    else
     (c 95 [T.sl l0_4]).bind fun r115 =>
     bif !(asB (nth r115 0)) then
      some [T.b false]
     else
      (c 96 [T.sl l0_5]).bind fun r116 =>
      bif !(asB (nth r116 0)) then
       some [T.b false]
      else
       bif n0_1 == 1 then
        some [T.b ((l0_4.length : Int) == 0)]
       else
        bif n0_1 == 2 then
         bif (l0_3.length : Int) == 0 then
          some [T.b (iLe n0_2 1)]
         else
          some [T.b false]
        else
         some [T.b false]
def f70 (c : Orc) (lf : Nat) (n0_0 n0_1 n0_2 : Int) (l0_3 l0_4 l0_5 : List T) : Option (List T) := f70_t c lf n0_0 n0_1 n0_2 l0_3 l0_4 l0_5
theorem f70_eq (c : Orc) (lf : Nat) (n0_0 n0_1 n0_2 : Int) (l0_3 l0_4 l0_5 : List T) : funK c env lf 6 fi70 [.st [.i .i64 n0_0, .i .i64 n0_1, .i .i64 n0_2, .sl l0_3, .sl l0_4, .sl l0_5]] = f70 c lf n0_0 n0_1 n0_2 l0_3 l0_4 l0_5 := by kernel_rfl
def f42_0_s (c : Orc) (lf : Nat) (l0_0 : List T) (n0_1 : Int) (L : Int → Option (List T)) (x126 : Int) : Option (List T) :=
 bif iLt x126 (l0_0.length : Int) then
  bif inR x126 l0_0.length then
  (c 70 [T.st [T.i .i64 (asI (T.cell (l0_0.getD x126.toNat T.u) 0)), T.i .i64 (asI (T.cell (l0_0.getD x126.toNat T.u) 1)), T.i .i64 (asI (T.cell (l0_0.getD x126.toNat T.u) 2)), T.sl (asL (T.cell (l0_0.getD x126.toNat T.u) 3)), T.sl (asL (T.cell (l0_0.getD x126.toNat T.u) 4)), T.sl (asL (T.cell (l0_0.getD x126.toNat T.u) 5))]]).bind fun r127 =>
  bif !(asB (nth r127 0)) then
   some [T.i .i64 0, T.b false]
  else
   bif iLe n0_1 (asI (T.cell (l0_0.getD x126.toNat T.u) 0)) then
    some [T.i .i64 0, T.b false]
   else
    bif iLt 0 x126 then
     bif inR (IntKind.wrap .i64 (x126 - 1)) l0_0.length then
     bif iLe (asI (T.cell (l0_0.getD x126.toNat T.u) 0)) (asI (T.cell (l0_0.getD ((IntKind.wrap .i64 (x126 - 1)).toNat) T.u) 0)) then
      some [T.i .i64 0, T.b false]
     else
      L (IntKind.wrap .i64 (x126 + 1))
     else none
    else
     L (IntKind.wrap .i64 (x126 + 1))
  else none
 else
  some [T.i .i64 1, T.sl l0_0, T.i .i64 n0_1]
def f42_0_c (l0_0 : List T) (n0_1 x126 : Int) : CSt := ⟨[.bp 2 0, .i .i64 x126], [.dead, .dead, .box [.ro 0 true [.i .i64, .i .i64, .i .i64, .sl false [.i .u8], .sl true [.s, .i .i64], .sl true [.s, .s]] l0_0, .i .i64 n0_1]]⟩
theorem f42_0_round (c : Orc) (lf : Nat) (l0_0 : List T) (n0_1 : Int) (L : CSt → Option (List T)) (x126 : Int) :
 qa8 c env lf 6 fi42 2 4 [] [1, 3] (x42_4_0) L (f42_0_c l0_0 n0_1 x126) = f42_0_s c lf l0_0 n0_1 (fun x126 => L (f42_0_c l0_0 n0_1 x126)) x126 := by kernel_rfl
def f42_0 (c : Orc) (lf : Nat) (l0_0 : List T) (n0_1 : Int) : Nat → Int → Option (List T)
 | 0 => fun _ => none
 | n + 1 => fun x126 => f42_0_s c lf l0_0 n0_1 (f42_0 c lf l0_0 n0_1 n) x126
theorem f42_0_u (c : Orc) (lf : Nat) (l0_0 : List T) (n0_1 : Int) (n : Nat) (x126 : Int) : f42_0 c lf l0_0 n0_1 (n + 1) x126 = f42_0_s c lf l0_0 n0_1 (f42_0 c lf l0_0 n0_1 n) x126 := rfl
theorem f42_0_eq (c : Orc) (lf : Nat) (l0_0 : List T) (n0_1 : Int) (n : Nat) (x126 : Int) :
 lpK c env lf 6 fi42 2 4 [] [1, 3] (x42_4_0) n (f42_0_c l0_0 n0_1 x126) = f42_0 c lf l0_0 n0_1 n x126 := by
 induction n generalizing x126 with
 | zero => rfl
 | succ n ih =>
  refine (f42_0_round c lf l0_0 n0_1 _ x126).trans ?_
  have e : (fun x126 => lpK c env lf 6 fi42 2 4 [] [1, 3] (x42_4_0) n (f42_0_c l0_0 n0_1 x126)) = f42_0 c lf l0_0 n0_1 n := by funext x126; exact ih x126
  show f42_0_s c lf l0_0 n0_1 (fun x126 => lpK c env lf 6 fi42 2 4 [] [1, 3] (x42_4_0) n (f42_0_c l0_0 n0_1 x126)) x126 = _
  rw [e]; rfl
def f42_t (c : Orc) (lf : Nat) (lp0 : List T → Int → Int → Option (List T)) (l0_0 : List T) (n0_1 : Int) : Option (List T) :=
 (c 69 [T.i .i64 (l0_0.length : Int), T.i .i64 1, T.i .i64 30]).bind fun r123 =>
 bif !(asB (nth r123 0)) then
  some [T.b false]
 else
  (c 69 [T.i .i64 n0_1, T.i .i64 2, T.i .i64 1000]).bind fun r124 =>
  bif !(asB (nth r124 0)) then
   some [T.b false]
  else
   (lp0 l0_0 n0_1 0).bind fun r128 =>
   bif asI (nth r128 0) == 0 then
    some [T.b (asB (nth r128 1))]
   else
    bif inR 0 ((asL (nth r128 1)).length) then
    bif (asI (T.cell ((asL (nth r128 1)).getD 0 T.u) 0)) == 1 then
     bif inR 0 ((asL (nth r128 1)).length) then
     some [T.b ((asI (T.cell ((asL (nth r128 1)).getD 0 T.u) 1)) == 2)]
     else none
    else
     some [T.b false]
    else none
def f42 (c : Orc) (lf : Nat) (l0_0 : List T) (n0_1 : Int) : Option (List T) := f42_t c lf (fun (l0_0 : List T) (n0_1 x126 : Int) => f42_0 c lf l0_0 n0_1 lf x126) l0_0 n0_1
theorem f42_raw (c : Orc) (lf : Nat) (l0_0 : List T) (n0_1 : Int) : funK c env lf 6 fi42 [.st [.sl l0_0, .i .i64 n0_1]] = f42_t c lf (fun (l0_0 : List T) (n0_1 x126 : Int) => lpK c env lf 6 fi42 2 4 [] [1, 3] (x42_4_0) lf (f42_0_c l0_0 n0_1 x126)) l0_0 n0_1 := by kernel_rfl
theorem f42_eq (c : Orc) (lf : Nat) (l0_0 : List T) (n0_1 : Int) : funK c env lf 6 fi42 [.st [.sl l0_0, .i .i64 n0_1]] = f42 c lf l0_0 n0_1 := by
 refine (f42_raw c lf l0_0 n0_1).trans ?_
 have e0 : (fun (l0_0 : List T) (n0_1 x126 : Int) => lpK c env lf 6 fi42 2 4 [] [1, 3] (x42_4_0) lf (f42_0_c l0_0 n0_1 x126)) = (fun (l0_0 : List T) (n0_1 x126 : Int) => f42_0 c lf l0_0 n0_1 lf x126) := by funext l0_0 n0_1 x126; exact f42_0_eq c lf l0_0 n0_1 lf x126
 rw [e0]; rfl
def f45_0_s (c : Orc) (lf : Nat) (l0_0 : List T) (n1 n0_1 : Int) (L : Int → Option (List T)) (x131 : Int) : Option (List T) :=
 bif iLt x131 (l0_0.length : Int) then
  bif inR x131 l0_0.length then
  bif (asI (T.cell (l0_0.getD x131.toNat T.u) 0)) == n1 then
   some [T.i .i64 0, T.i .i64 x131]
  else
   L (IntKind.wrap .i64 (x131 + 1))
  else none
 else
  some [T.i .i64 1]
def f45_0_c (l0_0 : List T) (n1 n0_1 x131 : Int) : CSt := ⟨[.i .i64 n1, .bp 3 0, .i .i64 x131], [.dead, .dead, .dead, .box [.ro 0 true [.i .i64, .i .i64, .i .i64, .sl false [.i .u8], .sl true [.s, .i .i64], .sl true [.s, .s]] l0_0, .i .i64 n0_1]]⟩
theorem f45_0_round (c : Orc) (lf : Nat) (l0_0 : List T) (n1 n0_1 : Int) (L : CSt → Option (List T)) (x131 : Int) :
 qa8 c env lf 6 fi45 3 2 [] [1, 2, 5] (x45_2_0) L (f45_0_c l0_0 n1 n0_1 x131) = f45_0_s c lf l0_0 n1 n0_1 (fun x131 => L (f45_0_c l0_0 n1 n0_1 x131)) x131 := by kernel_rfl
def f45_0 (c : Orc) (lf : Nat) (l0_0 : List T) (n1 n0_1 : Int) : Nat → Int → Option (List T)
 | 0 => fun _ => none
 | n + 1 => fun x131 => f45_0_s c lf l0_0 n1 n0_1 (f45_0 c lf l0_0 n1 n0_1 n) x131
theorem f45_0_u (c : Orc) (lf : Nat) (l0_0 : List T) (n1 n0_1 : Int) (n : Nat) (x131 : Int) : f45_0 c lf l0_0 n1 n0_1 (n + 1) x131 = f45_0_s c lf l0_0 n1 n0_1 (f45_0 c lf l0_0 n1 n0_1 n) x131 := rfl
theorem f45_0_eq (c : Orc) (lf : Nat) (l0_0 : List T) (n1 n0_1 : Int) (n : Nat) (x131 : Int) :
 lpK c env lf 6 fi45 3 2 [] [1, 2, 5] (x45_2_0) n (f45_0_c l0_0 n1 n0_1 x131) = f45_0 c lf l0_0 n1 n0_1 n x131 := by
 induction n generalizing x131 with
 | zero => rfl
 | succ n ih =>
  refine (f45_0_round c lf l0_0 n1 n0_1 _ x131).trans ?_
  have e : (fun x131 => lpK c env lf 6 fi45 3 2 [] [1, 2, 5] (x45_2_0) n (f45_0_c l0_0 n1 n0_1 x131)) = f45_0 c lf l0_0 n1 n0_1 n := by funext x131; exact ih x131
  show f45_0_s c lf l0_0 n1 n0_1 (fun x131 => lpK c env lf 6 fi45 3 2 [] [1, 2, 5] (x45_2_0) n (f45_0_c l0_0 n1 n0_1 x131)) x131 = _
  rw [e]; rfl
def f45_t (c : Orc) (lf : Nat) (lp0 : List T → Int → Int → Int → Option (List T)) (l0_0 : List T) (n0_1 : Int) (n1 : Int) : Option (List T) :=
 (lp0 l0_0 n1 n0_1 0).bind fun r132 =>
 bif asI (nth r132 0) == 0 then
  some [T.i .i64 (asI (nth r132 1))]
 else
  some [T.i .i64 (-1)]
def f45 (c : Orc) (lf : Nat) (l0_0 : List T) (n0_1 n1 : Int) : Option (List T) := f45_t c lf (fun (l0_0 : List T) (n1 n0_1 x131 : Int) => f45_0 c lf l0_0 n1 n0_1 lf x131) l0_0 n0_1 n1
theorem f45_raw (c : Orc) (lf : Nat) (l0_0 : List T) (n0_1 n1 : Int) : funK c env lf 6 fi45 [.st [.sl l0_0, .i .i64 n0_1], .i .i64 n1] = f45_t c lf (fun (l0_0 : List T) (n1 n0_1 x131 : Int) => lpK c env lf 6 fi45 3 2 [] [1, 2, 5] (x45_2_0) lf (f45_0_c l0_0 n1 n0_1 x131)) l0_0 n0_1 n1 := by kernel_rfl
theorem f45_eq (c : Orc) (lf : Nat) (l0_0 : List T) (n0_1 n1 : Int) : funK c env lf 6 fi45 [.st [.sl l0_0, .i .i64 n0_1], .i .i64 n1] = f45 c lf l0_0 n0_1 n1 := by
 refine (f45_raw c lf l0_0 n0_1 n1).trans ?_
 have e0 : (fun (l0_0 : List T) (n1 n0_1 x131 : Int) => lpK c env lf 6 fi45 3 2 [] [1, 2, 5] (x45_2_0) lf (f45_0_c l0_0 n1 n0_1 x131)) = (fun (l0_0 : List T) (n1 n0_1 x131 : Int) => f45_0 c lf l0_0 n1 n0_1 lf x131) := by funext l0_0 n1 n0_1 x131; exact f45_0_eq c lf l0_0 n1 n0_1 lf x131
 rw [e0]; rfl
def f72_t (c : Orc) (lf : Nat) (n0_0 n0_1 n0_2 : Int) (l0_3 l0_4 l0_5 : List T) : Option (List T) :=
 bif nLe (([] : List T).length + l0_3.length) LIM then
 bif nLe (([] : List T).length + l0_4.length) LIM then
 bif nLe (([] : List T).length + l0_5.length) LIM then
 some [T.st [T.i .i64 n0_0, T.i .i64 n0_1, T.i .i64 n0_2, T.sl (([] : List T) ++ l0_3), T.sl (([] : List T) ++ l0_4), T.sl (([] : List T) ++ l0_5)]]
 else none
 else none
 else none
def f72 (c : Orc) (lf : Nat) (n0_0 n0_1 n0_2 : Int) (l0_3 l0_4 l0_5 : List T) : Option (List T) := f72_t c lf n0_0 n0_1 n0_2 l0_3 l0_4 l0_5
theorem f72_eq (c : Orc) (lf : Nat) (n0_0 n0_1 n0_2 : Int) (l0_3 l0_4 l0_5 : List T) : funK c env lf 6 fi72 [.st [.i .i64 n0_0, .i .i64 n0_1, .i .i64 n0_2, .sl l0_3, .sl l0_4, .sl l0_5]] = f72 c lf n0_0 n0_1 n0_2 l0_3 l0_4 l0_5 := by kernel_rfl
def f46_t (c : Orc) (lf : Nat) (l0_0 : List T) (n0_1 n1 : Int) : Option (List T) :=
 (c 45 [T.st [T.sl l0_0, T.i .i64 n0_1], T.i .i64 n1]).bind fun r133 =>
 bif iLt (asI (nth r133 0)) 0 then
  some [T.st [T.i .i64 0, T.i .i64 0, T.i .i64 0, T.sl [], T.sl [], T.sl []], T.b false]
 else
  bif inR (asI (nth r133 0)) l0_0.length then
  (c 72 [T.st [T.i .i64 (asI (T.cell (l0_0.getD ((asI (nth r133 0)).toNat) T.u) 0)), T.i .i64 (asI (T.cell (l0_0.getD ((asI (nth r133 0)).toNat) T.u) 1)), T.i .i64 (asI (T.cell (l0_0.getD ((asI (nth r133 0)).toNat) T.u) 2)), T.sl (asL (T.cell (l0_0.getD ((asI (nth r133 0)).toNat) T.u) 3)), T.sl (asL (T.cell (l0_0.getD ((asI (nth r133 0)).toNat) T.u) 4)), T.sl (asL (T.cell (l0_0.getD ((asI (nth r133 0)).toNat) T.u) 5))]]).bind fun r134 =>
  some [T.st [T.i .i64 (asI (T.cell (nth r134 0) 0)), T.i .i64 (asI (T.cell (nth r134 0) 1)), T.i .i64 (asI (T.cell (nth r134 0) 2)), T.sl (asL (T.cell (nth r134 0) 3)), T.sl (asL (T.cell (nth r134 0) 4)), T.sl (asL (T.cell (nth r134 0) 5))], T.b true]
  else none
def f46 (c : Orc) (lf : Nat) (l0_0 : List T) (n0_1 n1 : Int) : Option (List T) := f46_t c lf l0_0 n0_1 n1
theorem f46_eq (c : Orc) (lf : Nat) (l0_0 : List T) (n0_1 n1 : Int) : funK c env lf 6 fi46 [.st [.sl l0_0, .i .i64 n0_1], .i .i64 n1] = f46 c lf l0_0 n0_1 n1 := by kernel_rfl
def f121_0_s (c : Orc) (lf : Nat) (l0 : List T) (n1 : Int) (L : Int → Option (List T)) (x137 : Int) : Option (List T) :=
 bif iLt x137 (l0.length : Int) then
  bif inR x137 l0.length then
  bif (asI (l0.getD x137.toNat T.u)) == n1 then
   some [T.i .i64 0, T.b true]
  else
   L (IntKind.wrap .i64 (x137 + 1))
  else none
 else
  some [T.i .i64 1]
def f121_0_c (l0 : List T) (n1 x137 : Int) : CSt := ⟨[.ro 0 false [.i .i64] l0, .i .i64 n1, .i .i64 x137], [.dead, .dead]⟩
theorem f121_0_round (c : Orc) (lf : Nat) (l0 : List T) (n1 : Int) (L : CSt → Option (List T)) (x137 : Int) :
 qa8 c env lf 6 fi121 2 2 [] [0, 1, 5] (x121_2_0) L (f121_0_c l0 n1 x137) = f121_0_s c lf l0 n1 (fun x137 => L (f121_0_c l0 n1 x137)) x137 := by kernel_rfl
def f121_0 (c : Orc) (lf : Nat) (l0 : List T) (n1 : Int) : Nat → Int → Option (List T)
 | 0 => fun _ => none
 | n + 1 => fun x137 => f121_0_s c lf l0 n1 (f121_0 c lf l0 n1 n) x137
theorem f121_0_u (c : Orc) (lf : Nat) (l0 : List T) (n1 : Int) (n : Nat) (x137 : Int) : f121_0 c lf l0 n1 (n + 1) x137 = f121_0_s c lf l0 n1 (f121_0 c lf l0 n1 n) x137 := rfl
theorem f121_0_eq (c : Orc) (lf : Nat) (l0 : List T) (n1 : Int) (n : Nat) (x137 : Int) :
 lpK c env lf 6 fi121 2 2 [] [0, 1, 5] (x121_2_0) n (f121_0_c l0 n1 x137) = f121_0 c lf l0 n1 n x137 := by
 induction n generalizing x137 with
 | zero => rfl
 | succ n ih =>
  refine (f121_0_round c lf l0 n1 _ x137).trans ?_
  have e : (fun x137 => lpK c env lf 6 fi121 2 2 [] [0, 1, 5] (x121_2_0) n (f121_0_c l0 n1 x137)) = f121_0 c lf l0 n1 n := by funext x137; exact ih x137
  show f121_0_s c lf l0 n1 (fun x137 => lpK c env lf 6 fi121 2 2 [] [0, 1, 5] (x121_2_0) n (f121_0_c l0 n1 x137)) x137 = _
  rw [e]; rfl
def f121_t (c : Orc) (lf : Nat) (lp0 : List T → Int → Int → Option (List T)) (l0 : List T) (n1 : Int) : Option (List T) :=
 (lp0 l0 n1 0).bind fun r138 =>
 bif asI (nth r138 0) == 0 then
  some [T.b (asB (nth r138 1))]
 else
  some [T.b false]
def f121 (c : Orc) (lf : Nat) (l0 : List T) (n1 : Int) : Option (List T) := f121_t c lf (fun (l0 : List T) (n1 x137 : Int) => f121_0 c lf l0 n1 lf x137) l0 n1
theorem f121_raw (c : Orc) (lf : Nat) (l0 : List T) (n1 : Int) : funK c env lf 6 fi121 [.sl l0, .i .i64 n1] = f121_t c lf (fun (l0 : List T) (n1 x137 : Int) => lpK c env lf 6 fi121 2 2 [] [0, 1, 5] (x121_2_0) lf (f121_0_c l0 n1 x137)) l0 n1 := by kernel_rfl
theorem f121_eq (c : Orc) (lf : Nat) (l0 : List T) (n1 : Int) : funK c env lf 6 fi121 [.sl l0, .i .i64 n1] = f121 c lf l0 n1 := by
 refine (f121_raw c lf l0 n1).trans ?_
 have e0 : (fun (l0 : List T) (n1 x137 : Int) => lpK c env lf 6 fi121 2 2 [] [0, 1, 5] (x121_2_0) lf (f121_0_c l0 n1 x137)) = (fun (l0 : List T) (n1 x137 : Int) => f121_0 c lf l0 n1 lf x137) := by funext l0 n1 x137; exact f121_0_eq c lf l0 n1 lf x137
 rw [e0]; rfl
def f97_0_s (c : Orc) (lf : Nat) (n1 : Int) (L : Int → List T → Option (List T)) (x148 : Int) (x149 : List T) : Option (List T) :=
 bif iLt 0 x148 then
  bif inR (IntKind.wrap .i64 (x148 - 1)) x149.length then
  bif iLt n1 (asI (x149.getD ((IntKind.wrap .i64 (x148 - 1)).toNat) T.u)) then
   bif inR (IntKind.wrap .i64 (x148 - 1)) x149.length then
   bif inR x148 x149.length then
   L (IntKind.wrap .i64 (x148 - 1)) (x149.set x148.toNat (T.i .i64 (asI (x149.getD ((IntKind.wrap .i64 (x148 - 1)).toNat) T.u))))
   else none
   else none
  else
   some [T.i .i64 0, T.i .i64 n1, T.i .i64 x148, T.sl x149]
  else none
 else
  some [T.i .i64 0, T.i .i64 n1, T.i .i64 x148, T.sl x149]
def f97_0_c (n1 x148 : Int) (x149 : List T) : CSt := ⟨[.i .i64 n1, .rf 2 [] 0 none, .i .i64 x148], [.dead, .dead, .row false [.i .i64] x149 0 false]⟩
theorem f97_0_round (c : Orc) (lf : Nat) (n1 : Int) (L : CSt → Option (List T)) (x148 : Int) (x149 : List T) :
 qa8 c env lf 6 fi97 2 5 [] [1, 5, 6] (x97_5_0) L (f97_0_c n1 x148 x149) = f97_0_s c lf n1 (fun x148 x149 => L (f97_0_c n1 x148 x149)) x148 x149 := by kernel_rfl
def f97_0 (c : Orc) (lf : Nat) (n1 : Int) : Nat → Int → List T → Option (List T)
 | 0 => fun _ _ => none
 | n + 1 => fun x148 x149 => f97_0_s c lf n1 (f97_0 c lf n1 n) x148 x149
theorem f97_0_u (c : Orc) (lf : Nat) (n1 : Int) (n : Nat) (x148 : Int) (x149 : List T) : f97_0 c lf n1 (n + 1) x148 x149 = f97_0_s c lf n1 (f97_0 c lf n1 n) x148 x149 := rfl
theorem f97_0_eq (c : Orc) (lf : Nat) (n1 : Int) (n : Nat) (x148 : Int) (x149 : List T) :
 lpK c env lf 6 fi97 2 5 [] [1, 5, 6] (x97_5_0) n (f97_0_c n1 x148 x149) = f97_0 c lf n1 n x148 x149 := by
 induction n generalizing x148 x149 with
 | zero => rfl
 | succ n ih =>
  refine (f97_0_round c lf n1 _ x148 x149).trans ?_
  have e : (fun x148 x149 => lpK c env lf 6 fi97 2 5 [] [1, 5, 6] (x97_5_0) n (f97_0_c n1 x148 x149)) = f97_0 c lf n1 n := by funext x148 x149; exact ih x148 x149
  show f97_0_s c lf n1 (fun x148 x149 => lpK c env lf 6 fi97 2 5 [] [1, 5, 6] (x97_5_0) n (f97_0_c n1 x148 x149)) x148 x149 = _
  rw [e]; rfl
def f97_t (c : Orc) (lf : Nat) (lp0 : Int → Int → List T → Option (List T)) (l0 : List T) (n1 : Int) : Option (List T) :=
 (c 121 [T.sl l0, T.i .i64 n1]).bind fun r147 =>
 bif asB (nth r147 0) then
  some [T.sl l0]
 else
  bif nLe (([] : List T).length + l0.length) LIM then
  bif nLe ((([] : List T) ++ l0).length + ([T.i .i64 n1] : List T).length) LIM then
  (lp0 n1 (IntKind.wrap .i64 ((((([] : List T) ++ l0) ++ ([T.i .i64 n1] : List T)).length : Int) - 1)) ((([] : List T) ++ l0) ++ ([T.i .i64 n1] : List T))).bind fun r150 =>
  bif inR (asI (nth r150 2)) ((asL (nth r150 3)).length) then
  some [T.sl ((asL (nth r150 3)).set ((asI (nth r150 2)).toNat) (T.i .i64 (asI (nth r150 1))))]
  else none
  else none
  else none
def f97 (c : Orc) (lf : Nat) (l0 : List T) (n1 : Int) : Option (List T) := f97_t c lf (fun (n1 x148 : Int) (x149 : List T) => f97_0 c lf n1 lf x148 x149) l0 n1
theorem f97_raw (c : Orc) (lf : Nat) (l0 : List T) (n1 : Int) : funK c env lf 6 fi97 [.sl l0, .i .i64 n1] = f97_t c lf (fun (n1 x148 : Int) (x149 : List T) => lpK c env lf 6 fi97 2 5 [] [1, 5, 6] (x97_5_0) lf (f97_0_c n1 x148 x149)) l0 n1 := by kernel_rfl
theorem f97_eq (c : Orc) (lf : Nat) (l0 : List T) (n1 : Int) : funK c env lf 6 fi97 [.sl l0, .i .i64 n1] = f97 c lf l0 n1 := by
 refine (f97_raw c lf l0 n1).trans ?_
 have e0 : (fun (n1 x148 : Int) (x149 : List T) => lpK c env lf 6 fi97 2 5 [] [1, 5, 6] (x97_5_0) lf (f97_0_c n1 x148 x149)) = (fun (n1 x148 : Int) (x149 : List T) => f97_0 c lf n1 lf x148 x149) := by funext n1 x148 x149; exact f97_0_eq c lf n1 lf x148 x149
 rw [e0]; rfl
def f71_1_s (c : Orc) (lf : Nat) (r208 x203 : List T) (x205 : Int) (x206 : List T) (x207 : Int) (L : List T → Int → Option (List T)) (x211 : List T) (x212 : Int) : Option (List T) :=
 bif iLt x212 ((asL (T.cell (nth r208 0) 4)).length : Int) then
  bif asB (nth r208 1) then
   bif (asI (T.cell (nth r208 0) 1)) == 2 then
    bif inR x212 ((asL (T.cell (nth r208 0) 4)).length) then
    (c 45 [T.st [T.sl x206, T.i .i64 x207], T.i .i64 (asI (T.cell ((asL (T.cell (nth r208 0) 4)).getD x212.toNat T.u) 1))]).bind fun r213 =>
    bif iLe 0 (asI (nth r213 0)) then
     bif inR x212 ((asL (T.cell (nth r208 0) 4)).length) then
     (c 97 [T.sl x211, T.i .i64 (asI (T.cell ((asL (T.cell (nth r208 0) 4)).getD x212.toNat T.u) 1))]).bind fun r214 =>
     L (asL (nth r214 0)) (IntKind.wrap .i64 (x212 + 1))
     else none
    else
     L x211 (IntKind.wrap .i64 (x212 + 1))
    else none
   else
    some [T.i .i64 0, T.sl x203, T.sl x211, T.i .i64 x205, T.sl x206, T.i .i64 x207]
  else
   some [T.i .i64 0, T.sl x203, T.sl x211, T.i .i64 x205, T.sl x206, T.i .i64 x207]
 else
  some [T.i .i64 0, T.sl x203, T.sl x211, T.i .i64 x205, T.sl x206, T.i .i64 x207]
def f71_1_c (r208 x203 : List T) (x205 : Int) (x206 : List T) (x207 : Int) (x211 : List T) (x212 : Int) : CSt := ⟨[.ro 0 false [.i .i64] x203, .bp 3 0, .ro 0 false [.i .i64] x211, .i .i64 x205, .bp 4 0, .b (asB (nth r208 1)), .i .i64 x212], [.dead, .dead, .dead, .box [.ro 0 true [.i .i64, .i .i64, .i .i64, .sl false [.i .u8], .sl true [.s, .i .i64], .sl true [.s, .s]] x206, .i .i64 x207], .box [.i .i64 (asI (T.cell (nth r208 0) 0)), .i .i64 (asI (T.cell (nth r208 0) 1)), .i .i64 (asI (T.cell (nth r208 0) 2)), .rf 5 [] 0 none, .rf 6 [] 0 none, .rf 7 [] 0 none], .row false [.i .u8] (asL (T.cell (nth r208 0) 3)) 0 false, .row true [.s, .i .i64] (asL (T.cell (nth r208 0) 4)) 0 false, .row true [.s, .s] (asL (T.cell (nth r208 0) 5)) 0 false]⟩
theorem f71_1_round (c : Orc) (lf : Nat) (r208 x203 : List T) (x205 : Int) (x206 : List T) (x207 : Int) (L : CSt → Option (List T)) (x211 : List T) (x212 : Int) :
 qa8 c env lf 6 fi71 3 7 [] [1, 2, 5, 6, 7, 8, 9] (x71_7_0) L (f71_1_c r208 x203 x205 x206 x207 x211 x212) = f71_1_s c lf r208 x203 x205 x206 x207 (fun x211 x212 => L (f71_1_c r208 x203 x205 x206 x207 x211 x212)) x211 x212 := by kernel_rfl
def f71_1 (c : Orc) (lf : Nat) (r208 x203 : List T) (x205 : Int) (x206 : List T) (x207 : Int) : Nat → List T → Int → Option (List T)
 | 0 => fun _ _ => none
 | n + 1 => fun x211 x212 => f71_1_s c lf r208 x203 x205 x206 x207 (f71_1 c lf r208 x203 x205 x206 x207 n) x211 x212
theorem f71_1_u (c : Orc) (lf : Nat) (r208 x203 : List T) (x205 : Int) (x206 : List T) (x207 : Int) (n : Nat) (x211 : List T) (x212 : Int) : f71_1 c lf r208 x203 x205 x206 x207 (n + 1) x211 x212 = f71_1_s c lf r208 x203 x205 x206 x207 (f71_1 c lf r208 x203 x205 x206 x207 n) x211 x212 := rfl
theorem f71_1_eq (c : Orc) (lf : Nat) (r208 x203 : List T) (x205 : Int) (x206 : List T) (x207 : Int) (n : Nat) (x211 : List T) (x212 : Int) :
 lpK c env lf 6 fi71 3 7 [] [1, 2, 5, 6, 7, 8, 9] (x71_7_0) n (f71_1_c r208 x203 x205 x206 x207 x211 x212) = f71_1 c lf r208 x203 x205 x206 x207 n x211 x212 := by
 induction n generalizing x211 x212 with
 | zero => rfl
 | succ n ih =>
  refine (f71_1_round c lf r208 x203 x205 x206 x207 _ x211 x212).trans ?_
  have e : (fun x211 x212 => lpK c env lf 6 fi71 3 7 [] [1, 2, 5, 6, 7, 8, 9] (x71_7_0) n (f71_1_c r208 x203 x205 x206 x207 x211 x212)) = f71_1 c lf r208 x203 x205 x206 x207 n := by funext x211 x212; exact ih x211 x212
  show f71_1_s c lf r208 x203 x205 x206 x207 (fun x211 x212 => lpK c env lf 6 fi71 3 7 [] [1, 2, 5, 6, 7, 8, 9] (x71_7_0) n (f71_1_c r208 x203 x205 x206 x207 x211 x212)) x211 x212 = _
  rw [e]; rfl
def f71_0_s (c : Orc) (lf : Nat) (L : List T → List T → Int → List T → Int → Option (List T)) (lp0 : List T → List T → Int → List T → Int → List T → Int → Option (List T)) (x203 : List T) (x204 : List T) (x205 : Int) (x206 : List T) (x207 : Int) : Option (List T) :=
 bif iLt x205 (x203.length : Int) then
  bif inR x205 x203.length then
  (c 46 [T.st [T.sl x206, T.i .i64 x207], T.i .i64 (asI (x203.getD x205.toNat T.u))]).bind fun r208 =>
  (lp0 r208 x203 x205 x206 x207 x204 0).bind fun r215 =>
  L (asL (nth r215 1)) (asL (nth r215 2)) (IntKind.wrap .i64 ((asI (nth r215 3)) + 1)) (asL (nth r215 4)) (asI (nth r215 5))
  else none
 else
  some [T.i .i64 0, T.sl x204]
def f71_0_c (x203 x204 : List T) (x205 : Int) (x206 : List T) (x207 : Int) : CSt := ⟨[.ro 0 false [.i .i64] x203, .bp 3 0, .ro 0 false [.i .i64] x204, .i .i64 x205], [.dead, .dead, .dead, .box [.ro 0 true [.i .i64, .i .i64, .i .i64, .sl false [.i .u8], .sl true [.s, .i .i64], .sl true [.s, .s]] x206, .i .i64 x207]]⟩
theorem f71_0_round (c : Orc) (lf : Nat) (L : CSt → Option (List T)) (x203 : List T) (x204 : List T) (x205 : Int) (x206 : List T) (x207 : Int) :
 qa8 c env lf 6 fi71 3 3 [] [1, 2, 5, 6] (x71_3_0) L (f71_0_c x203 x204 x205 x206 x207) = f71_0_s c lf (fun x203 x204 x205 x206 x207 => L (f71_0_c x203 x204 x205 x206 x207)) (fun (r208 x203 : List T) (x205 : Int) (x206 : List T) (x207 : Int) (x211 : List T) (x212 : Int) => lpK c env lf 6 fi71 3 7 [] [1, 2, 5, 6, 7, 8, 9] (x71_7_0) lf (f71_1_c r208 x203 x205 x206 x207 x211 x212)) x203 x204 x205 x206 x207 := by kernel_rfl
def f71_0 (c : Orc) (lf : Nat) : Nat → List T → List T → Int → List T → Int → Option (List T)
 | 0 => fun _ _ _ _ _ => none
 | n + 1 => fun x203 x204 x205 x206 x207 => f71_0_s c lf (f71_0 c lf n) (fun (r208 x203 : List T) (x205 : Int) (x206 : List T) (x207 : Int) (x211 : List T) (x212 : Int) => f71_1 c lf r208 x203 x205 x206 x207 lf x211 x212) x203 x204 x205 x206 x207
theorem f71_0_u (c : Orc) (lf n : Nat) (x203 x204 : List T) (x205 : Int) (x206 : List T) (x207 : Int) : f71_0 c lf (n + 1) x203 x204 x205 x206 x207 = f71_0_s c lf (f71_0 c lf n) (fun (r208 x203 : List T) (x205 : Int) (x206 : List T) (x207 : Int) (x211 : List T) (x212 : Int) => f71_1 c lf r208 x203 x205 x206 x207 lf x211 x212) x203 x204 x205 x206 x207 := rfl
theorem f71_0_eq (c : Orc) (lf n : Nat) (x203 x204 : List T) (x205 : Int) (x206 : List T) (x207 : Int) :
 lpK c env lf 6 fi71 3 3 [] [1, 2, 5, 6] (x71_3_0) n (f71_0_c x203 x204 x205 x206 x207) = f71_0 c lf n x203 x204 x205 x206 x207 := by
 induction n generalizing x203 x204 x205 x206 x207 with
 | zero => rfl
 | succ n ih =>
  refine (f71_0_round c lf _ x203 x204 x205 x206 x207).trans ?_
  have e : (fun x203 x204 x205 x206 x207 => lpK c env lf 6 fi71 3 3 [] [1, 2, 5, 6] (x71_3_0) n (f71_0_c x203 x204 x205 x206 x207)) = f71_0 c lf n := by funext x203 x204 x205 x206 x207; exact ih x203 x204 x205 x206 x207
  have e0 : (fun (r208 x203 : List T) (x205 : Int) (x206 : List T) (x207 : Int) (x211 : List T) (x212 : Int) => lpK c env lf 6 fi71 3 7 [] [1, 2, 5, 6, 7, 8, 9] (x71_7_0) lf (f71_1_c r208 x203 x205 x206 x207 x211 x212)) = (fun (r208 x203 : List T) (x205 : Int) (x206 : List T) (x207 : Int) (x211 : List T) (x212 : Int) => f71_1 c lf r208 x203 x205 x206 x207 lf x211 x212) := by funext r208 x203 x205 x206 x207 x211 x212; exact f71_1_eq c lf r208 x203 x205 x206 x207 lf x211 x212
  show f71_0_s c lf (fun x203 x204 x205 x206 x207 => lpK c env lf 6 fi71 3 3 [] [1, 2, 5, 6] (x71_3_0) n (f71_0_c x203 x204 x205 x206 x207)) (fun (r208 x203 : List T) (x205 : Int) (x206 : List T) (x207 : Int) (x211 : List T) (x212 : Int) => lpK c env lf 6 fi71 3 7 [] [1, 2, 5, 6, 7, 8, 9] (x71_7_0) lf (f71_1_c r208 x203 x205 x206 x207 x211 x212)) x203 x204 x205 x206 x207 = _
  rw [e, e0]; rfl
def f71_t (c : Orc) (lf : Nat) (lp0 : List T → List T → Int → List T → Int → Option (List T)) (l0_0 : List T) (n0_1 : Int) (l1 : List T) : Option (List T) :=
 (lp0 l1 l1 0 l0_0 n0_1).bind fun r216 =>
 some [T.sl (asL (nth r216 1))]
def f71 (c : Orc) (lf : Nat) (l0_0 : List T) (n0_1 : Int) (l1 : List T) : Option (List T) := f71_t c lf (fun (x203 x204 : List T) (x205 : Int) (x206 : List T) (x207 : Int) => f71_0 c lf lf x203 x204 x205 x206 x207) l0_0 n0_1 l1
theorem f71_raw (c : Orc) (lf : Nat) (l0_0 : List T) (n0_1 : Int) (l1 : List T) : funK c env lf 6 fi71 [.st [.sl l0_0, .i .i64 n0_1], .sl l1] = f71_t c lf (fun (x203 x204 : List T) (x205 : Int) (x206 : List T) (x207 : Int) => lpK c env lf 6 fi71 3 3 [] [1, 2, 5, 6] (x71_3_0) lf (f71_0_c x203 x204 x205 x206 x207)) l0_0 n0_1 l1 := by kernel_rfl
theorem f71_eq (c : Orc) (lf : Nat) (l0_0 : List T) (n0_1 : Int) (l1 : List T) : funK c env lf 6 fi71 [.st [.sl l0_0, .i .i64 n0_1], .sl l1] = f71 c lf l0_0 n0_1 l1 := by
 refine (f71_raw c lf l0_0 n0_1 l1).trans ?_
 have e0 : (fun (x203 x204 : List T) (x205 : Int) (x206 : List T) (x207 : Int) => lpK c env lf 6 fi71 3 3 [] [1, 2, 5, 6] (x71_3_0) lf (f71_0_c x203 x204 x205 x206 x207)) = (fun (x203 x204 : List T) (x205 : Int) (x206 : List T) (x207 : Int) => f71_0 c lf lf x203 x204 x205 x206 x207) := by funext x203 x204 x205 x206 x207; exact f71_0_eq c lf lf x203 x204 x205 x206 x207
 rw [e0]; rfl
def f43_0_s (c : Orc) (lf : Nat) (l0_0 : List T) (n0_1 : Int) (L : List T → Int → Option (List T)) (x231 : List T) (x232 : Int) : Option (List T) :=
 bif iLt x232 (l0_0.length : Int) then
  (c 71 [T.st [T.sl l0_0, T.i .i64 n0_1], T.sl x231]).bind fun r233 =>
  L (asL (nth r233 0)) (IntKind.wrap .i64 (x232 + 1))
 else
  some [T.i .i64 0, T.sl x231]
def f43_0_c (l0_0 : List T) (n0_1 : Int) (x231 : List T) (x232 : Int) : CSt := ⟨[.bp 2 0, .ro 0 false [.i .i64] x231, .i .i64 x232], [.dead, .dead, .box [.ro 0 true [.i .i64, .i .i64, .i .i64, .sl false [.i .u8], .sl true [.s, .i .i64], .sl true [.s, .s]] l0_0, .i .i64 n0_1]]⟩
theorem f43_0_round (c : Orc) (lf : Nat) (l0_0 : List T) (n0_1 : Int) (L : CSt → Option (List T)) (x231 : List T) (x232 : Int) :
 qa8 c env lf 6 fi43 2 6 [(3, 0)] [1, 3, 4] (x43_6_0) L (f43_0_c l0_0 n0_1 x231 x232) = f43_0_s c lf l0_0 n0_1 (fun x231 x232 => L (f43_0_c l0_0 n0_1 x231 x232)) x231 x232 := by kernel_rfl
def f43_0 (c : Orc) (lf : Nat) (l0_0 : List T) (n0_1 : Int) : Nat → List T → Int → Option (List T)
 | 0 => fun _ _ => none
 | n + 1 => fun x231 x232 => f43_0_s c lf l0_0 n0_1 (f43_0 c lf l0_0 n0_1 n) x231 x232
theorem f43_0_u (c : Orc) (lf : Nat) (l0_0 : List T) (n0_1 : Int) (n : Nat) (x231 : List T) (x232 : Int) : f43_0 c lf l0_0 n0_1 (n + 1) x231 x232 = f43_0_s c lf l0_0 n0_1 (f43_0 c lf l0_0 n0_1 n) x231 x232 := rfl
theorem f43_0_eq (c : Orc) (lf : Nat) (l0_0 : List T) (n0_1 : Int) (n : Nat) (x231 : List T) (x232 : Int) :
 lpK c env lf 6 fi43 2 6 [(3, 0)] [1, 3, 4] (x43_6_0) n (f43_0_c l0_0 n0_1 x231 x232) = f43_0 c lf l0_0 n0_1 n x231 x232 := by
 induction n generalizing x231 x232 with
 | zero => rfl
 | succ n ih =>
  refine (f43_0_round c lf l0_0 n0_1 _ x231 x232).trans ?_
  have e : (fun x231 x232 => lpK c env lf 6 fi43 2 6 [(3, 0)] [1, 3, 4] (x43_6_0) n (f43_0_c l0_0 n0_1 x231 x232)) = f43_0 c lf l0_0 n0_1 n := by funext x231 x232; exact ih x231 x232
  show f43_0_s c lf l0_0 n0_1 (fun x231 x232 => lpK c env lf 6 fi43 2 6 [(3, 0)] [1, 3, 4] (x43_6_0) n (f43_0_c l0_0 n0_1 x231 x232)) x231 x232 = _
  rw [e]; rfl
def f43_t (c : Orc) (lf : Nat) (lp0 : List T → Int → List T → Int → Option (List T)) (l0_0 : List T) (n0_1 : Int) : Option (List T) :=
 (c 45 [T.st [T.sl l0_0, T.i .i64 n0_1], T.i .i64 1]).bind fun r229 =>
 bif iLt (asI (nth r229 0)) 0 then
  some [T.sl ([] : List T)]
 else
  bif nLe (([] : List T).length + ([T.i .i64 1] : List T).length) LIM then
  (lp0 l0_0 n0_1 (([] : List T) ++ ([T.i .i64 1] : List T)) 0).bind fun r234 =>
  some [T.sl (asL (nth r234 1))]
  else none
def f43 (c : Orc) (lf : Nat) (l0_0 : List T) (n0_1 : Int) : Option (List T) := f43_t c lf (fun (l0_0 : List T) (n0_1 : Int) (x231 : List T) (x232 : Int) => f43_0 c lf l0_0 n0_1 lf x231 x232) l0_0 n0_1
theorem f43_raw (c : Orc) (lf : Nat) (l0_0 : List T) (n0_1 : Int) : funK c env lf 6 fi43 [.st [.sl l0_0, .i .i64 n0_1]] = f43_t c lf (fun (l0_0 : List T) (n0_1 : Int) (x231 : List T) (x232 : Int) => lpK c env lf 6 fi43 2 6 [(3, 0)] [1, 3, 4] (x43_6_0) lf (f43_0_c l0_0 n0_1 x231 x232)) l0_0 n0_1 := by kernel_rfl
theorem f43_eq (c : Orc) (lf : Nat) (l0_0 : List T) (n0_1 : Int) : funK c env lf 6 fi43 [.st [.sl l0_0, .i .i64 n0_1]] = f43 c lf l0_0 n0_1 := by
 refine (f43_raw c lf l0_0 n0_1).trans ?_
 have e0 : (fun (l0_0 : List T) (n0_1 : Int) (x231 : List T) (x232 : Int) => lpK c env lf 6 fi43 2 6 [(3, 0)] [1, 3, 4] (x43_6_0) lf (f43_0_c l0_0 n0_1 x231 x232)) = (fun (l0_0 : List T) (n0_1 : Int) (x231 : List T) (x232 : Int) => f43_0 c lf l0_0 n0_1 lf x231 x232) := by funext l0_0 n0_1 x231 x232; exact f43_0_eq c lf l0_0 n0_1 lf x231 x232
 rw [e0]; rfl
def f44_1_s (c : Orc) (lf : Nat) (x250 x252 : Int) (x253 : List T) (x254 : Int) (L : Int → Int → Option (List T)) (x255 : Int) (x256 : Int) : Option (List T) :=
 bif inR x252 x253.length then
 bif iLt x256 ((asL (T.cell (x253.getD x252.toNat T.u) 4)).length : Int) then
  bif inR x252 x253.length then
  bif (asI (T.cell (x253.getD x252.toNat T.u) 1)) == 2 then
   bif inR x252 x253.length then
   bif inR x256 ((asL (T.cell (x253.getD x252.toNat T.u) 4)).length) then
   bif (asI (T.cell ((asL (T.cell (x253.getD x252.toNat T.u) 4)).getD x256.toNat T.u) 1)) == x250 then
    L (IntKind.wrap .i64 (x255 + 1)) (IntKind.wrap .i64 (x256 + 1))
   else
    L x255 (IntKind.wrap .i64 (x256 + 1))
   else none
   else none
  else
   some [T.i .i64 0, T.i .i64 x250, T.i .i64 x255, T.i .i64 x252, T.sl x253, T.i .i64 x254]
  else none
 else
  some [T.i .i64 0, T.i .i64 x250, T.i .i64 x255, T.i .i64 x252, T.sl x253, T.i .i64 x254]
 else none
def f44_1_c (x250 x252 : Int) (x253 : List T) (x254 x255 x256 : Int) : CSt := ⟨[.i .i64 x250, .bp 3 0, .i .i64 x255, .i .i64 x252, .i .i64 x256], [.dead, .dead, .dead, .box [.ro 0 true [.i .i64, .i .i64, .i .i64, .sl false [.i .u8], .sl true [.s, .i .i64], .sl true [.s, .s]] x253, .i .i64 x254]]⟩
theorem f44_1_round (c : Orc) (lf : Nat) (x250 x252 : Int) (x253 : List T) (x254 : Int) (L : CSt → Option (List T)) (x255 : Int) (x256 : Int) :
 qa8 c env lf 6 fi44 3 6 [] [1, 2, 5, 6, 7] (x44_6_0) L (f44_1_c x250 x252 x253 x254 x255 x256) = f44_1_s c lf x250 x252 x253 x254 (fun x255 x256 => L (f44_1_c x250 x252 x253 x254 x255 x256)) x255 x256 := by kernel_rfl
def f44_1 (c : Orc) (lf : Nat) (x250 x252 : Int) (x253 : List T) (x254 : Int) : Nat → Int → Int → Option (List T)
 | 0 => fun _ _ => none
 | n + 1 => fun x255 x256 => f44_1_s c lf x250 x252 x253 x254 (f44_1 c lf x250 x252 x253 x254 n) x255 x256
theorem f44_1_u (c : Orc) (lf : Nat) (x250 x252 : Int) (x253 : List T) (x254 : Int) (n : Nat) (x255 x256 : Int) : f44_1 c lf x250 x252 x253 x254 (n + 1) x255 x256 = f44_1_s c lf x250 x252 x253 x254 (f44_1 c lf x250 x252 x253 x254 n) x255 x256 := rfl
theorem f44_1_eq (c : Orc) (lf : Nat) (x250 x252 : Int) (x253 : List T) (x254 : Int) (n : Nat) (x255 x256 : Int) :
 lpK c env lf 6 fi44 3 6 [] [1, 2, 5, 6, 7] (x44_6_0) n (f44_1_c x250 x252 x253 x254 x255 x256) = f44_1 c lf x250 x252 x253 x254 n x255 x256 := by
 induction n generalizing x255 x256 with
 | zero => rfl
 | succ n ih =>
  refine (f44_1_round c lf x250 x252 x253 x254 _ x255 x256).trans ?_
  have e : (fun x255 x256 => lpK c env lf 6 fi44 3 6 [] [1, 2, 5, 6, 7] (x44_6_0) n (f44_1_c x250 x252 x253 x254 x255 x256)) = f44_1 c lf x250 x252 x253 x254 n := by funext x255 x256; exact ih x255 x256
  show f44_1_s c lf x250 x252 x253 x254 (fun x255 x256 => lpK c env lf 6 fi44 3 6 [] [1, 2, 5, 6, 7] (x44_6_0) n (f44_1_c x250 x252 x253 x254 x255 x256)) x255 x256 = _
  rw [e]; rfl
def f44_0_s (c : Orc) (lf : Nat) (L : Int → Int → Int → List T → Int → Option (List T)) (lp0 : Int → Int → List T → Int → Int → Int → Option (List T)) (x250 : Int) (x251 : Int) (x252 : Int) (x253 : List T) (x254 : Int) : Option (List T) :=
 bif iLt x252 (x253.length : Int) then
  (lp0 x250 x252 x253 x254 x251 0).bind fun r257 =>
  L (asI (nth r257 1)) (asI (nth r257 2)) (IntKind.wrap .i64 ((asI (nth r257 3)) + 1)) (asL (nth r257 4)) (asI (nth r257 5))
 else
  some [T.i .i64 0, T.i .i64 x251]
def f44_0_c (x250 x251 x252 : Int) (x253 : List T) (x254 : Int) : CSt := ⟨[.i .i64 x250, .bp 3 0, .i .i64 x251, .i .i64 x252], [.dead, .dead, .dead, .box [.ro 0 true [.i .i64, .i .i64, .i .i64, .sl false [.i .u8], .sl true [.s, .i .i64], .sl true [.s, .s]] x253, .i .i64 x254]]⟩
theorem f44_0_round (c : Orc) (lf : Nat) (L : CSt → Option (List T)) (x250 : Int) (x251 : Int) (x252 : Int) (x253 : List T) (x254 : Int) :
 qa8 c env lf 6 fi44 3 3 [] [1, 2, 5, 6] (x44_3_0) L (f44_0_c x250 x251 x252 x253 x254) = f44_0_s c lf (fun x250 x251 x252 x253 x254 => L (f44_0_c x250 x251 x252 x253 x254)) (fun (x250 x252 : Int) (x253 : List T) (x254 x255 x256 : Int) => lpK c env lf 6 fi44 3 6 [] [1, 2, 5, 6, 7] (x44_6_0) lf (f44_1_c x250 x252 x253 x254 x255 x256)) x250 x251 x252 x253 x254 := by kernel_rfl
def f44_0 (c : Orc) (lf : Nat) : Nat → Int → Int → Int → List T → Int → Option (List T)
 | 0 => fun _ _ _ _ _ => none
 | n + 1 => fun x250 x251 x252 x253 x254 => f44_0_s c lf (f44_0 c lf n) (fun (x250 x252 : Int) (x253 : List T) (x254 x255 x256 : Int) => f44_1 c lf x250 x252 x253 x254 lf x255 x256) x250 x251 x252 x253 x254
theorem f44_0_u (c : Orc) (lf n : Nat) (x250 x251 x252 : Int) (x253 : List T) (x254 : Int) : f44_0 c lf (n + 1) x250 x251 x252 x253 x254 = f44_0_s c lf (f44_0 c lf n) (fun (x250 x252 : Int) (x253 : List T) (x254 x255 x256 : Int) => f44_1 c lf x250 x252 x253 x254 lf x255 x256) x250 x251 x252 x253 x254 := rfl
theorem f44_0_eq (c : Orc) (lf n : Nat) (x250 x251 x252 : Int) (x253 : List T) (x254 : Int) :
 lpK c env lf 6 fi44 3 3 [] [1, 2, 5, 6] (x44_3_0) n (f44_0_c x250 x251 x252 x253 x254) = f44_0 c lf n x250 x251 x252 x253 x254 := by
 induction n generalizing x250 x251 x252 x253 x254 with
 | zero => rfl
 | succ n ih =>
  refine (f44_0_round c lf _ x250 x251 x252 x253 x254).trans ?_
  have e : (fun x250 x251 x252 x253 x254 => lpK c env lf 6 fi44 3 3 [] [1, 2, 5, 6] (x44_3_0) n (f44_0_c x250 x251 x252 x253 x254)) = f44_0 c lf n := by funext x250 x251 x252 x253 x254; exact ih x250 x251 x252 x253 x254
  have e0 : (fun (x250 x252 : Int) (x253 : List T) (x254 x255 x256 : Int) => lpK c env lf 6 fi44 3 6 [] [1, 2, 5, 6, 7] (x44_6_0) lf (f44_1_c x250 x252 x253 x254 x255 x256)) = (fun (x250 x252 : Int) (x253 : List T) (x254 x255 x256 : Int) => f44_1 c lf x250 x252 x253 x254 lf x255 x256) := by funext x250 x252 x253 x254 x255 x256; exact f44_1_eq c lf x250 x252 x253 x254 lf x255 x256
  show f44_0_s c lf (fun x250 x251 x252 x253 x254 => lpK c env lf 6 fi44 3 3 [] [1, 2, 5, 6] (x44_3_0) n (f44_0_c x250 x251 x252 x253 x254)) (fun (x250 x252 : Int) (x253 : List T) (x254 x255 x256 : Int) => lpK c env lf 6 fi44 3 6 [] [1, 2, 5, 6, 7] (x44_6_0) lf (f44_1_c x250 x252 x253 x254 x255 x256)) x250 x251 x252 x253 x254 = _
  rw [e, e0]; rfl
def f44_t (c : Orc) (lf : Nat) (lp0 : Int → Int → Int → List T → Int → Option (List T)) (l0_0 : List T) (n0_1 : Int) (n1 : Int) : Option (List T) :=
 (lp0 n1 0 0 l0_0 n0_1).bind fun r258 =>
 some [T.i .i64 (asI (nth r258 1))]
def f44 (c : Orc) (lf : Nat) (l0_0 : List T) (n0_1 n1 : Int) : Option (List T) := f44_t c lf (fun (x250 x251 x252 : Int) (x253 : List T) (x254 : Int) => f44_0 c lf lf x250 x251 x252 x253 x254) l0_0 n0_1 n1
theorem f44_raw (c : Orc) (lf : Nat) (l0_0 : List T) (n0_1 n1 : Int) : funK c env lf 6 fi44 [.st [.sl l0_0, .i .i64 n0_1], .i .i64 n1] = f44_t c lf (fun (x250 x251 x252 : Int) (x253 : List T) (x254 : Int) => lpK c env lf 6 fi44 3 3 [] [1, 2, 5, 6] (x44_3_0) lf (f44_0_c x250 x251 x252 x253 x254)) l0_0 n0_1 n1 := by kernel_rfl
theorem f44_eq (c : Orc) (lf : Nat) (l0_0 : List T) (n0_1 n1 : Int) : funK c env lf 6 fi44 [.st [.sl l0_0, .i .i64 n0_1], .i .i64 n1] = f44 c lf l0_0 n0_1 n1 := by
 refine (f44_raw c lf l0_0 n0_1 n1).trans ?_
 have e0 : (fun (x250 x251 x252 : Int) (x253 : List T) (x254 : Int) => lpK c env lf 6 fi44 3 3 [] [1, 2, 5, 6] (x44_3_0) lf (f44_0_c x250 x251 x252 x253 x254)) = (fun (x250 x251 x252 : Int) (x253 : List T) (x254 : Int) => f44_0 c lf lf x250 x251 x252 x253 x254) := by funext x250 x251 x252 x253 x254; exact f44_0_eq c lf lf x250 x251 x252 x253 x254
 rw [e0]; rfl
def f17_1_s (c : Orc) (lf : Nat) (x282 : Int) (x283 : List T) (x284 : Int) (L : Int → Option (List T)) (x287 : Int) : Option (List T) :=
 bif iLt x287 ((asL (T.cell (x283.getD x282.toNat T.u) 4)).length : Int) then
  bif inR x287 ((asL (T.cell (x283.getD x282.toNat T.u) 4)).length) then
  (c 45 [T.st [T.sl x283, T.i .i64 x284], T.i .i64 (asI (T.cell ((asL (T.cell (x283.getD x282.toNat T.u) 4)).getD x287.toNat T.u) 1))]).bind fun r288 =>
  bif iLt (asI (nth r288 0)) 0 then
   some [T.i .i64 0, T.b false]
  else
   L (IntKind.wrap .i64 (x287 + 1))
  else none
 else
  some [T.i .i64 1, T.i .i64 x282, T.sl x283, T.i .i64 x284]
def f17_1_c (x282 : Int) (x283 : List T) (x284 x287 : Int) : CSt := ⟨[.bp 2 0, .i .i64 x282, .bp 3 0, .i .i64 x287], [.dead, .dead, .box [.ro 0 true [.i .i64, .i .i64, .i .i64, .sl false [.i .u8], .sl true [.s, .i .i64], .sl true [.s, .s]] x283, .i .i64 x284], .box [.i .i64 (asI (T.cell (x283.getD x282.toNat T.u) 0)), .i .i64 (asI (T.cell (x283.getD x282.toNat T.u) 1)), .i .i64 (asI (T.cell (x283.getD x282.toNat T.u) 2)), .ro 0 false [.i .u8] (asL (T.cell (x283.getD x282.toNat T.u) 3)), .ro 0 true [.s, .i .i64] (asL (T.cell (x283.getD x282.toNat T.u) 4)), .ro 0 true [.s, .s] (asL (T.cell (x283.getD x282.toNat T.u) 5))]]⟩
theorem f17_1_round (c : Orc) (lf : Nat) (x282 : Int) (x283 : List T) (x284 : Int) (L : CSt → Option (List T)) (x287 : Int) :
 qa8 c env lf 6 fi17 2 10 [] [1, 3, 4, 5] (x17_10_0) L (f17_1_c x282 x283 x284 x287) = f17_1_s c lf x282 x283 x284 (fun x287 => L (f17_1_c x282 x283 x284 x287)) x287 := by kernel_rfl
def f17_1 (c : Orc) (lf : Nat) (x282 : Int) (x283 : List T) (x284 : Int) : Nat → Int → Option (List T)
 | 0 => fun _ => none
 | n + 1 => fun x287 => f17_1_s c lf x282 x283 x284 (f17_1 c lf x282 x283 x284 n) x287
theorem f17_1_u (c : Orc) (lf : Nat) (x282 : Int) (x283 : List T) (x284 : Int) (n : Nat) (x287 : Int) : f17_1 c lf x282 x283 x284 (n + 1) x287 = f17_1_s c lf x282 x283 x284 (f17_1 c lf x282 x283 x284 n) x287 := rfl
theorem f17_1_eq (c : Orc) (lf : Nat) (x282 : Int) (x283 : List T) (x284 : Int) (n : Nat) (x287 : Int) :
 lpK c env lf 6 fi17 2 10 [] [1, 3, 4, 5] (x17_10_0) n (f17_1_c x282 x283 x284 x287) = f17_1 c lf x282 x283 x284 n x287 := by
 induction n generalizing x287 with
 | zero => rfl
 | succ n ih =>
  refine (f17_1_round c lf x282 x283 x284 _ x287).trans ?_
  have e : (fun x287 => lpK c env lf 6 fi17 2 10 [] [1, 3, 4, 5] (x17_10_0) n (f17_1_c x282 x283 x284 x287)) = f17_1 c lf x282 x283 x284 n := by funext x287; exact ih x287
  show f17_1_s c lf x282 x283 x284 (fun x287 => lpK c env lf 6 fi17 2 10 [] [1, 3, 4, 5] (x17_10_0) n (f17_1_c x282 x283 x284 x287)) x287 = _
  rw [e]; rfl
def f17_0_s (c : Orc) (lf : Nat) (L : Int → List T → Int → Option (List T)) (lp0 : Int → List T → Int → Int → Option (List T)) (x282 : Int) (x283 : List T) (x284 : Int) : Option (List T) :=
 bif iLt x282 (x283.length : Int) then
  bif inR x282 x283.length then
  (c 44 [T.st [T.sl x283, T.i .i64 x284], T.i .i64 (asI (T.cell (x283.getD x282.toNat T.u) 0))]).bind fun r285 =>
  bif (asI (nth r285 0)) != (asI (T.cell (x283.getD x282.toNat T.u) 2)) then
   some [T.i .i64 0, T.b false]
  else
   (lp0 x282 x283 x284 0).bind fun r289 =>
   bif asI (nth r289 0) == 0 then
    some [T.i .i64 0, T.b (asB (nth r289 1))]
   else
    L (IntKind.wrap .i64 ((asI (nth r289 1)) + 1)) (asL (nth r289 2)) (asI (nth r289 3))
  else none
 else
  some [T.i .i64 1]
def f17_0_c (x282 : Int) (x283 : List T) (x284 : Int) : CSt := ⟨[.bp 2 0, .i .i64 x282], [.dead, .dead, .box [.ro 0 true [.i .i64, .i .i64, .i .i64, .sl false [.i .u8], .sl true [.s, .i .i64], .sl true [.s, .s]] x283, .i .i64 x284]]⟩
theorem f17_0_round (c : Orc) (lf : Nat) (L : CSt → Option (List T)) (x282 : Int) (x283 : List T) (x284 : Int) :
 qa8 c env lf 6 fi17 2 4 [] [1, 3] (x17_4_0) L (f17_0_c x282 x283 x284) = f17_0_s c lf (fun x282 x283 x284 => L (f17_0_c x282 x283 x284)) (fun (x282 : Int) (x283 : List T) (x284 x287 : Int) => lpK c env lf 6 fi17 2 10 [] [1, 3, 4, 5] (x17_10_0) lf (f17_1_c x282 x283 x284 x287)) x282 x283 x284 := by kernel_rfl
def f17_0 (c : Orc) (lf : Nat) : Nat → Int → List T → Int → Option (List T)
 | 0 => fun _ _ _ => none
 | n + 1 => fun x282 x283 x284 => f17_0_s c lf (f17_0 c lf n) (fun (x282 : Int) (x283 : List T) (x284 x287 : Int) => f17_1 c lf x282 x283 x284 lf x287) x282 x283 x284
theorem f17_0_u (c : Orc) (lf n : Nat) (x282 : Int) (x283 : List T) (x284 : Int) : f17_0 c lf (n + 1) x282 x283 x284 = f17_0_s c lf (f17_0 c lf n) (fun (x282 : Int) (x283 : List T) (x284 x287 : Int) => f17_1 c lf x282 x283 x284 lf x287) x282 x283 x284 := rfl
theorem f17_0_eq (c : Orc) (lf n : Nat) (x282 : Int) (x283 : List T) (x284 : Int) :
 lpK c env lf 6 fi17 2 4 [] [1, 3] (x17_4_0) n (f17_0_c x282 x283 x284) = f17_0 c lf n x282 x283 x284 := by
 induction n generalizing x282 x283 x284 with
 | zero => rfl
 | succ n ih =>
  refine (f17_0_round c lf _ x282 x283 x284).trans ?_
  have e : (fun x282 x283 x284 => lpK c env lf 6 fi17 2 4 [] [1, 3] (x17_4_0) n (f17_0_c x282 x283 x284)) = f17_0 c lf n := by funext x282 x283 x284; exact ih x282 x283 x284
  have e0 : (fun (x282 : Int) (x283 : List T) (x284 x287 : Int) => lpK c env lf 6 fi17 2 10 [] [1, 3, 4, 5] (x17_10_0) lf (f17_1_c x282 x283 x284 x287)) = (fun (x282 : Int) (x283 : List T) (x284 x287 : Int) => f17_1 c lf x282 x283 x284 lf x287) := by funext x282 x283 x284 x287; exact f17_1_eq c lf x282 x283 x284 lf x287
  show f17_0_s c lf (fun x282 x283 x284 => lpK c env lf 6 fi17 2 4 [] [1, 3] (x17_4_0) n (f17_0_c x282 x283 x284)) (fun (x282 : Int) (x283 : List T) (x284 x287 : Int) => lpK c env lf 6 fi17 2 10 [] [1, 3, 4, 5] (x17_10_0) lf (f17_1_c x282 x283 x284 x287)) x282 x283 x284 = _
  rw [e, e0]; rfl
def f17_t (c : Orc) (lf : Nat) (lp0 : Int → List T → Int → Option (List T)) (l0_0 : List T) (n0_1 : Int) : Option (List T) :=
 (c 42 [T.st [T.sl l0_0, T.i .i64 n0_1]]).bind fun r275 =>
 bif !(asB (nth r275 0)) then
  some [T.b false]
 else
  (c 43 [T.st [T.sl l0_0, T.i .i64 n0_1]]).bind fun r276 =>
  bif ((asL (nth r276 0)).length : Int) != (l0_0.length : Int) then
   some [T.b false]
  else
   (lp0 0 l0_0 n0_1).bind fun r290 =>
   bif asI (nth r290 0) == 0 then
    some [T.b (asB (nth r290 1))]
   else
    some [T.b true]
def f17 (c : Orc) (lf : Nat) (l0_0 : List T) (n0_1 : Int) : Option (List T) := f17_t c lf (fun (x282 : Int) (x283 : List T) (x284 : Int) => f17_0 c lf lf x282 x283 x284) l0_0 n0_1
theorem f17_raw (c : Orc) (lf : Nat) (l0_0 : List T) (n0_1 : Int) : funK c env lf 6 fi17 [.st [.sl l0_0, .i .i64 n0_1]] = f17_t c lf (fun (x282 : Int) (x283 : List T) (x284 : Int) => lpK c env lf 6 fi17 2 4 [] [1, 3] (x17_4_0) lf (f17_0_c x282 x283 x284)) l0_0 n0_1 := by kernel_rfl
theorem f17_eq (c : Orc) (lf : Nat) (l0_0 : List T) (n0_1 : Int) : funK c env lf 6 fi17 [.st [.sl l0_0, .i .i64 n0_1]] = f17 c lf l0_0 n0_1 := by
 refine (f17_raw c lf l0_0 n0_1).trans ?_
 have e0 : (fun (x282 : Int) (x283 : List T) (x284 : Int) => lpK c env lf 6 fi17 2 4 [] [1, 3] (x17_4_0) lf (f17_0_c x282 x283 x284)) = (fun (x282 : Int) (x283 : List T) (x284 : Int) => f17_0 c lf lf x282 x283 x284) := by funext x282 x283 x284; exact f17_0_eq c lf lf x282 x283 x284
 rw [e0]; rfl
def f19_t (c : Orc) (lf : Nat) (l0_0 : List T) (n0_1 : Int) : Option (List T) :=
 (c 46 [T.st [T.sl l0_0, T.i .i64 n0_1], T.i .i64 1]).bind fun r291 =>
 some [T.sl (asL (T.cell (nth r291 0) 5))]
def f19 (c : Orc) (lf : Nat) (l0_0 : List T) (n0_1 : Int) : Option (List T) := f19_t c lf l0_0 n0_1
theorem f19_eq (c : Orc) (lf : Nat) (l0_0 : List T) (n0_1 : Int) : funK c env lf 6 fi19 [.st [.sl l0_0, .i .i64 n0_1]] = f19 c lf l0_0 n0_1 := by kernel_rfl
def f18_0_s (c : Orc) (lf : Nat) (l0 l1 : List T) (L : Int → Option (List T)) (x294 : Int) : Option (List T) :=
 bif iLt x294 (l0.length : Int) then
  bif inR x294 l0.length then
  bif inR x294 l1.length then
  bif !(((asS (T.cell (l0.getD x294.toNat T.u) 0)) == (asS (T.cell (l1.getD x294.toNat T.u) 0))) && (((asS (T.cell (l0.getD x294.toNat T.u) 1)) == (asS (T.cell (l1.getD x294.toNat T.u) 1))) && (true))) then
   some [T.i .i64 0, T.b false]
  else
   L (IntKind.wrap .i64 (x294 + 1))
  else none
  else none
 else
  some [T.i .i64 1]
def f18_0_c (l0 l1 : List T) (x294 : Int) : CSt := ⟨[.ro 0 true [.s, .s] l0, .ro 0 true [.s, .s] l1, .i .i64 x294], [.dead, .dead]⟩
theorem f18_0_round (c : Orc) (lf : Nat) (l0 l1 : List T) (L : CSt → Option (List T)) (x294 : Int) :
 qa8 c env lf 6 fi18 2 4 [] [0, 1, 5] (x18_4_0) L (f18_0_c l0 l1 x294) = f18_0_s c lf l0 l1 (fun x294 => L (f18_0_c l0 l1 x294)) x294 := by kernel_rfl
def f18_0 (c : Orc) (lf : Nat) (l0 l1 : List T) : Nat → Int → Option (List T)
 | 0 => fun _ => none
 | n + 1 => fun x294 => f18_0_s c lf l0 l1 (f18_0 c lf l0 l1 n) x294
theorem f18_0_u (c : Orc) (lf : Nat) (l0 l1 : List T) (n : Nat) (x294 : Int) : f18_0 c lf l0 l1 (n + 1) x294 = f18_0_s c lf l0 l1 (f18_0 c lf l0 l1 n) x294 := rfl
theorem f18_0_eq (c : Orc) (lf : Nat) (l0 l1 : List T) (n : Nat) (x294 : Int) :
 lpK c env lf 6 fi18 2 4 [] [0, 1, 5] (x18_4_0) n (f18_0_c l0 l1 x294) = f18_0 c lf l0 l1 n x294 := by
 induction n generalizing x294 with
 | zero => rfl
 | succ n ih =>
  refine (f18_0_round c lf l0 l1 _ x294).trans ?_
  have e : (fun x294 => lpK c env lf 6 fi18 2 4 [] [0, 1, 5] (x18_4_0) n (f18_0_c l0 l1 x294)) = f18_0 c lf l0 l1 n := by funext x294; exact ih x294
  show f18_0_s c lf l0 l1 (fun x294 => lpK c env lf 6 fi18 2 4 [] [0, 1, 5] (x18_4_0) n (f18_0_c l0 l1 x294)) x294 = _
  rw [e]; rfl
def f18_t (c : Orc) (lf : Nat) (lp0 : List T → List T → Int → Option (List T)) (l0 : List T) (l1 : List T) : Option (List T) :=
 bif (l0.length : Int) != (l1.length : Int) then
  some [T.b false]
 else
  (lp0 l0 l1 0).bind fun r295 =>
  bif asI (nth r295 0) == 0 then
   some [T.b (asB (nth r295 1))]
  else
   some [T.b true]
def f18 (c : Orc) (lf : Nat) (l0 l1 : List T) : Option (List T) := f18_t c lf (fun (l0 l1 : List T) (x294 : Int) => f18_0 c lf l0 l1 lf x294) l0 l1
theorem f18_raw (c : Orc) (lf : Nat) (l0 l1 : List T) : funK c env lf 6 fi18 [.sl l0, .sl l1] = f18_t c lf (fun (l0 l1 : List T) (x294 : Int) => lpK c env lf 6 fi18 2 4 [] [0, 1, 5] (x18_4_0) lf (f18_0_c l0 l1 x294)) l0 l1 := by kernel_rfl
theorem f18_eq (c : Orc) (lf : Nat) (l0 l1 : List T) : funK c env lf 6 fi18 [.sl l0, .sl l1] = f18 c lf l0 l1 := by
 refine (f18_raw c lf l0 l1).trans ?_
 have e0 : (fun (l0 l1 : List T) (x294 : Int) => lpK c env lf 6 fi18 2 4 [] [0, 1, 5] (x18_4_0) lf (f18_0_c l0 l1 x294)) = (fun (l0 l1 : List T) (x294 : Int) => f18_0 c lf l0 l1 lf x294) := by funext l0 l1 x294; exact f18_0_eq c lf l0 l1 lf x294
 rw [e0]; rfl
def f56_0_s (c : Orc) (lf : Nat) (l0_0 : List T) (n0_1 : Int) (r302 : List T) (s2 : ByteArray) (L : Int → List T → Option (List T)) (x304 : Int) (x305 : List T) : Option (List T) :=
 bif iLt x304 ((asL (T.cell (nth r302 0) 4)).length : Int) then
  bif nLe (s2.size + (⟨#[47]⟩ : ByteArray).size) LIM then
  bif inR x304 ((asL (T.cell (nth r302 0) 4)).length) then
  bif nLe ((s2 ++ (⟨#[47]⟩ : ByteArray)).size + (asS (T.cell ((asL (T.cell (nth r302 0) 4)).getD x304.toNat T.u) 0)).size) LIM then
  bif nLe (x305.length + ([T.s ((s2 ++ (⟨#[47]⟩ : ByteArray)) ++ (asS (T.cell ((asL (T.cell (nth r302 0) 4)).getD x304.toNat T.u) 0)))] : List T).length) LIM then
  bif inR x304 ((asL (T.cell (nth r302 0) 4)).length) then
  (c 56 [T.st [T.sl l0_0, T.i .i64 n0_1], T.i .i64 (asI (T.cell ((asL (T.cell (nth r302 0) 4)).getD x304.toNat T.u) 1)), T.s ((s2 ++ (⟨#[47]⟩ : ByteArray)) ++ (asS (T.cell ((asL (T.cell (nth r302 0) 4)).getD x304.toNat T.u) 0))), T.st [T.sl (x305 ++ ([T.s ((s2 ++ (⟨#[47]⟩ : ByteArray)) ++ (asS (T.cell ((asL (T.cell (nth r302 0) 4)).getD x304.toNat T.u) 0)))] : List T))]]).bind fun r306 =>
  L (IntKind.wrap .i64 (x304 + 1)) (asL (T.cell (nth r306 0) 0))
  else none
  else none
  else none
  else none
  else none
 else
  some [T.i .i64 0, T.sl x305]
def f56_0_c (l0_0 : List T) (n0_1 : Int) (r302 : List T) (s2 : ByteArray) (x304 : Int) (x305 : List T) : CSt := ⟨[.s s2, .bp 4 0, .bp 6 0, .bp 7 0, .i .i64 x304], [.dead, .dead, .dead, .dead, .box [.rf 5 [] 0 none], .row false [.s] x305 0 false, .box [.ro 0 true [.i .i64, .i .i64, .i .i64, .sl false [.i .u8], .sl true [.s, .i .i64], .sl true [.s, .s]] l0_0, .i .i64 n0_1], .box [.i .i64 (asI (T.cell (nth r302 0) 0)), .i .i64 (asI (T.cell (nth r302 0) 1)), .i .i64 (asI (T.cell (nth r302 0) 2)), .rf 8 [] 0 none, .rf 9 [] 0 none, .rf 10 [] 0 none], .row false [.i .u8] (asL (T.cell (nth r302 0) 3)) 0 false, .row true [.s, .i .i64] (asL (T.cell (nth r302 0) 4)) 0 false, .row true [.s, .s] (asL (T.cell (nth r302 0) 5)) 0 false]⟩
theorem f56_0_round (c : Orc) (lf : Nat) (l0_0 : List T) (n0_1 : Int) (r302 : List T) (s2 : ByteArray) (L : CSt → Option (List T)) (x304 : Int) (x305 : List T) :
 qa8 c env lf 6 fi56 5 3 [] [2, 3, 4, 8, 10] (x56_3_0) L (f56_0_c l0_0 n0_1 r302 s2 x304 x305) = f56_0_s c lf l0_0 n0_1 r302 s2 (fun x304 x305 => L (f56_0_c l0_0 n0_1 r302 s2 x304 x305)) x304 x305 := by kernel_rfl
def f56_0 (c : Orc) (lf : Nat) (l0_0 : List T) (n0_1 : Int) (r302 : List T) (s2 : ByteArray) : Nat → Int → List T → Option (List T)
 | 0 => fun _ _ => none
 | n + 1 => fun x304 x305 => f56_0_s c lf l0_0 n0_1 r302 s2 (f56_0 c lf l0_0 n0_1 r302 s2 n) x304 x305
theorem f56_0_u (c : Orc) (lf : Nat) (l0_0 : List T) (n0_1 : Int) (r302 : List T) (s2 : ByteArray) (n : Nat) (x304 : Int) (x305 : List T) : f56_0 c lf l0_0 n0_1 r302 s2 (n + 1) x304 x305 = f56_0_s c lf l0_0 n0_1 r302 s2 (f56_0 c lf l0_0 n0_1 r302 s2 n) x304 x305 := rfl
theorem f56_0_eq (c : Orc) (lf : Nat) (l0_0 : List T) (n0_1 : Int) (r302 : List T) (s2 : ByteArray) (n : Nat) (x304 : Int) (x305 : List T) :
 lpK c env lf 6 fi56 5 3 [] [2, 3, 4, 8, 10] (x56_3_0) n (f56_0_c l0_0 n0_1 r302 s2 x304 x305) = f56_0 c lf l0_0 n0_1 r302 s2 n x304 x305 := by
 induction n generalizing x304 x305 with
 | zero => rfl
 | succ n ih =>
  refine (f56_0_round c lf l0_0 n0_1 r302 s2 _ x304 x305).trans ?_
  have e : (fun x304 x305 => lpK c env lf 6 fi56 5 3 [] [2, 3, 4, 8, 10] (x56_3_0) n (f56_0_c l0_0 n0_1 r302 s2 x304 x305)) = f56_0 c lf l0_0 n0_1 r302 s2 n := by funext x304 x305; exact ih x304 x305
  show f56_0_s c lf l0_0 n0_1 r302 s2 (fun x304 x305 => lpK c env lf 6 fi56 5 3 [] [2, 3, 4, 8, 10] (x56_3_0) n (f56_0_c l0_0 n0_1 r302 s2 x304 x305)) x304 x305 = _
  rw [e]; rfl
def f56_t (c : Orc) (lf : Nat) (lp0 : List T → Int → List T → ByteArray → Int → List T → Option (List T)) (l0_0 : List T) (n0_1 : Int) (n1 : Int) (s2 : ByteArray) (l3_0 : List T) : Option (List T) :=
 (c 46 [T.st [T.sl l0_0, T.i .i64 n0_1], T.i .i64 n1]).bind fun r302 =>
 (lp0 l0_0 n0_1 r302 s2 0 l3_0).bind fun r307 =>
 some [T.st [T.sl (asL (nth r307 1))]]
def f56 (c : Orc) (lf : Nat) (l0_0 : List T) (n0_1 n1 : Int) (s2 : ByteArray) (l3_0 : List T) : Option (List T) := f56_t c lf (fun (l0_0 : List T) (n0_1 : Int) (r302 : List T) (s2 : ByteArray) (x304 : Int) (x305 : List T) => f56_0 c lf l0_0 n0_1 r302 s2 lf x304 x305) l0_0 n0_1 n1 s2 l3_0
theorem f56_raw (c : Orc) (lf : Nat) (l0_0 : List T) (n0_1 n1 : Int) (s2 : ByteArray) (l3_0 : List T) : funK c env lf 6 fi56 [.st [.sl l0_0, .i .i64 n0_1], .i .i64 n1, .s s2, .st [.sl l3_0]] = f56_t c lf (fun (l0_0 : List T) (n0_1 : Int) (r302 : List T) (s2 : ByteArray) (x304 : Int) (x305 : List T) => lpK c env lf 6 fi56 5 3 [] [2, 3, 4, 8, 10] (x56_3_0) lf (f56_0_c l0_0 n0_1 r302 s2 x304 x305)) l0_0 n0_1 n1 s2 l3_0 := by kernel_rfl
theorem f56_eq (c : Orc) (lf : Nat) (l0_0 : List T) (n0_1 n1 : Int) (s2 : ByteArray) (l3_0 : List T) : funK c env lf 6 fi56 [.st [.sl l0_0, .i .i64 n0_1], .i .i64 n1, .s s2, .st [.sl l3_0]] = f56 c lf l0_0 n0_1 n1 s2 l3_0 := by
 refine (f56_raw c lf l0_0 n0_1 n1 s2 l3_0).trans ?_
 have e0 : (fun (l0_0 : List T) (n0_1 : Int) (r302 : List T) (s2 : ByteArray) (x304 : Int) (x305 : List T) => lpK c env lf 6 fi56 5 3 [] [2, 3, 4, 8, 10] (x56_3_0) lf (f56_0_c l0_0 n0_1 r302 s2 x304 x305)) = (fun (l0_0 : List T) (n0_1 : Int) (r302 : List T) (s2 : ByteArray) (x304 : Int) (x305 : List T) => f56_0 c lf l0_0 n0_1 r302 s2 lf x304 x305) := by funext l0_0 n0_1 r302 s2 x304 x305; exact f56_0_eq c lf l0_0 n0_1 r302 s2 lf x304 x305
 rw [e0]; rfl
def f57_1_s (c : Orc) (lf : Nat) (x320 : Int) (x321 : List T) (L : Int → List T → Option (List T)) (x322 : Int) (x323 : List T) : Option (List T) :=
 bif iLt 0 x322 then
  bif inR (IntKind.wrap .i64 (x322 - 1)) x323.length then
  bif !(Op.bytesLess (asS (x323.getD ((IntKind.wrap .i64 (x322 - 1)).toNat) T.u)).toList (asS (x321.getD x320.toNat T.u)).toList || (asS (x323.getD ((IntKind.wrap .i64 (x322 - 1)).toNat) T.u)).toList == (asS (x321.getD x320.toNat T.u)).toList) then
   bif inR (IntKind.wrap .i64 (x322 - 1)) x323.length then
   bif inR x322 x323.length then
   L (IntKind.wrap .i64 (x322 - 1)) (x323.set x322.toNat (T.s (asS (x323.getD ((IntKind.wrap .i64 (x322 - 1)).toNat) T.u))))
   else none
   else none
  else
   some [T.i .i64 0, T.i .i64 x320, T.s (asS (x321.getD x320.toNat T.u)), T.i .i64 x322, T.sl x323]
  else none
 else
  some [T.i .i64 0, T.i .i64 x320, T.s (asS (x321.getD x320.toNat T.u)), T.i .i64 x322, T.sl x323]
def f57_1_c (x320 : Int) (x321 : List T) (x322 : Int) (x323 : List T) : CSt := ⟨[.rf 1 [] 0 none, .i .i64 x320, .s (asS (x321.getD x320.toNat T.u)), .i .i64 x322], [.dead, .row false [.s] x323 0 false]⟩
theorem f57_1_round (c : Orc) (lf : Nat) (x320 : Int) (x321 : List T) (L : CSt → Option (List T)) (x322 : Int) (x323 : List T) :
 qa8 c env lf 6 fi57 1 7 [] [3, 4, 5, 6] (x57_7_0) L (f57_1_c x320 x321 x322 x323) = f57_1_s c lf x320 x321 (fun x322 x323 => L (f57_1_c x320 x321 x322 x323)) x322 x323 := by kernel_rfl
def f57_1 (c : Orc) (lf : Nat) (x320 : Int) (x321 : List T) : Nat → Int → List T → Option (List T)
 | 0 => fun _ _ => none
 | n + 1 => fun x322 x323 => f57_1_s c lf x320 x321 (f57_1 c lf x320 x321 n) x322 x323
theorem f57_1_u (c : Orc) (lf : Nat) (x320 : Int) (x321 : List T) (n : Nat) (x322 : Int) (x323 : List T) : f57_1 c lf x320 x321 (n + 1) x322 x323 = f57_1_s c lf x320 x321 (f57_1 c lf x320 x321 n) x322 x323 := rfl
theorem f57_1_eq (c : Orc) (lf : Nat) (x320 : Int) (x321 : List T) (n : Nat) (x322 : Int) (x323 : List T) :
 lpK c env lf 6 fi57 1 7 [] [3, 4, 5, 6] (x57_7_0) n (f57_1_c x320 x321 x322 x323) = f57_1 c lf x320 x321 n x322 x323 := by
 induction n generalizing x322 x323 with
 | zero => rfl
 | succ n ih =>
  refine (f57_1_round c lf x320 x321 _ x322 x323).trans ?_
  have e : (fun x322 x323 => lpK c env lf 6 fi57 1 7 [] [3, 4, 5, 6] (x57_7_0) n (f57_1_c x320 x321 x322 x323)) = f57_1 c lf x320 x321 n := by funext x322 x323; exact ih x322 x323
  show f57_1_s c lf x320 x321 (fun x322 x323 => lpK c env lf 6 fi57 1 7 [] [3, 4, 5, 6] (x57_7_0) n (f57_1_c x320 x321 x322 x323)) x322 x323 = _
  rw [e]; rfl
def f57_0_s (c : Orc) (lf : Nat) (L : Int → List T → Option (List T)) (lp0 : Int → List T → Int → List T → Option (List T)) (x320 : Int) (x321 : List T) : Option (List T) :=
 bif iLt x320 (x321.length : Int) then
  bif inR x320 x321.length then
  (lp0 x320 x321 x320 x321).bind fun r324 =>
  bif inR (asI (nth r324 3)) ((asL (nth r324 4)).length) then
  L (IntKind.wrap .i64 ((asI (nth r324 1)) + 1)) ((asL (nth r324 4)).set ((asI (nth r324 3)).toNat) (T.s (asS (nth r324 2))))
  else none
  else none
 else
  some [T.i .i64 0, T.sl x321]
def f57_0_c (x320 : Int) (x321 : List T) : CSt := ⟨[.rf 1 [] 0 none, .i .i64 x320], [.dead, .row false [.s] x321 0 false]⟩
theorem f57_0_round (c : Orc) (lf : Nat) (L : CSt → Option (List T)) (x320 : Int) (x321 : List T) :
 qa8 c env lf 6 fi57 1 3 [] [3, 4] (x57_3_0) L (f57_0_c x320 x321) = f57_0_s c lf (fun x320 x321 => L (f57_0_c x320 x321)) (fun (x320 : Int) (x321 : List T) (x322 : Int) (x323 : List T) => lpK c env lf 6 fi57 1 7 [] [3, 4, 5, 6] (x57_7_0) lf (f57_1_c x320 x321 x322 x323)) x320 x321 := by kernel_rfl
def f57_0 (c : Orc) (lf : Nat) : Nat → Int → List T → Option (List T)
 | 0 => fun _ _ => none
 | n + 1 => fun x320 x321 => f57_0_s c lf (f57_0 c lf n) (fun (x320 : Int) (x321 : List T) (x322 : Int) (x323 : List T) => f57_1 c lf x320 x321 lf x322 x323) x320 x321
theorem f57_0_u (c : Orc) (lf n : Nat) (x320 : Int) (x321 : List T) : f57_0 c lf (n + 1) x320 x321 = f57_0_s c lf (f57_0 c lf n) (fun (x320 : Int) (x321 : List T) (x322 : Int) (x323 : List T) => f57_1 c lf x320 x321 lf x322 x323) x320 x321 := rfl
theorem f57_0_eq (c : Orc) (lf n : Nat) (x320 : Int) (x321 : List T) :
 lpK c env lf 6 fi57 1 3 [] [3, 4] (x57_3_0) n (f57_0_c x320 x321) = f57_0 c lf n x320 x321 := by
 induction n generalizing x320 x321 with
 | zero => rfl
 | succ n ih =>
  refine (f57_0_round c lf _ x320 x321).trans ?_
  have e : (fun x320 x321 => lpK c env lf 6 fi57 1 3 [] [3, 4] (x57_3_0) n (f57_0_c x320 x321)) = f57_0 c lf n := by funext x320 x321; exact ih x320 x321
  have e0 : (fun (x320 : Int) (x321 : List T) (x322 : Int) (x323 : List T) => lpK c env lf 6 fi57 1 7 [] [3, 4, 5, 6] (x57_7_0) lf (f57_1_c x320 x321 x322 x323)) = (fun (x320 : Int) (x321 : List T) (x322 : Int) (x323 : List T) => f57_1 c lf x320 x321 lf x322 x323) := by funext x320 x321 x322 x323; exact f57_1_eq c lf x320 x321 lf x322 x323
  show f57_0_s c lf (fun x320 x321 => lpK c env lf 6 fi57 1 3 [] [3, 4] (x57_3_0) n (f57_0_c x320 x321)) (fun (x320 : Int) (x321 : List T) (x322 : Int) (x323 : List T) => lpK c env lf 6 fi57 1 7 [] [3, 4, 5, 6] (x57_7_0) lf (f57_1_c x320 x321 x322 x323)) x320 x321 = _
  rw [e, e0]; rfl
def f57_t (c : Orc) (lf : Nat) (lp0 : Int → List T → Option (List T)) (l0 : List T) : Option (List T) :=
 bif nLe (([] : List T).length + l0.length) LIM then
 (lp0 1 (([] : List T) ++ l0)).bind fun r325 =>
 some [T.sl (asL (nth r325 1))]
 else none
def f57 (c : Orc) (lf : Nat) (l0 : List T) : Option (List T) := f57_t c lf (fun (x320 : Int) (x321 : List T) => f57_0 c lf lf x320 x321) l0
theorem f57_raw (c : Orc) (lf : Nat) (l0 : List T) : funK c env lf 6 fi57 [.sl l0] = f57_t c lf (fun (x320 : Int) (x321 : List T) => lpK c env lf 6 fi57 1 3 [] [3, 4] (x57_3_0) lf (f57_0_c x320 x321)) l0 := by kernel_rfl
theorem f57_eq (c : Orc) (lf : Nat) (l0 : List T) : funK c env lf 6 fi57 [.sl l0] = f57 c lf l0 := by
 refine (f57_raw c lf l0).trans ?_
 have e0 : (fun (x320 : Int) (x321 : List T) => lpK c env lf 6 fi57 1 3 [] [3, 4] (x57_3_0) lf (f57_0_c x320 x321)) = (fun (x320 : Int) (x321 : List T) => f57_0 c lf lf x320 x321) := by funext x320 x321; exact f57_0_eq c lf lf x320 x321
 rw [e0]; rfl
def f28_t (c : Orc) (lf : Nat) (l0_0 : List T) (n0_1 : Int) : Option (List T) :=
 (c 17 [T.st [T.sl l0_0, T.i .i64 n0_1]]).bind fun r326 =>
 bif asB (nth r326 0) then
  (c 56 [T.st [T.sl l0_0, T.i .i64 n0_1], T.i .i64 1, T.s (⟨#[]⟩ : ByteArray), T.st [T.sl ([] : List T)]]).bind fun r327 =>
  (c 57 [T.sl (asL (T.cell (nth r327 0) 0))]).bind fun r328 =>
  some [T.sl (asL (nth r328 0))]
 else
  (c 57 [T.sl ([] : List T)]).bind fun r329 =>
  some [T.sl (asL (nth r329 0))]
def f28 (c : Orc) (lf : Nat) (l0_0 : List T) (n0_1 : Int) : Option (List T) := f28_t c lf l0_0 n0_1
theorem f28_eq (c : Orc) (lf : Nat) (l0_0 : List T) (n0_1 : Int) : funK c env lf 6 fi28 [.st [.sl l0_0, .i .i64 n0_1]] = f28 c lf l0_0 n0_1 := by kernel_rfl
def f86_0_s (c : Orc) (lf : Nat) (s0 : ByteArray) (L : Int → Int → List T → Option (List T)) (x339 : Int) (x338 : Int) (x342 : List T) : Option (List T) :=
 bif iLe x338 (s0.size : Int) then
  bif iLt x338 (s0.size : Int) then
   bif inR x338 s0.size then
   bif (qad s0 x338) != 47 then
    L x339 (IntKind.wrap .i64 (x338 + 1)) x342
   else
    bif iLt 0 x338 then
     bif iLe 0 x339 && iLe x339 x338 && iLe x338 (s0.size : Int) then
     (c 105 [T.s (s0.extract x339.toNat x338.toNat)]).bind fun r343 =>
     bif !(asB (nth r343 0)) then
      some [T.i .i64 1, T.b false, T.sl ([] : List T)]
     else
      bif (x342.length : Int) == 30 then
       some [T.i .i64 1, T.b false, T.sl ([] : List T)]
      else
       bif nLe (x342.length + ([T.s (s0.extract x339.toNat x338.toNat)] : List T).length) LIM then
       L (IntKind.wrap .i64 (x338 + 1)) (IntKind.wrap .i64 (x338 + 1)) (x342 ++ ([T.s (s0.extract x339.toNat x338.toNat)] : List T))
       else none
     else none
    else
     L (IntKind.wrap .i64 (x338 + 1)) (IntKind.wrap .i64 (x338 + 1)) x342
   else none
  else
   bif iLt 0 x338 then
    bif iLe 0 x339 && iLe x339 x338 && iLe x338 (s0.size : Int) then
    (c 105 [T.s (s0.extract x339.toNat x338.toNat)]).bind fun r344 =>
    bif !(asB (nth r344 0)) then
     some [T.i .i64 1, T.b false, T.sl ([] : List T)]
    else
     bif (x342.length : Int) == 30 then
      some [T.i .i64 1, T.b false, T.sl ([] : List T)]
     else
      bif nLe (x342.length + ([T.s (s0.extract x339.toNat x338.toNat)] : List T).length) LIM then
      L (IntKind.wrap .i64 (x338 + 1)) (IntKind.wrap .i64 (x338 + 1)) (x342 ++ ([T.s (s0.extract x339.toNat x338.toNat)] : List T))
      else none
    else none
   else
    L (IntKind.wrap .i64 (x338 + 1)) (IntKind.wrap .i64 (x338 + 1)) x342
 else
  some [T.i .i64 0, T.s s0, T.sl x342]
def f86_0_c (s0 : ByteArray) (x339 x338 : Int) (x342 : List T) : CSt := ⟨[.s s0, .rf 1 [] 0 none, .i .i64 x339, .i .i64 x338], [.dead, .row false [.s] x342 0 false]⟩
theorem f86_0_round (c : Orc) (lf : Nat) (s0 : ByteArray) (L : CSt → Option (List T)) (x339 : Int) (x338 : Int) (x342 : List T) :
 qa8 c env lf 6 fi86 1 6 [] [0, 4, 5, 6] (x86_6_0) L (f86_0_c s0 x339 x338 x342) = f86_0_s c lf s0 (fun x339 x338 x342 => L (f86_0_c s0 x339 x338 x342)) x339 x338 x342 := by kernel_rfl
def f86_0 (c : Orc) (lf : Nat) (s0 : ByteArray) : Nat → Int → Int → List T → Option (List T)
 | 0 => fun _ _ _ => none
 | n + 1 => fun x339 x338 x342 => f86_0_s c lf s0 (f86_0 c lf s0 n) x339 x338 x342
theorem f86_0_u (c : Orc) (lf : Nat) (s0 : ByteArray) (n : Nat) (x339 x338 : Int) (x342 : List T) : f86_0 c lf s0 (n + 1) x339 x338 x342 = f86_0_s c lf s0 (f86_0 c lf s0 n) x339 x338 x342 := rfl
theorem f86_0_eq (c : Orc) (lf : Nat) (s0 : ByteArray) (n : Nat) (x339 x338 : Int) (x342 : List T) :
 lpK c env lf 6 fi86 1 6 [] [0, 4, 5, 6] (x86_6_0) n (f86_0_c s0 x339 x338 x342) = f86_0 c lf s0 n x339 x338 x342 := by
 induction n generalizing x339 x338 x342 with
 | zero => rfl
 | succ n ih =>
  refine (f86_0_round c lf s0 _ x339 x338 x342).trans ?_
  have e : (fun x339 x338 x342 => lpK c env lf 6 fi86 1 6 [] [0, 4, 5, 6] (x86_6_0) n (f86_0_c s0 x339 x338 x342)) = f86_0 c lf s0 n := by funext x339 x338 x342; exact ih x339 x338 x342
  show f86_0_s c lf s0 (fun x339 x338 x342 => lpK c env lf 6 fi86 1 6 [] [0, 4, 5, 6] (x86_6_0) n (f86_0_c s0 x339 x338 x342)) x339 x338 x342 = _
  rw [e]; rfl
def f86_t (c : Orc) (lf : Nat) (lp0 : ByteArray → Int → Int → List T → Option (List T)) (s0 : ByteArray) : Option (List T) :=
 bif s0.toList == (⟨#[47]⟩ : ByteArray).toList then
  some [T.sl ([] : List T), T.b true]
 else
  (lp0 s0 0 0 ([] : List T)).bind fun r345 =>
  bif asI (nth r345 0) == 0 then
   bif ((asS (nth r345 1)).size : Int) == 0 then
    some [T.sl ([] : List T), T.b false]
   else
    bif inR 0 (asS (nth r345 1)).size then
    bif (qad (asS (nth r345 1)) 0) != 47 then
     some [T.sl ([] : List T), T.b false]
    else
     some [T.sl (asL (nth r345 2)), T.b true]
    else none
  else
   some [T.sl (asL (nth r345 2)), T.b (asB (nth r345 1))]
def f86 (c : Orc) (lf : Nat) (s0 : ByteArray) : Option (List T) := f86_t c lf (fun (s0 : ByteArray) (x339 x338 : Int) (x342 : List T) => f86_0 c lf s0 lf x339 x338 x342) s0
theorem f86_raw (c : Orc) (lf : Nat) (s0 : ByteArray) : funK c env lf 6 fi86 [.s s0] = f86_t c lf (fun (s0 : ByteArray) (x339 x338 : Int) (x342 : List T) => lpK c env lf 6 fi86 1 6 [] [0, 4, 5, 6] (x86_6_0) lf (f86_0_c s0 x339 x338 x342)) s0 := by kernel_rfl
theorem f86_eq (c : Orc) (lf : Nat) (s0 : ByteArray) : funK c env lf 6 fi86 [.s s0] = f86 c lf s0 := by
 refine (f86_raw c lf s0).trans ?_
 have e0 : (fun (s0 : ByteArray) (x339 x338 : Int) (x342 : List T) => lpK c env lf 6 fi86 1 6 [] [0, 4, 5, 6] (x86_6_0) lf (f86_0_c s0 x339 x338 x342)) = (fun (s0 : ByteArray) (x339 x338 : Int) (x342 : List T) => f86_0 c lf s0 lf x339 x338 x342) := by funext s0 x339 x338 x342; exact f86_0_eq c lf s0 lf x339 x338 x342
 rw [e0]; rfl
def f106_0_s (c : Orc) (lf : Nat) (l0_3 l0_4 l0_5 : List T) (n0_0 n0_1 n0_2 : Int) (s1 : ByteArray) (L : Int → Option (List T)) (x348 : Int) : Option (List T) :=
 bif iLt x348 (l0_4.length : Int) then
  bif inR x348 l0_4.length then
  bif (asS (T.cell (l0_4.getD x348.toNat T.u) 0)).toList == s1.toList then
   bif inR x348 l0_4.length then
   some [T.i .i64 0, T.i .i64 (asI (T.cell (l0_4.getD x348.toNat T.u) 1))]
   else none
  else
   L (IntKind.wrap .i64 (x348 + 1))
  else none
 else
  some [T.i .i64 1]
def f106_0_c (l0_3 l0_4 l0_5 : List T) (n0_0 n0_1 n0_2 : Int) (s1 : ByteArray) (x348 : Int) : CSt := ⟨[.s s1, .bp 7 0, .i .i64 x348], [.dead, .dead, .dead, .dead, .dead, .dead, .dead, .box [.i .i64 n0_0, .i .i64 n0_1, .i .i64 n0_2, .ro 0 false [.i .u8] l0_3, .ro 0 true [.s, .i .i64] l0_4, .ro 0 true [.s, .s] l0_5]]⟩
theorem f106_0_round (c : Orc) (lf : Nat) (l0_3 l0_4 l0_5 : List T) (n0_0 n0_1 n0_2 : Int) (s1 : ByteArray) (L : CSt → Option (List T)) (x348 : Int) :
 qa8 c env lf 6 fi106 7 2 [] [1, 2, 5] (x106_2_0) L (f106_0_c l0_3 l0_4 l0_5 n0_0 n0_1 n0_2 s1 x348) = f106_0_s c lf l0_3 l0_4 l0_5 n0_0 n0_1 n0_2 s1 (fun x348 => L (f106_0_c l0_3 l0_4 l0_5 n0_0 n0_1 n0_2 s1 x348)) x348 := by kernel_rfl
def f106_0 (c : Orc) (lf : Nat) (l0_3 l0_4 l0_5 : List T) (n0_0 n0_1 n0_2 : Int) (s1 : ByteArray) : Nat → Int → Option (List T)
 | 0 => fun _ => none
 | n + 1 => fun x348 => f106_0_s c lf l0_3 l0_4 l0_5 n0_0 n0_1 n0_2 s1 (f106_0 c lf l0_3 l0_4 l0_5 n0_0 n0_1 n0_2 s1 n) x348
theorem f106_0_u (c : Orc) (lf : Nat) (l0_3 l0_4 l0_5 : List T) (n0_0 n0_1 n0_2 : Int) (s1 : ByteArray) (n : Nat) (x348 : Int) : f106_0 c lf l0_3 l0_4 l0_5 n0_0 n0_1 n0_2 s1 (n + 1) x348 = f106_0_s c lf l0_3 l0_4 l0_5 n0_0 n0_1 n0_2 s1 (f106_0 c lf l0_3 l0_4 l0_5 n0_0 n0_1 n0_2 s1 n) x348 := rfl
theorem f106_0_eq (c : Orc) (lf : Nat) (l0_3 l0_4 l0_5 : List T) (n0_0 n0_1 n0_2 : Int) (s1 : ByteArray) (n : Nat) (x348 : Int) :
 lpK c env lf 6 fi106 7 2 [] [1, 2, 5] (x106_2_0) n (f106_0_c l0_3 l0_4 l0_5 n0_0 n0_1 n0_2 s1 x348) = f106_0 c lf l0_3 l0_4 l0_5 n0_0 n0_1 n0_2 s1 n x348 := by
 induction n generalizing x348 with
 | zero => rfl
 | succ n ih =>
  refine (f106_0_round c lf l0_3 l0_4 l0_5 n0_0 n0_1 n0_2 s1 _ x348).trans ?_
  have e : (fun x348 => lpK c env lf 6 fi106 7 2 [] [1, 2, 5] (x106_2_0) n (f106_0_c l0_3 l0_4 l0_5 n0_0 n0_1 n0_2 s1 x348)) = f106_0 c lf l0_3 l0_4 l0_5 n0_0 n0_1 n0_2 s1 n := by funext x348; exact ih x348
  show f106_0_s c lf l0_3 l0_4 l0_5 n0_0 n0_1 n0_2 s1 (fun x348 => lpK c env lf 6 fi106 7 2 [] [1, 2, 5] (x106_2_0) n (f106_0_c l0_3 l0_4 l0_5 n0_0 n0_1 n0_2 s1 x348)) x348 = _
  rw [e]; rfl
def f106_t (c : Orc) (lf : Nat) (lp0 : List T → List T → List T → Int → Int → Int → ByteArray → Int → Option (List T)) (n0_0 : Int) (n0_1 : Int) (n0_2 : Int) (l0_3 : List T) (l0_4 : List T) (l0_5 : List T) (s1 : ByteArray) : Option (List T) :=
 (lp0 l0_3 l0_4 l0_5 n0_0 n0_1 n0_2 s1 0).bind fun r349 =>
 bif asI (nth r349 0) == 0 then
  some [T.i .i64 (asI (nth r349 1))]
 else
  some [T.i .i64 0]
def f106 (c : Orc) (lf : Nat) (n0_0 n0_1 n0_2 : Int) (l0_3 l0_4 l0_5 : List T) (s1 : ByteArray) : Option (List T) := f106_t c lf (fun (l0_3 l0_4 l0_5 : List T) (n0_0 n0_1 n0_2 : Int) (s1 : ByteArray) (x348 : Int) => f106_0 c lf l0_3 l0_4 l0_5 n0_0 n0_1 n0_2 s1 lf x348) n0_0 n0_1 n0_2 l0_3 l0_4 l0_5 s1
theorem f106_raw (c : Orc) (lf : Nat) (n0_0 n0_1 n0_2 : Int) (l0_3 l0_4 l0_5 : List T) (s1 : ByteArray) : funK c env lf 6 fi106 [.st [.i .i64 n0_0, .i .i64 n0_1, .i .i64 n0_2, .sl l0_3, .sl l0_4, .sl l0_5], .s s1] = f106_t c lf (fun (l0_3 l0_4 l0_5 : List T) (n0_0 n0_1 n0_2 : Int) (s1 : ByteArray) (x348 : Int) => lpK c env lf 6 fi106 7 2 [] [1, 2, 5] (x106_2_0) lf (f106_0_c l0_3 l0_4 l0_5 n0_0 n0_1 n0_2 s1 x348)) n0_0 n0_1 n0_2 l0_3 l0_4 l0_5 s1 := by kernel_rfl
theorem f106_eq (c : Orc) (lf : Nat) (n0_0 n0_1 n0_2 : Int) (l0_3 l0_4 l0_5 : List T) (s1 : ByteArray) : funK c env lf 6 fi106 [.st [.i .i64 n0_0, .i .i64 n0_1, .i .i64 n0_2, .sl l0_3, .sl l0_4, .sl l0_5], .s s1] = f106 c lf n0_0 n0_1 n0_2 l0_3 l0_4 l0_5 s1 := by
 refine (f106_raw c lf n0_0 n0_1 n0_2 l0_3 l0_4 l0_5 s1).trans ?_
 have e0 : (fun (l0_3 l0_4 l0_5 : List T) (n0_0 n0_1 n0_2 : Int) (s1 : ByteArray) (x348 : Int) => lpK c env lf 6 fi106 7 2 [] [1, 2, 5] (x106_2_0) lf (f106_0_c l0_3 l0_4 l0_5 n0_0 n0_1 n0_2 s1 x348)) = (fun (l0_3 l0_4 l0_5 : List T) (n0_0 n0_1 n0_2 : Int) (s1 : ByteArray) (x348 : Int) => f106_0 c lf l0_3 l0_4 l0_5 n0_0 n0_1 n0_2 s1 lf x348) := by funext l0_3 l0_4 l0_5 n0_0 n0_1 n0_2 s1 x348; exact f106_0_eq c lf l0_3 l0_4 l0_5 n0_0 n0_1 n0_2 s1 lf x348
 rw [e0]; rfl
def f87_0_s (c : Orc) (lf : Nat) (l1 l0_0 : List T) (n0_1 : Int) (L : Int → Int → Option (List T)) (x359 : Int) (x360 : Int) : Option (List T) :=
 bif iLt x360 (l1.length : Int) then
  (c 45 [T.st [T.sl l0_0, T.i .i64 n0_1], T.i .i64 x359]).bind fun r361 =>
  bif iLt (asI (nth r361 0)) 0 then
   some [T.i .i64 0, T.i .i64 0, T.i .i64 2]
  else
   bif inR (asI (nth r361 0)) l0_0.length then
   bif (asI (T.cell (l0_0.getD ((asI (nth r361 0)).toNat) T.u) 1)) != 2 then
    some [T.i .i64 0, T.i .i64 0, T.i .i64 3]
   else
    bif inR (asI (nth r361 0)) l0_0.length then
    bif inR x360 l1.length then
    (c 106 [T.st [T.i .i64 (asI (T.cell (l0_0.getD ((asI (nth r361 0)).toNat) T.u) 0)), T.i .i64 (asI (T.cell (l0_0.getD ((asI (nth r361 0)).toNat) T.u) 1)), T.i .i64 (asI (T.cell (l0_0.getD ((asI (nth r361 0)).toNat) T.u) 2)), T.sl (asL (T.cell (l0_0.getD ((asI (nth r361 0)).toNat) T.u) 3)), T.sl (asL (T.cell (l0_0.getD ((asI (nth r361 0)).toNat) T.u) 4)), T.sl (asL (T.cell (l0_0.getD ((asI (nth r361 0)).toNat) T.u) 5))], T.s (asS (l1.getD x360.toNat T.u))]).bind fun r362 =>
    bif (asI (nth r362 0)) == 0 then
     some [T.i .i64 0, T.i .i64 0, T.i .i64 2]
    else
     L (asI (nth r362 0)) (IntKind.wrap .i64 (x360 + 1))
    else none
    else none
   else none
 else
  some [T.i .i64 1, T.i .i64 x359]
def f87_0_c (l1 l0_0 : List T) (n0_1 x359 x360 : Int) : CSt := ⟨[.ro 0 false [.s] l1, .bp 3 0, .i .i64 x359, .i .i64 x360], [.dead, .dead, .dead, .box [.ro 0 true [.i .i64, .i .i64, .i .i64, .sl false [.i .u8], .sl true [.s, .i .i64], .sl true [.s, .s]] l0_0, .i .i64 n0_1]]⟩
theorem f87_0_round (c : Orc) (lf : Nat) (l1 l0_0 : List T) (n0_1 : Int) (L : CSt → Option (List T)) (x359 : Int) (x360 : Int) :
 qa8 c env lf 6 fi87 3 3 [] [1, 2, 6, 7] (x87_3_0) L (f87_0_c l1 l0_0 n0_1 x359 x360) = f87_0_s c lf l1 l0_0 n0_1 (fun x359 x360 => L (f87_0_c l1 l0_0 n0_1 x359 x360)) x359 x360 := by kernel_rfl
def f87_0 (c : Orc) (lf : Nat) (l1 l0_0 : List T) (n0_1 : Int) : Nat → Int → Int → Option (List T)
 | 0 => fun _ _ => none
 | n + 1 => fun x359 x360 => f87_0_s c lf l1 l0_0 n0_1 (f87_0 c lf l1 l0_0 n0_1 n) x359 x360
theorem f87_0_u (c : Orc) (lf : Nat) (l1 l0_0 : List T) (n0_1 : Int) (n : Nat) (x359 x360 : Int) : f87_0 c lf l1 l0_0 n0_1 (n + 1) x359 x360 = f87_0_s c lf l1 l0_0 n0_1 (f87_0 c lf l1 l0_0 n0_1 n) x359 x360 := rfl
theorem f87_0_eq (c : Orc) (lf : Nat) (l1 l0_0 : List T) (n0_1 : Int) (n : Nat) (x359 x360 : Int) :
 lpK c env lf 6 fi87 3 3 [] [1, 2, 6, 7] (x87_3_0) n (f87_0_c l1 l0_0 n0_1 x359 x360) = f87_0 c lf l1 l0_0 n0_1 n x359 x360 := by
 induction n generalizing x359 x360 with
 | zero => rfl
 | succ n ih =>
  refine (f87_0_round c lf l1 l0_0 n0_1 _ x359 x360).trans ?_
  have e : (fun x359 x360 => lpK c env lf 6 fi87 3 3 [] [1, 2, 6, 7] (x87_3_0) n (f87_0_c l1 l0_0 n0_1 x359 x360)) = f87_0 c lf l1 l0_0 n0_1 n := by funext x359 x360; exact ih x359 x360
  show f87_0_s c lf l1 l0_0 n0_1 (fun x359 x360 => lpK c env lf 6 fi87 3 3 [] [1, 2, 6, 7] (x87_3_0) n (f87_0_c l1 l0_0 n0_1 x359 x360)) x359 x360 = _
  rw [e]; rfl
def f87_t (c : Orc) (lf : Nat) (lp0 : List T → List T → Int → Int → Int → Option (List T)) (l0_0 : List T) (n0_1 : Int) (l1 : List T) : Option (List T) :=
 (lp0 l1 l0_0 n0_1 1 0).bind fun r363 =>
 bif asI (nth r363 0) == 0 then
  some [T.i .i64 (asI (nth r363 1)), T.i .i64 (asI (nth r363 2))]
 else
  some [T.i .i64 (asI (nth r363 1)), T.i .i64 0]
def f87 (c : Orc) (lf : Nat) (l0_0 : List T) (n0_1 : Int) (l1 : List T) : Option (List T) := f87_t c lf (fun (l1 l0_0 : List T) (n0_1 x359 x360 : Int) => f87_0 c lf l1 l0_0 n0_1 lf x359 x360) l0_0 n0_1 l1
theorem f87_raw (c : Orc) (lf : Nat) (l0_0 : List T) (n0_1 : Int) (l1 : List T) : funK c env lf 6 fi87 [.st [.sl l0_0, .i .i64 n0_1], .sl l1] = f87_t c lf (fun (l1 l0_0 : List T) (n0_1 x359 x360 : Int) => lpK c env lf 6 fi87 3 3 [] [1, 2, 6, 7] (x87_3_0) lf (f87_0_c l1 l0_0 n0_1 x359 x360)) l0_0 n0_1 l1 := by kernel_rfl
theorem f87_eq (c : Orc) (lf : Nat) (l0_0 : List T) (n0_1 : Int) (l1 : List T) : funK c env lf 6 fi87 [.st [.sl l0_0, .i .i64 n0_1], .sl l1] = f87 c lf l0_0 n0_1 l1 := by
 refine (f87_raw c lf l0_0 n0_1 l1).trans ?_
 have e0 : (fun (l1 l0_0 : List T) (n0_1 x359 x360 : Int) => lpK c env lf 6 fi87 3 3 [] [1, 2, 6, 7] (x87_3_0) lf (f87_0_c l1 l0_0 n0_1 x359 x360)) = (fun (l1 l0_0 : List T) (n0_1 x359 x360 : Int) => f87_0 c lf l1 l0_0 n0_1 lf x359 x360) := by funext l1 l0_0 n0_1 x359 x360; exact f87_0_eq c lf l1 l0_0 n0_1 lf x359 x360
 rw [e0]; rfl
def f58_t (c : Orc) (lf : Nat) (l0_0 : List T) (n0_1 : Int) (s1 : ByteArray) : Option (List T) :=
 (c 86 [T.s s1]).bind fun r364 =>
 bif !(asB (nth r364 1)) then
  some [T.i .i64 0, T.i .i64 1]
 else
  (c 87 [T.st [T.sl l0_0, T.i .i64 n0_1], T.sl (asL (nth r364 0))]).bind fun r365 =>
  some [T.i .i64 (asI (nth r365 0)), T.i .i64 (asI (nth r365 1))]
def f58 (c : Orc) (lf : Nat) (l0_0 : List T) (n0_1 : Int) (s1 : ByteArray) : Option (List T) := f58_t c lf l0_0 n0_1 s1
theorem f58_eq (c : Orc) (lf : Nat) (l0_0 : List T) (n0_1 : Int) (s1 : ByteArray) : funK c env lf 6 fi58 [.st [.sl l0_0, .i .i64 n0_1], .s s1] = f58 c lf l0_0 n0_1 s1 := by kernel_rfl
def f29_t (c : Orc) (lf : Nat) (l0_0 : List T) (n0_1 : Int) (s1 : ByteArray) : Option (List T) :=
 (c 58 [T.st [T.sl l0_0, T.i .i64 n0_1], T.s s1]).bind fun r366 =>
 bif (asI (nth r366 1)) != 0 then
  some [T.st [T.i .i64 0, T.i .i64 0, T.i .i64 0, T.sl [], T.sl [], T.sl []], T.i .i64 (asI (nth r366 1))]
 else
  (c 46 [T.st [T.sl l0_0, T.i .i64 n0_1], T.i .i64 (asI (nth r366 0))]).bind fun r367 =>
  bif !(asB (nth r367 1)) then
   some [T.st [T.i .i64 0, T.i .i64 0, T.i .i64 0, T.sl [], T.sl [], T.sl []], T.i .i64 2]
  else
   some [T.st [T.i .i64 (asI (T.cell (nth r367 0) 0)), T.i .i64 (asI (T.cell (nth r367 0) 1)), T.i .i64 (asI (T.cell (nth r367 0) 2)), T.sl (asL (T.cell (nth r367 0) 3)), T.sl (asL (T.cell (nth r367 0) 4)), T.sl (asL (T.cell (nth r367 0) 5))], T.i .i64 0]
def f29 (c : Orc) (lf : Nat) (l0_0 : List T) (n0_1 : Int) (s1 : ByteArray) : Option (List T) := f29_t c lf l0_0 n0_1 s1
theorem f29_eq (c : Orc) (lf : Nat) (l0_0 : List T) (n0_1 : Int) (s1 : ByteArray) : funK c env lf 6 fi29 [.st [.sl l0_0, .i .i64 n0_1], .s s1] = f29 c lf l0_0 n0_1 s1 := by kernel_rfl
def f30_0_s (c : Orc) (lf : Nat) (l1 l0_0 : List T) (n2 n0_1 : Int) (L : Int → Option (List T)) (x373 : Int) : Option (List T) :=
 bif iLt x373 (l1.length : Int) then
  bif inR x373 l1.length then
  (c 58 [T.st [T.sl l0_0, T.i .i64 n0_1], T.s (asS (l1.getD x373.toNat T.u))]).bind fun r374 =>
  bif (asI (nth r374 0)) == n2 then
   bif inR x373 l1.length then
   some [T.i .i64 0, T.s (asS (l1.getD x373.toNat T.u))]
   else none
  else
   L (IntKind.wrap .i64 (x373 + 1))
  else none
 else
  some [T.i .i64 1]
def f30_0_c (l1 l0_0 : List T) (n2 n0_1 x373 : Int) : CSt := ⟨[.ro 0 false [.s] l1, .i .i64 n2, .bp 4 0, .i .i64 x373], [.dead, .dead, .dead, .dead, .box [.ro 0 true [.i .i64, .i .i64, .i .i64, .sl false [.i .u8], .sl true [.s, .i .i64], .sl true [.s, .s]] l0_0, .i .i64 n0_1]]⟩
theorem f30_0_round (c : Orc) (lf : Nat) (l1 l0_0 : List T) (n2 n0_1 : Int) (L : CSt → Option (List T)) (x373 : Int) :
 qa8 c env lf 6 fi30 4 2 [] [1, 2, 3, 7] (x30_2_0) L (f30_0_c l1 l0_0 n2 n0_1 x373) = f30_0_s c lf l1 l0_0 n2 n0_1 (fun x373 => L (f30_0_c l1 l0_0 n2 n0_1 x373)) x373 := by kernel_rfl
def f30_0 (c : Orc) (lf : Nat) (l1 l0_0 : List T) (n2 n0_1 : Int) : Nat → Int → Option (List T)
 | 0 => fun _ => none
 | n + 1 => fun x373 => f30_0_s c lf l1 l0_0 n2 n0_1 (f30_0 c lf l1 l0_0 n2 n0_1 n) x373
theorem f30_0_u (c : Orc) (lf : Nat) (l1 l0_0 : List T) (n2 n0_1 : Int) (n : Nat) (x373 : Int) : f30_0 c lf l1 l0_0 n2 n0_1 (n + 1) x373 = f30_0_s c lf l1 l0_0 n2 n0_1 (f30_0 c lf l1 l0_0 n2 n0_1 n) x373 := rfl
theorem f30_0_eq (c : Orc) (lf : Nat) (l1 l0_0 : List T) (n2 n0_1 : Int) (n : Nat) (x373 : Int) :
 lpK c env lf 6 fi30 4 2 [] [1, 2, 3, 7] (x30_2_0) n (f30_0_c l1 l0_0 n2 n0_1 x373) = f30_0 c lf l1 l0_0 n2 n0_1 n x373 := by
 induction n generalizing x373 with
 | zero => rfl
 | succ n ih =>
  refine (f30_0_round c lf l1 l0_0 n2 n0_1 _ x373).trans ?_
  have e : (fun x373 => lpK c env lf 6 fi30 4 2 [] [1, 2, 3, 7] (x30_2_0) n (f30_0_c l1 l0_0 n2 n0_1 x373)) = f30_0 c lf l1 l0_0 n2 n0_1 n := by funext x373; exact ih x373
  show f30_0_s c lf l1 l0_0 n2 n0_1 (fun x373 => lpK c env lf 6 fi30 4 2 [] [1, 2, 3, 7] (x30_2_0) n (f30_0_c l1 l0_0 n2 n0_1 x373)) x373 = _
  rw [e]; rfl
def f30_t (c : Orc) (lf : Nat) (lp0 : List T → List T → Int → Int → Int → Option (List T)) (l0_0 : List T) (n0_1 : Int) (l1 : List T) (n2 : Int) : Option (List T) :=
 (lp0 l1 l0_0 n2 n0_1 0).bind fun r375 =>
 bif asI (nth r375 0) == 0 then
  some [T.s (asS (nth r375 1))]
 else
  some [T.s (⟨#[]⟩ : ByteArray)]
def f30 (c : Orc) (lf : Nat) (l0_0 : List T) (n0_1 : Int) (l1 : List T) (n2 : Int) : Option (List T) := f30_t c lf (fun (l1 l0_0 : List T) (n2 n0_1 x373 : Int) => f30_0 c lf l1 l0_0 n2 n0_1 lf x373) l0_0 n0_1 l1 n2
theorem f30_raw (c : Orc) (lf : Nat) (l0_0 : List T) (n0_1 : Int) (l1 : List T) (n2 : Int) : funK c env lf 6 fi30 [.st [.sl l0_0, .i .i64 n0_1], .sl l1, .i .i64 n2] = f30_t c lf (fun (l1 l0_0 : List T) (n2 n0_1 x373 : Int) => lpK c env lf 6 fi30 4 2 [] [1, 2, 3, 7] (x30_2_0) lf (f30_0_c l1 l0_0 n2 n0_1 x373)) l0_0 n0_1 l1 n2 := by kernel_rfl
theorem f30_eq (c : Orc) (lf : Nat) (l0_0 : List T) (n0_1 : Int) (l1 : List T) (n2 : Int) : funK c env lf 6 fi30 [.st [.sl l0_0, .i .i64 n0_1], .sl l1, .i .i64 n2] = f30 c lf l0_0 n0_1 l1 n2 := by
 refine (f30_raw c lf l0_0 n0_1 l1 n2).trans ?_
 have e0 : (fun (l1 l0_0 : List T) (n2 n0_1 x373 : Int) => lpK c env lf 6 fi30 4 2 [] [1, 2, 3, 7] (x30_2_0) lf (f30_0_c l1 l0_0 n2 n0_1 x373)) = (fun (l1 l0_0 : List T) (n2 n0_1 x373 : Int) => f30_0 c lf l1 l0_0 n2 n0_1 lf x373) := by funext l1 l0_0 n2 n0_1 x373; exact f30_0_eq c lf l1 l0_0 n2 n0_1 lf x373
 rw [e0]; rfl
def f10_0_s (c : Orc) (lf : Nat) (l0_0 : List T) (n0_1 : Int) (r384 : List T) (L : Int → List T → Option (List T)) (x387 : Int) (x388 : List T) : Option (List T) :=
 bif iLt x387 ((asL (nth r384 0)).length : Int) then
  bif inR x387 ((asL (nth r384 0)).length) then
  (c 29 [T.st [T.sl l0_0, T.i .i64 n0_1], T.s (asS ((asL (nth r384 0)).getD x387.toNat T.u))]).bind fun r389 =>
  bif inR x387 ((asL (nth r384 0)).length) then
  (c 30 [T.st [T.sl l0_0, T.i .i64 n0_1], T.sl (asL (nth r384 0)), T.i .i64 (asI (T.cell (nth r389 0) 0))]).bind fun r390 =>
  bif nLe (x388.length + ([T.st [T.s (asS ((asL (nth r384 0)).getD x387.toNat T.u)), T.i .i64 (asI (T.cell (nth r389 0) 1)), T.sl (asL (T.cell (nth r389 0) 3)), T.sl (asL (T.cell (nth r389 0) 5)), T.s (asS (nth r390 0))]] : List T).length) LIM then
  L (IntKind.wrap .i64 (x387 + 1)) (x388 ++ ([T.st [T.s (asS ((asL (nth r384 0)).getD x387.toNat T.u)), T.i .i64 (asI (T.cell (nth r389 0) 1)), T.sl (asL (T.cell (nth r389 0) 3)), T.sl (asL (T.cell (nth r389 0) 5)), T.s (asS (nth r390 0))]] : List T))
  else none
  else none
  else none
 else
  some [T.i .i64 0, T.sl x388]
def f10_0_c (l0_0 : List T) (n0_1 : Int) (r384 : List T) (x387 : Int) (x388 : List T) : CSt := ⟨[.bp 2 0, .rf 3 [] 0 none, .rf 4 [] 0 none, .i .i64 x387], [.dead, .dead, .box [.ro 0 true [.i .i64, .i .i64, .i .i64, .sl false [.i .u8], .sl true [.s, .i .i64], .sl true [.s, .s]] l0_0, .i .i64 n0_1], .row true [.s, .i .i64, .sl false [.i .u8], .sl true [.s, .s], .s] x388 0 false, .row false [.s] (asL (nth r384 0)) 0 false]⟩
theorem f10_0_round (c : Orc) (lf : Nat) (l0_0 : List T) (n0_1 : Int) (r384 : List T) (L : CSt → Option (List T)) (x387 : Int) (x388 : List T) :
 qa8 c env lf 6 fi10 2 4 [] [1, 3, 4, 5] (x10_4_0) L (f10_0_c l0_0 n0_1 r384 x387 x388) = f10_0_s c lf l0_0 n0_1 r384 (fun x387 x388 => L (f10_0_c l0_0 n0_1 r384 x387 x388)) x387 x388 := by kernel_rfl
def f10_0 (c : Orc) (lf : Nat) (l0_0 : List T) (n0_1 : Int) (r384 : List T) : Nat → Int → List T → Option (List T)
 | 0 => fun _ _ => none
 | n + 1 => fun x387 x388 => f10_0_s c lf l0_0 n0_1 r384 (f10_0 c lf l0_0 n0_1 r384 n) x387 x388
theorem f10_0_u (c : Orc) (lf : Nat) (l0_0 : List T) (n0_1 : Int) (r384 : List T) (n : Nat) (x387 : Int) (x388 : List T) : f10_0 c lf l0_0 n0_1 r384 (n + 1) x387 x388 = f10_0_s c lf l0_0 n0_1 r384 (f10_0 c lf l0_0 n0_1 r384 n) x387 x388 := rfl
theorem f10_0_eq (c : Orc) (lf : Nat) (l0_0 : List T) (n0_1 : Int) (r384 : List T) (n : Nat) (x387 : Int) (x388 : List T) :
 lpK c env lf 6 fi10 2 4 [] [1, 3, 4, 5] (x10_4_0) n (f10_0_c l0_0 n0_1 r384 x387 x388) = f10_0 c lf l0_0 n0_1 r384 n x387 x388 := by
 induction n generalizing x387 x388 with
 | zero => rfl
 | succ n ih =>
  refine (f10_0_round c lf l0_0 n0_1 r384 _ x387 x388).trans ?_
  have e : (fun x387 x388 => lpK c env lf 6 fi10 2 4 [] [1, 3, 4, 5] (x10_4_0) n (f10_0_c l0_0 n0_1 r384 x387 x388)) = f10_0 c lf l0_0 n0_1 r384 n := by funext x387 x388; exact ih x387 x388
  show f10_0_s c lf l0_0 n0_1 r384 (fun x387 x388 => lpK c env lf 6 fi10 2 4 [] [1, 3, 4, 5] (x10_4_0) n (f10_0_c l0_0 n0_1 r384 x387 x388)) x387 x388 = _
  rw [e]; rfl
def f10_t (c : Orc) (lf : Nat) (lp0 : List T → Int → List T → Int → List T → Option (List T)) (l0_0 : List T) (n0_1 : Int) : Option (List T) :=
 (c 28 [T.st [T.sl l0_0, T.i .i64 n0_1]]).bind fun r384 =>
 (lp0 l0_0 n0_1 r384 0 ([] : List T)).bind fun r391 =>
 some [T.sl (asL (nth r391 1))]
def f10 (c : Orc) (lf : Nat) (l0_0 : List T) (n0_1 : Int) : Option (List T) := f10_t c lf (fun (l0_0 : List T) (n0_1 : Int) (r384 : List T) (x387 : Int) (x388 : List T) => f10_0 c lf l0_0 n0_1 r384 lf x387 x388) l0_0 n0_1
theorem f10_raw (c : Orc) (lf : Nat) (l0_0 : List T) (n0_1 : Int) : funK c env lf 6 fi10 [.st [.sl l0_0, .i .i64 n0_1]] = f10_t c lf (fun (l0_0 : List T) (n0_1 : Int) (r384 : List T) (x387 : Int) (x388 : List T) => lpK c env lf 6 fi10 2 4 [] [1, 3, 4, 5] (x10_4_0) lf (f10_0_c l0_0 n0_1 r384 x387 x388)) l0_0 n0_1 := by kernel_rfl
theorem f10_eq (c : Orc) (lf : Nat) (l0_0 : List T) (n0_1 : Int) : funK c env lf 6 fi10 [.st [.sl l0_0, .i .i64 n0_1]] = f10 c lf l0_0 n0_1 := by
 refine (f10_raw c lf l0_0 n0_1).trans ?_
 have e0 : (fun (l0_0 : List T) (n0_1 : Int) (r384 : List T) (x387 : Int) (x388 : List T) => lpK c env lf 6 fi10 2 4 [] [1, 3, 4, 5] (x10_4_0) lf (f10_0_c l0_0 n0_1 r384 x387 x388)) = (fun (l0_0 : List T) (n0_1 : Int) (r384 : List T) (x387 : Int) (x388 : List T) => f10_0 c lf l0_0 n0_1 r384 lf x387 x388) := by funext l0_0 n0_1 r384 x387 x388; exact f10_0_eq c lf l0_0 n0_1 r384 lf x387 x388
 rw [e0]; rfl
def f47_0_s (c : Orc) (lf : Nat) (l0 l1 : List T) (L : Int → Option (List T)) (x394 : Int) : Option (List T) :=
 bif iLt x394 (l0.length : Int) then
  bif inR x394 l0.length then
  bif inR x394 l1.length then
  bif (asI (l0.getD x394.toNat T.u)) != (asI (l1.getD x394.toNat T.u)) then
   some [T.i .i64 0, T.b false]
  else
   L (IntKind.wrap .i64 (x394 + 1))
  else none
  else none
 else
  some [T.i .i64 1]
def f47_0_c (l0 l1 : List T) (x394 : Int) : CSt := ⟨[.ro 0 false [.i .u8] l0, .ro 0 false [.i .u8] l1, .i .i64 x394], [.dead, .dead]⟩
theorem f47_0_round (c : Orc) (lf : Nat) (l0 l1 : List T) (L : CSt → Option (List T)) (x394 : Int) :
 qa8 c env lf 6 fi47 2 4 [] [0, 1, 5] (x47_4_0) L (f47_0_c l0 l1 x394) = f47_0_s c lf l0 l1 (fun x394 => L (f47_0_c l0 l1 x394)) x394 := by kernel_rfl
def f47_0 (c : Orc) (lf : Nat) (l0 l1 : List T) : Nat → Int → Option (List T)
 | 0 => fun _ => none
 | n + 1 => fun x394 => f47_0_s c lf l0 l1 (f47_0 c lf l0 l1 n) x394
theorem f47_0_u (c : Orc) (lf : Nat) (l0 l1 : List T) (n : Nat) (x394 : Int) : f47_0 c lf l0 l1 (n + 1) x394 = f47_0_s c lf l0 l1 (f47_0 c lf l0 l1 n) x394 := rfl
theorem f47_0_eq (c : Orc) (lf : Nat) (l0 l1 : List T) (n : Nat) (x394 : Int) :
 lpK c env lf 6 fi47 2 4 [] [0, 1, 5] (x47_4_0) n (f47_0_c l0 l1 x394) = f47_0 c lf l0 l1 n x394 := by
 induction n generalizing x394 with
 | zero => rfl
 | succ n ih =>
  refine (f47_0_round c lf l0 l1 _ x394).trans ?_
  have e : (fun x394 => lpK c env lf 6 fi47 2 4 [] [0, 1, 5] (x47_4_0) n (f47_0_c l0 l1 x394)) = f47_0 c lf l0 l1 n := by funext x394; exact ih x394
  show f47_0_s c lf l0 l1 (fun x394 => lpK c env lf 6 fi47 2 4 [] [0, 1, 5] (x47_4_0) n (f47_0_c l0 l1 x394)) x394 = _
  rw [e]; rfl
def f47_t (c : Orc) (lf : Nat) (lp0 : List T → List T → Int → Option (List T)) (l0 : List T) (l1 : List T) : Option (List T) :=
 bif (l0.length : Int) != (l1.length : Int) then
  some [T.b false]
 else
  (lp0 l0 l1 0).bind fun r395 =>
  bif asI (nth r395 0) == 0 then
   some [T.b (asB (nth r395 1))]
  else
   some [T.b true]
def f47 (c : Orc) (lf : Nat) (l0 l1 : List T) : Option (List T) := f47_t c lf (fun (l0 l1 : List T) (x394 : Int) => f47_0 c lf l0 l1 lf x394) l0 l1
theorem f47_raw (c : Orc) (lf : Nat) (l0 l1 : List T) : funK c env lf 6 fi47 [.sl l0, .sl l1] = f47_t c lf (fun (l0 l1 : List T) (x394 : Int) => lpK c env lf 6 fi47 2 4 [] [0, 1, 5] (x47_4_0) lf (f47_0_c l0 l1 x394)) l0 l1 := by kernel_rfl
theorem f47_eq (c : Orc) (lf : Nat) (l0 l1 : List T) : funK c env lf 6 fi47 [.sl l0, .sl l1] = f47 c lf l0 l1 := by
 refine (f47_raw c lf l0 l1).trans ?_
 have e0 : (fun (l0 l1 : List T) (x394 : Int) => lpK c env lf 6 fi47 2 4 [] [0, 1, 5] (x47_4_0) lf (f47_0_c l0 l1 x394)) = (fun (l0 l1 : List T) (x394 : Int) => f47_0 c lf l0 l1 lf x394) := by funext l0 l1 x394; exact f47_0_eq c lf l0 l1 lf x394
 rw [e0]; rfl
def f20_t (c : Orc) (lf : Nat) (s0_0 : ByteArray) (n0_1 : Int) (l0_2 l0_3 : List T) (s0_4 s1_0 : ByteArray) (n1_1 : Int) (l1_2 l1_3 : List T) (s1_4 : ByteArray) : Option (List T) :=
 bif s0_0.toList == s1_0.toList then
  bif n0_1 == n1_1 then
   bif s0_4.toList == s1_4.toList then
    (c 47 [T.sl l0_2, T.sl l1_2]).bind fun r396 =>
    bif asB (nth r396 0) then
     (c 18 [T.sl l0_3, T.sl l1_3]).bind fun r397 =>
     some [T.b (asB (nth r397 0))]
    else
     some [T.b false]
   else
    some [T.b false]
  else
   some [T.b false]
 else
  some [T.b false]
def f20 (c : Orc) (lf : Nat) (s0_0 : ByteArray) (n0_1 : Int) (l0_2 l0_3 : List T) (s0_4 s1_0 : ByteArray) (n1_1 : Int) (l1_2 l1_3 : List T) (s1_4 : ByteArray) : Option (List T) := f20_t c lf s0_0 n0_1 l0_2 l0_3 s0_4 s1_0 n1_1 l1_2 l1_3 s1_4
theorem f20_eq (c : Orc) (lf : Nat) (s0_0 : ByteArray) (n0_1 : Int) (l0_2 l0_3 : List T) (s0_4 s1_0 : ByteArray) (n1_1 : Int) (l1_2 l1_3 : List T) (s1_4 : ByteArray) : funK c env lf 6 fi20 [.st [.s s0_0, .i .i64 n0_1, .sl l0_2, .sl l0_3, .s s0_4], .st [.s s1_0, .i .i64 n1_1, .sl l1_2, .sl l1_3, .s s1_4]] = f20 c lf s0_0 n0_1 l0_2 l0_3 s0_4 s1_0 n1_1 l1_2 l1_3 s1_4 := by kernel_rfl
def f6_0_s (c : Orc) (lf : Nat) (r414 r415 : List T) (L : Int → Option (List T)) (x417 : Int) : Option (List T) :=
 bif iLt x417 ((asL (nth r414 0)).length : Int) then
  bif inR x417 ((asL (nth r414 0)).length) then
  bif inR x417 ((asL (nth r415 0)).length) then
  (c 20 [T.st [T.s (asS (T.cell ((asL (nth r414 0)).getD x417.toNat T.u) 0)), T.i .i64 (asI (T.cell ((asL (nth r414 0)).getD x417.toNat T.u) 1)), T.sl (asL (T.cell ((asL (nth r414 0)).getD x417.toNat T.u) 2)), T.sl (asL (T.cell ((asL (nth r414 0)).getD x417.toNat T.u) 3)), T.s (asS (T.cell ((asL (nth r414 0)).getD x417.toNat T.u) 4))], T.st [T.s (asS (T.cell ((asL (nth r415 0)).getD x417.toNat T.u) 0)), T.i .i64 (asI (T.cell ((asL (nth r415 0)).getD x417.toNat T.u) 1)), T.sl (asL (T.cell ((asL (nth r415 0)).getD x417.toNat T.u) 2)), T.sl (asL (T.cell ((asL (nth r415 0)).getD x417.toNat T.u) 3)), T.s (asS (T.cell ((asL (nth r415 0)).getD x417.toNat T.u) 4))]]).bind fun r418 =>
  bif !(asB (nth r418 0)) then
   some [T.i .i64 0, T.b false]
  else
   L (IntKind.wrap .i64 (x417 + 1))
  else none
  else none
 else
  some [T.i .i64 1]
def f6_0_c (r414 r415 : List T) (x417 : Int) : CSt := ⟨[.rf 4 [] 0 none, .rf 5 [] 0 none, .i .i64 x417], [.dead, .dead, .dead, .dead, .row true [.s, .i .i64, .sl false [.i .u8], .sl true [.s, .s], .s] (asL (nth r414 0)) 0 false, .row true [.s, .i .i64, .sl false [.i .u8], .sl true [.s, .s], .s] (asL (nth r415 0)) 0 false]⟩
theorem f6_0_round (c : Orc) (lf : Nat) (r414 r415 : List T) (L : CSt → Option (List T)) (x417 : Int) :
 qa8 c env lf 6 fi6 4 8 [] [5, 6, 7] (x6_8_0) L (f6_0_c r414 r415 x417) = f6_0_s c lf r414 r415 (fun x417 => L (f6_0_c r414 r415 x417)) x417 := by kernel_rfl
def f6_0 (c : Orc) (lf : Nat) (r414 r415 : List T) : Nat → Int → Option (List T)
 | 0 => fun _ => none
 | n + 1 => fun x417 => f6_0_s c lf r414 r415 (f6_0 c lf r414 r415 n) x417
theorem f6_0_u (c : Orc) (lf : Nat) (r414 r415 : List T) (n : Nat) (x417 : Int) : f6_0 c lf r414 r415 (n + 1) x417 = f6_0_s c lf r414 r415 (f6_0 c lf r414 r415 n) x417 := rfl
theorem f6_0_eq (c : Orc) (lf : Nat) (r414 r415 : List T) (n : Nat) (x417 : Int) :
 lpK c env lf 6 fi6 4 8 [] [5, 6, 7] (x6_8_0) n (f6_0_c r414 r415 x417) = f6_0 c lf r414 r415 n x417 := by
 induction n generalizing x417 with
 | zero => rfl
 | succ n ih =>
  refine (f6_0_round c lf r414 r415 _ x417).trans ?_
  have e : (fun x417 => lpK c env lf 6 fi6 4 8 [] [5, 6, 7] (x6_8_0) n (f6_0_c r414 r415 x417)) = f6_0 c lf r414 r415 n := by funext x417; exact ih x417
  show f6_0_s c lf r414 r415 (fun x417 => lpK c env lf 6 fi6 4 8 [] [5, 6, 7] (x6_8_0) n (f6_0_c r414 r415 x417)) x417 = _
  rw [e]; rfl
def f6_t (c : Orc) (lf : Nat) (lp0 : List T → List T → Int → Option (List T)) (l0_0 : List T) (n0_1 : Int) (l1_0 : List T) (n1_1 : Int) : Option (List T) :=
 (c 17 [T.st [T.sl l0_0, T.i .i64 n0_1]]).bind fun r409 =>
 bif !(asB (nth r409 0)) then
  some [T.b false]
 else
  (c 17 [T.st [T.sl l1_0, T.i .i64 n1_1]]).bind fun r410 =>
  bif !(asB (nth r410 0)) then
   some [T.b false]
  else
   (c 19 [T.st [T.sl l0_0, T.i .i64 n0_1]]).bind fun r411 =>
   (c 19 [T.st [T.sl l1_0, T.i .i64 n1_1]]).bind fun r412 =>
   (c 18 [T.sl (asL (nth r411 0)), T.sl (asL (nth r412 0))]).bind fun r413 =>
   bif !(asB (nth r413 0)) then
    some [T.b false]
   else
    (c 10 [T.st [T.sl l0_0, T.i .i64 n0_1]]).bind fun r414 =>
    (c 10 [T.st [T.sl l1_0, T.i .i64 n1_1]]).bind fun r415 =>
    bif ((asL (nth r414 0)).length : Int) != ((asL (nth r415 0)).length : Int) then
     some [T.b false]
    else
     (lp0 r414 r415 0).bind fun r419 =>
     bif asI (nth r419 0) == 0 then
      some [T.b (asB (nth r419 1))]
     else
      some [T.b true]
def f6 (c : Orc) (lf : Nat) (l0_0 : List T) (n0_1 : Int) (l1_0 : List T) (n1_1 : Int) : Option (List T) := f6_t c lf (fun (r414 r415 : List T) (x417 : Int) => f6_0 c lf r414 r415 lf x417) l0_0 n0_1 l1_0 n1_1
theorem f6_raw (c : Orc) (lf : Nat) (l0_0 : List T) (n0_1 : Int) (l1_0 : List T) (n1_1 : Int) : funK c env lf 6 fi6 [.st [.sl l0_0, .i .i64 n0_1], .st [.sl l1_0, .i .i64 n1_1]] = f6_t c lf (fun (r414 r415 : List T) (x417 : Int) => lpK c env lf 6 fi6 4 8 [] [5, 6, 7] (x6_8_0) lf (f6_0_c r414 r415 x417)) l0_0 n0_1 l1_0 n1_1 := by kernel_rfl
theorem f6_eq (c : Orc) (lf : Nat) (l0_0 : List T) (n0_1 : Int) (l1_0 : List T) (n1_1 : Int) : funK c env lf 6 fi6 [.st [.sl l0_0, .i .i64 n0_1], .st [.sl l1_0, .i .i64 n1_1]] = f6 c lf l0_0 n0_1 l1_0 n1_1 := by
 refine (f6_raw c lf l0_0 n0_1 l1_0 n1_1).trans ?_
 have e0 : (fun (r414 r415 : List T) (x417 : Int) => lpK c env lf 6 fi6 4 8 [] [5, 6, 7] (x6_8_0) lf (f6_0_c r414 r415 x417)) = (fun (r414 r415 : List T) (x417 : Int) => f6_0 c lf r414 r415 lf x417) := by funext r414 r415 x417; exact f6_0_eq c lf r414 r415 lf x417
 rw [e0]; rfl
def f76_t (c : Orc) (lf : Nat) (n0 n1 n2 : Int) : Option (List T) :=
 bif iLe n1 n0 then
  some [T.b (iLe n0 n2)]
 else
  some [T.b false]
def f76 (c : Orc) (lf : Nat) (n0 n1 n2 : Int) : Option (List T) := f76_t c lf n0 n1 n2
theorem f76_eq (c : Orc) (lf : Nat) (n0 n1 n2 : Int) : funK c env lf 6 fi76 [.i .i64 n0, .i .i64 n1, .i .i64 n2] = f76 c lf n0 n1 n2 := by kernel_rfl
def f101_0_s (c : Orc) (lf : Nat) (s0 : ByteArray) (L : Int → Option (List T)) (x422 : Int) : Option (List T) :=
 bif iLt x422 (s0.size : Int) then
  bif inR x422 s0.size then
  bif iLt (qad s0 x422) 97 then
   bif iLt (qad s0 x422) 48 then
    bif (qad s0 x422) != 95 then
     bif (qad s0 x422) != 45 then
      bif (qad s0 x422) != 46 then
       some [T.i .i64 0, T.b false]
      else
       L (IntKind.wrap .i64 (x422 + 1))
     else
      L (IntKind.wrap .i64 (x422 + 1))
    else
     L (IntKind.wrap .i64 (x422 + 1))
   else
    bif iLt 57 (qad s0 x422) then
     bif (qad s0 x422) != 95 then
      bif (qad s0 x422) != 45 then
       bif (qad s0 x422) != 46 then
        some [T.i .i64 0, T.b false]
       else
        L (IntKind.wrap .i64 (x422 + 1))
      else
       L (IntKind.wrap .i64 (x422 + 1))
     else
      L (IntKind.wrap .i64 (x422 + 1))
    else
     L (IntKind.wrap .i64 (x422 + 1))
  else
   bif iLt 122 (qad s0 x422) then
    bif iLt (qad s0 x422) 48 then
     bif (qad s0 x422) != 95 then
      bif (qad s0 x422) != 45 then
       bif (qad s0 x422) != 46 then
        some [T.i .i64 0, T.b false]
       else
        L (IntKind.wrap .i64 (x422 + 1))
      else
       L (IntKind.wrap .i64 (x422 + 1))
     else
      L (IntKind.wrap .i64 (x422 + 1))
    else
     bif iLt 57 (qad s0 x422) then
      bif (qad s0 x422) != 95 then
       bif (qad s0 x422) != 45 then
        bif (qad s0 x422) != 46 then
         some [T.i .i64 0, T.b false]
        else
         L (IntKind.wrap .i64 (x422 + 1))
       else
        L (IntKind.wrap .i64 (x422 + 1))
      else
       L (IntKind.wrap .i64 (x422 + 1))
     else
      L (IntKind.wrap .i64 (x422 + 1))
   else
    L (IntKind.wrap .i64 (x422 + 1))
  else none
 else
  some [T.i .i64 1, T.s s0]
def f101_0_c (s0 : ByteArray) (x422 : Int) : CSt := ⟨[.s s0, .i .i64 (s0.size : Int), .i .i64 x422], [.dead]⟩
theorem f101_0_round (c : Orc) (lf : Nat) (s0 : ByteArray) (L : CSt → Option (List T)) (x422 : Int) :
 qa8 c env lf 6 fi101 1 2 [] [0, 6, 7] (x101_2_0) L (f101_0_c s0 x422) = f101_0_s c lf s0 (fun x422 => L (f101_0_c s0 x422)) x422 := by kernel_rfl
def f101_0 (c : Orc) (lf : Nat) (s0 : ByteArray) : Nat → Int → Option (List T)
 | 0 => fun _ => none
 | n + 1 => fun x422 => f101_0_s c lf s0 (f101_0 c lf s0 n) x422
theorem f101_0_eq (c : Orc) (lf : Nat) (s0 : ByteArray) (n : Nat) (x422 : Int) :
 lpK c env lf 6 fi101 1 2 [] [0, 6, 7] (x101_2_0) n (f101_0_c s0 x422) = f101_0 c lf s0 n x422 := by
 induction n generalizing x422 with
 | zero => rfl
 | succ n ih =>
  refine (f101_0_round c lf s0 _ x422).trans ?_
  have e : (fun x422 => lpK c env lf 6 fi101 1 2 [] [0, 6, 7] (x101_2_0) n (f101_0_c s0 x422)) = f101_0 c lf s0 n := by funext x422; exact ih x422
  show f101_0_s c lf s0 (fun x422 => lpK c env lf 6 fi101 1 2 [] [0, 6, 7] (x101_2_0) n (f101_0_c s0 x422)) x422 = _
  rw [e]; rfl
def f101_t (c : Orc) (lf : Nat) (lp0 : ByteArray → Int → Option (List T)) (s0 : ByteArray) : Option (List T) :=
 (lp0 s0 0).bind fun r423 =>
 bif asI (nth r423 0) == 0 then
  some [T.b (asB (nth r423 1))]
 else
  bif iLe 1 ((asS (nth r423 1)).size : Int) then
   bif iLe ((asS (nth r423 1)).size : Int) 14 then
    bif !((asS (nth r423 1)).toList == (⟨#[46]⟩ : ByteArray).toList) then
     some [T.b (!((asS (nth r423 1)).toList == (⟨#[46, 46]⟩ : ByteArray).toList))]
    else
     some [T.b false]
   else
    some [T.b false]
  else
   some [T.b false]
def f101 (c : Orc) (lf : Nat) (s0 : ByteArray) : Option (List T) := f101_t c lf (fun (s0 : ByteArray) (x422 : Int) => f101_0 c lf s0 lf x422) s0
theorem f101_raw (c : Orc) (lf : Nat) (s0 : ByteArray) : funK c env lf 6 fi101 [.s s0] = f101_t c lf (fun (s0 : ByteArray) (x422 : Int) => lpK c env lf 6 fi101 1 2 [] [0, 6, 7] (x101_2_0) lf (f101_0_c s0 x422)) s0 := by kernel_rfl
theorem f101_eq (c : Orc) (lf : Nat) (s0 : ByteArray) : funK c env lf 6 fi101 [.s s0] = f101 c lf s0 := by
 refine (f101_raw c lf s0).trans ?_
 have e0 : (fun (s0 : ByteArray) (x422 : Int) => lpK c env lf 6 fi101 1 2 [] [0, 6, 7] (x101_2_0) lf (f101_0_c s0 x422)) = (fun (s0 : ByteArray) (x422 : Int) => f101_0 c lf s0 lf x422) := by funext s0 x422; exact f101_0_eq c lf s0 lf x422
 rw [e0]; rfl
def f100_0_s (c : Orc) (lf : Nat) (l0 : List T) (L : Int → Option (List T)) (x432 : Int) : Option (List T) :=
 bif iLt x432 (l0.length : Int) then
  bif inR x432 l0.length then
  (c 101 [T.s (asS (T.cell (l0.getD x432.toNat T.u) 0))]).bind fun r433 =>
  bif !(asB (nth r433 0)) then
   some [T.i .i64 0, T.b false]
  else
   (c 76 [T.i .i64 ((asS (T.cell (l0.getD x432.toNat T.u) 1)).size : Int), T.i .i64 1, T.i .i64 16]).bind fun r434 =>
   bif !(asB (nth r434 0)) then
    some [T.i .i64 0, T.b false]
   else
    bif iLt 0 x432 then
     bif inR (IntKind.wrap .i64 (x432 - 1)) l0.length then
     bif !(Op.bytesLess (asS (T.cell (l0.getD ((IntKind.wrap .i64 (x432 - 1)).toNat) T.u) 0)).toList (asS (T.cell (l0.getD x432.toNat T.u) 0)).toList) then
      some [T.i .i64 0, T.b false]
     else
      L (IntKind.wrap .i64 (x432 + 1))
     else none
    else
     L (IntKind.wrap .i64 (x432 + 1))
  else none
 else
  some [T.i .i64 1, T.sl l0]
def f100_0_c (l0 : List T) (x432 : Int) : CSt := ⟨[.ro 0 true [.s, .s] l0, .ro 0 true [.s, .s] l0, .i .i64 (l0.length : Int), .i .i64 x432], [.dead]⟩
theorem f100_0_round (c : Orc) (lf : Nat) (l0 : List T) (L : CSt → Option (List T)) (x432 : Int) :
 qa8 c env lf 6 fi100 1 2 [] [0, 5, 6, 7] (x100_2_0) L (f100_0_c l0 x432) = f100_0_s c lf l0 (fun x432 => L (f100_0_c l0 x432)) x432 := by kernel_rfl
def f100_0 (c : Orc) (lf : Nat) (l0 : List T) : Nat → Int → Option (List T)
 | 0 => fun _ => none
 | n + 1 => fun x432 => f100_0_s c lf l0 (f100_0 c lf l0 n) x432
theorem f100_0_u (c : Orc) (lf : Nat) (l0 : List T) (n : Nat) (x432 : Int) : f100_0 c lf l0 (n + 1) x432 = f100_0_s c lf l0 (f100_0 c lf l0 n) x432 := rfl
theorem f100_0_eq (c : Orc) (lf : Nat) (l0 : List T) (n : Nat) (x432 : Int) :
 lpK c env lf 6 fi100 1 2 [] [0, 5, 6, 7] (x100_2_0) n (f100_0_c l0 x432) = f100_0 c lf l0 n x432 := by
 induction n generalizing x432 with
 | zero => rfl
 | succ n ih =>
  refine (f100_0_round c lf l0 _ x432).trans ?_
  have e : (fun x432 => lpK c env lf 6 fi100 1 2 [] [0, 5, 6, 7] (x100_2_0) n (f100_0_c l0 x432)) = f100_0 c lf l0 n := by funext x432; exact ih x432
  show f100_0_s c lf l0 (fun x432 => lpK c env lf 6 fi100 1 2 [] [0, 5, 6, 7] (x100_2_0) n (f100_0_c l0 x432)) x432 = _
  rw [e]; rfl
def f100_t (c : Orc) (lf : Nat) (lp0 : List T → Int → Option (List T)) (l0 : List T) : Option (List T) :=
 (lp0 l0 0).bind fun r435 =>
 bif asI (nth r435 0) == 0 then
  some [T.b (asB (nth r435 1))]
 else
  some [T.b (iLe ((asL (nth r435 1)).length : Int) 4)]
def f100 (c : Orc) (lf : Nat) (l0 : List T) : Option (List T) := f100_t c lf (fun (l0 : List T) (x432 : Int) => f100_0 c lf l0 lf x432) l0
theorem f100_raw (c : Orc) (lf : Nat) (l0 : List T) : funK c env lf 6 fi100 [.sl l0] = f100_t c lf (fun (l0 : List T) (x432 : Int) => lpK c env lf 6 fi100 1 2 [] [0, 5, 6, 7] (x100_2_0) lf (f100_0_c l0 x432)) l0 := by kernel_rfl
theorem f100_eq (c : Orc) (lf : Nat) (l0 : List T) : funK c env lf 6 fi100 [.sl l0] = f100 c lf l0 := by
 refine (f100_raw c lf l0).trans ?_
 have e0 : (fun (l0 : List T) (x432 : Int) => lpK c env lf 6 fi100 1 2 [] [0, 5, 6, 7] (x100_2_0) lf (f100_0_c l0 x432)) = (fun (l0 : List T) (x432 : Int) => f100_0 c lf l0 lf x432) := by funext l0 x432; exact f100_0_eq c lf l0 lf x432
 rw [e0]; rfl
def f77_0_s (c : Orc) (lf : Nat) (l0_3 l0_4 l0_5 : List T) (n0_0 n0_1 n0_2 : Int) (L : Int → Option (List T)) (x449 : Int) : Option (List T) :=
 bif iLt x449 (l0_4.length : Int) then
  bif inR x449 l0_4.length then
  (c 101 [T.s (asS (T.cell (l0_4.getD x449.toNat T.u) 0))]).bind fun r450 =>
  bif !(asB (nth r450 0)) then
   some [T.i .i64 0, T.b false]
  else
   (c 76 [T.i .i64 (asI (T.cell (l0_4.getD x449.toNat T.u) 1)), T.i .i64 2, T.i .i64 1000]).bind fun r451 =>
   bif !(asB (nth r451 0)) then
    some [T.i .i64 0, T.b false]
   else
    bif iLt 0 x449 then
     bif inR (IntKind.wrap .i64 (x449 - 1)) l0_4.length then
     bif !(Op.bytesLess (asS (T.cell (l0_4.getD ((IntKind.wrap .i64 (x449 - 1)).toNat) T.u) 0)).toList (asS (T.cell (l0_4.getD x449.toNat T.u) 0)).toList) then
      some [T.i .i64 0, T.b false]
     else
      L (IntKind.wrap .i64 (x449 + 1))
     else none
    else
     L (IntKind.wrap .i64 (x449 + 1))
  else none
 else
  some [T.i .i64 1, T.i .i64 n0_0, T.i .i64 n0_1, T.i .i64 n0_2, T.sl l0_3, T.sl l0_4, T.sl l0_5]
def f77_0_c (l0_3 l0_4 l0_5 : List T) (n0_0 n0_1 : Int) (n0_2 x449 : Int) : CSt := ⟨[.bp 6 0, .ro 0 true [.s, .i .i64] l0_4, .i .i64 (l0_4.length : Int), .i .i64 x449], [.dead, .dead, .dead, .dead, .dead, .dead, .box [.i .i64 n0_0, .i .i64 n0_1, .i .i64 n0_2, .ro 0 false [.i .u8] l0_3, .ro 0 true [.s, .i .i64] l0_4, .ro 0 true [.s, .s] l0_5]]⟩
theorem f77_0_round (c : Orc) (lf : Nat) (l0_3 l0_4 l0_5 : List T) (n0_0 n0_1 n0_2 : Int) (L : CSt → Option (List T)) (x449 : Int) :
 qa8 c env lf 6 fi77 6 4 [] [1, 28, 29, 30] (x77_4_0) L (f77_0_c l0_3 l0_4 l0_5 n0_0 n0_1 n0_2 x449) = f77_0_s c lf l0_3 l0_4 l0_5 n0_0 n0_1 n0_2 (fun x449 => L (f77_0_c l0_3 l0_4 l0_5 n0_0 n0_1 n0_2 x449)) x449 := by kernel_rfl
def f77_0 (c : Orc) (lf : Nat) (l0_3 l0_4 l0_5 : List T) (n0_0 n0_1 n0_2 : Int) : Nat → Int → Option (List T)
 | 0 => fun _ => none
 | n + 1 => fun x449 => f77_0_s c lf l0_3 l0_4 l0_5 n0_0 n0_1 n0_2 (f77_0 c lf l0_3 l0_4 l0_5 n0_0 n0_1 n0_2 n) x449
theorem f77_0_u (c : Orc) (lf : Nat) (l0_3 l0_4 l0_5 : List T) (n0_0 n0_1 n0_2 : Int) (n : Nat) (x449 : Int) : f77_0 c lf l0_3 l0_4 l0_5 n0_0 n0_1 n0_2 (n + 1) x449 = f77_0_s c lf l0_3 l0_4 l0_5 n0_0 n0_1 n0_2 (f77_0 c lf l0_3 l0_4 l0_5 n0_0 n0_1 n0_2 n) x449 := rfl
theorem f77_0_eq (c : Orc) (lf : Nat) (l0_3 l0_4 l0_5 : List T) (n0_0 n0_1 n0_2 : Int) (n : Nat) (x449 : Int) :
 lpK c env lf 6 fi77 6 4 [] [1, 28, 29, 30] (x77_4_0) n (f77_0_c l0_3 l0_4 l0_5 n0_0 n0_1 n0_2 x449) = f77_0 c lf l0_3 l0_4 l0_5 n0_0 n0_1 n0_2 n x449 := by
 induction n generalizing x449 with
 | zero => rfl
 | succ n ih =>
  refine (f77_0_round c lf l0_3 l0_4 l0_5 n0_0 n0_1 n0_2 _ x449).trans ?_
  have e : (fun x449 => lpK c env lf 6 fi77 6 4 [] [1, 28, 29, 30] (x77_4_0) n (f77_0_c l0_3 l0_4 l0_5 n0_0 n0_1 n0_2 x449)) = f77_0 c lf l0_3 l0_4 l0_5 n0_0 n0_1 n0_2 n := by funext x449; exact ih x449
  show f77_0_s c lf l0_3 l0_4 l0_5 n0_0 n0_1 n0_2 (fun x449 => lpK c env lf 6 fi77 6 4 [] [1, 28, 29, 30] (x77_4_0) n (f77_0_c l0_3 l0_4 l0_5 n0_0 n0_1 n0_2 x449)) x449 = _
  rw [e]; rfl
def f77_t (c : Orc) (lf : Nat) (lp0 : List T → List T → List T → Int → Int → Int → Int → Option (List T)) (n0_0 : Int) (n0_1 : Int) (n0_2 : Int) (l0_3 : List T) (l0_4 : List T) (l0_5 : List T) : Option (List T) :=
 (c 76 [T.i .i64 n0_0, T.i .i64 1, T.i .i64 1000]).bind fun r445 =>
 bif !(asB (nth r445 0)) then
  some [T.b false]
 else
  bif iLt 100 (l0_3.length : Int) then
   some [T.b false]
  else
   bif iLt 10 (l0_4.length : Int) then
    some [T.b false]
   else
    (c 100 [T.sl l0_5]).bind fun r446 =>
    bif !(asB (nth r446 0)) then
     some [T.b false]
    else
     (lp0 l0_3 l0_4 l0_5 n0_0 n0_1 n0_2 0).bind fun r452 =>
     bif asI (nth r452 0) == 0 then
      some [T.b (asB (nth r452 1))]
     else
      (c 76 [T.i .i64 (asI (nth r452 3)), T.i .i64 0, T.i .i64 1000]).bind fun r453 =>
      bif !(asB (nth r453 0)) then
       some [T.b false]
      else
       bif !(((asI (nth r452 3)) == 0) == ((asI (nth r452 1)) == 1)) then
        some [T.b false]
       else
        bif (asI (nth r452 2)) == 1 then
         some [T.b (((asL (nth r452 5)).length : Int) == 0)]
        else
         bif (asI (nth r452 2)) == 2 then
          bif ((asL (nth r452 4)).length : Int) == 0 then
           some [T.b (iLe (asI (nth r452 3)) 1)]
          else
           some [T.b false]
         else
          some [T.b false]
def f77 (c : Orc) (lf : Nat) (n0_0 n0_1 n0_2 : Int) (l0_3 l0_4 l0_5 : List T) : Option (List T) := f77_t c lf (fun (l0_3 l0_4 l0_5 : List T) (n0_0 n0_1 : Int) (n0_2 x449 : Int) => f77_0 c lf l0_3 l0_4 l0_5 n0_0 n0_1 n0_2 lf x449) n0_0 n0_1 n0_2 l0_3 l0_4 l0_5
theorem f77_raw (c : Orc) (lf : Nat) (n0_0 n0_1 n0_2 : Int) (l0_3 l0_4 l0_5 : List T) : funK c env lf 6 fi77 [.st [.i .i64 n0_0, .i .i64 n0_1, .i .i64 n0_2, .sl l0_3, .sl l0_4, .sl l0_5]] = f77_t c lf (fun (l0_3 l0_4 l0_5 : List T) (n0_0 n0_1 : Int) (n0_2 x449 : Int) => lpK c env lf 6 fi77 6 4 [] [1, 28, 29, 30] (x77_4_0) lf (f77_0_c l0_3 l0_4 l0_5 n0_0 n0_1 n0_2 x449)) n0_0 n0_1 n0_2 l0_3 l0_4 l0_5 := by kernel_rfl
theorem f77_eq (c : Orc) (lf : Nat) (n0_0 n0_1 n0_2 : Int) (l0_3 l0_4 l0_5 : List T) : funK c env lf 6 fi77 [.st [.i .i64 n0_0, .i .i64 n0_1, .i .i64 n0_2, .sl l0_3, .sl l0_4, .sl l0_5]] = f77 c lf n0_0 n0_1 n0_2 l0_3 l0_4 l0_5 := by
 refine (f77_raw c lf n0_0 n0_1 n0_2 l0_3 l0_4 l0_5).trans ?_
 have e0 : (fun (l0_3 l0_4 l0_5 : List T) (n0_0 n0_1 : Int) (n0_2 x449 : Int) => lpK c env lf 6 fi77 6 4 [] [1, 28, 29, 30] (x77_4_0) lf (f77_0_c l0_3 l0_4 l0_5 n0_0 n0_1 n0_2 x449)) = (fun (l0_3 l0_4 l0_5 : List T) (n0_0 n0_1 : Int) (n0_2 x449 : Int) => f77_0 c lf l0_3 l0_4 l0_5 n0_0 n0_1 n0_2 lf x449) := by funext l0_3 l0_4 l0_5 n0_0 n0_1 n0_2 x449; exact f77_0_eq c lf l0_3 l0_4 l0_5 n0_0 n0_1 n0_2 lf x449
 rw [e0]; rfl
def f52_0_s (c : Orc) (lf : Nat) (l0_0 : List T) (n1 : Int) (L : Int → Option (List T)) (x456 : Int) : Option (List T) :=
 bif iLt x456 (l0_0.length : Int) then
  bif inR x456 l0_0.length then
  bif (asI (T.cell (l0_0.getD x456.toNat T.u) 0)) == n1 then
   some [T.i .i64 0, T.i .i64 x456, T.i .i64 n1]
  else
   L (IntKind.wrap .i64 (x456 + 1))
  else none
 else
  some [T.i .i64 1, T.i .i64 n1]
def f52_0_c (l0_0 : List T) (n1 x456 : Int) : CSt := ⟨[.ro 0 true [.i .i64, .i .i64, .i .i64, .sl false [.i .u8], .sl true [.s, .i .i64], .sl true [.s, .s]] l0_0, .fn 81 [.bp 0 0], .i .i64 (l0_0.length : Int), .i .i64 x456], [.box [.i .i64 n1]]⟩
theorem f52_0_round (c : Orc) (lf : Nat) (l0_0 : List T) (n1 : Int) (L : CSt → Option (List T)) (x456 : Int) :
 qa8 c env lf 5 fi80 1 2 [] [0, 1, 7, 8] (x80_2_0) L (f52_0_c l0_0 n1 x456) = f52_0_s c lf l0_0 n1 (fun x456 => L (f52_0_c l0_0 n1 x456)) x456 := by kernel_rfl
def f52_0 (c : Orc) (lf : Nat) (l0_0 : List T) (n1 : Int) : Nat → Int → Option (List T)
 | 0 => fun _ => none
 | n + 1 => fun x456 => f52_0_s c lf l0_0 n1 (f52_0 c lf l0_0 n1 n) x456
theorem f52_0_u (c : Orc) (lf : Nat) (l0_0 : List T) (n1 : Int) (n : Nat) (x456 : Int) : f52_0 c lf l0_0 n1 (n + 1) x456 = f52_0_s c lf l0_0 n1 (f52_0 c lf l0_0 n1 n) x456 := rfl
theorem f52_0_eq (c : Orc) (lf : Nat) (l0_0 : List T) (n1 : Int) (n : Nat) (x456 : Int) :
 lpK c env lf 5 fi80 1 2 [] [0, 1, 7, 8] (x80_2_0) n (f52_0_c l0_0 n1 x456) = f52_0 c lf l0_0 n1 n x456 := by
 induction n generalizing x456 with
 | zero => rfl
 | succ n ih =>
  refine (f52_0_round c lf l0_0 n1 _ x456).trans ?_
  have e : (fun x456 => lpK c env lf 5 fi80 1 2 [] [0, 1, 7, 8] (x80_2_0) n (f52_0_c l0_0 n1 x456)) = f52_0 c lf l0_0 n1 n := by funext x456; exact ih x456
  show f52_0_s c lf l0_0 n1 (fun x456 => lpK c env lf 5 fi80 1 2 [] [0, 1, 7, 8] (x80_2_0) n (f52_0_c l0_0 n1 x456)) x456 = _
  rw [e]; rfl
def f52_t (c : Orc) (lf : Nat) (lp0 : List T → Int → Int → Option (List T)) (l0_0 : List T) (n0_1 : Int) (n1 : Int) : Option (List T) :=
 (lp0 l0_0 n1 0).bind fun r457 =>
 bif asI (nth r457 0) == 0 then
  some [T.i .i64 (asI (nth r457 1))]
 else
  some [T.i .i64 (-1)]
def f52 (c : Orc) (lf : Nat) (l0_0 : List T) (n0_1 n1 : Int) : Option (List T) := f52_t c lf (fun (l0_0 : List T) (n1 x456 : Int) => f52_0 c lf l0_0 n1 lf x456) l0_0 n0_1 n1
theorem f52_raw (c : Orc) (lf : Nat) (l0_0 : List T) (n0_1 n1 : Int) : funK c env lf 6 fi52 [.st [.sl l0_0, .i .i64 n0_1], .i .i64 n1] = f52_t c lf (fun (l0_0 : List T) (n1 x456 : Int) => lpK c env lf 5 fi80 1 2 [] [0, 1, 7, 8] (x80_2_0) lf (f52_0_c l0_0 n1 x456)) l0_0 n0_1 n1 := by kernel_rfl
theorem f52_eq (c : Orc) (lf : Nat) (l0_0 : List T) (n0_1 n1 : Int) : funK c env lf 6 fi52 [.st [.sl l0_0, .i .i64 n0_1], .i .i64 n1] = f52 c lf l0_0 n0_1 n1 := by
 refine (f52_raw c lf l0_0 n0_1 n1).trans ?_
 have e0 : (fun (l0_0 : List T) (n1 x456 : Int) => lpK c env lf 5 fi80 1 2 [] [0, 1, 7, 8] (x80_2_0) lf (f52_0_c l0_0 n1 x456)) = (fun (l0_0 : List T) (n1 x456 : Int) => f52_0 c lf l0_0 n1 lf x456) := by funext l0_0 n1 x456; exact f52_0_eq c lf l0_0 n1 lf x456
 rw [e0]; rfl
def f53_t (c : Orc) (lf : Nat) (n0_0 n0_1 n0_2 : Int) (l0_3 l0_4 l0_5 : List T) : Option (List T) :=
 (c 82 [T.sl l0_3]).bind fun r458 =>
 (c 83 [T.sl l0_4]).bind fun r459 =>
 (c 84 [T.sl l0_5]).bind fun r460 =>
 some [T.st [T.i .i64 n0_0, T.i .i64 n0_1, T.i .i64 n0_2, T.sl (asL (nth r458 0)), T.sl (asL (nth r459 0)), T.sl (asL (nth r460 0))]]
def f53 (c : Orc) (lf : Nat) (n0_0 n0_1 n0_2 : Int) (l0_3 l0_4 l0_5 : List T) : Option (List T) := f53_t c lf n0_0 n0_1 n0_2 l0_3 l0_4 l0_5
theorem f53_eq (c : Orc) (lf : Nat) (n0_0 n0_1 n0_2 : Int) (l0_3 l0_4 l0_5 : List T) : funK c env lf 6 fi53 [.st [.i .i64 n0_0, .i .i64 n0_1, .i .i64 n0_2, .sl l0_3, .sl l0_4, .sl l0_5]] = f53 c lf n0_0 n0_1 n0_2 l0_3 l0_4 l0_5 := by kernel_rfl
def f23_t (c : Orc) (lf : Nat) (l0_0 : List T) (n0_1 n1 : Int) : Option (List T) :=
 (c 52 [T.st [T.sl l0_0, T.i .i64 n0_1], T.i .i64 n1]).bind fun r461 =>
 bif iLt (asI (nth r461 0)) 0 then
  some [T.st [T.i .i64 0, T.i .i64 0, T.i .i64 0, T.sl [], T.sl [], T.sl []], T.b false]
 else
  bif inR (asI (nth r461 0)) l0_0.length then
  (c 53 [T.st [T.i .i64 (asI (T.cell (l0_0.getD ((asI (nth r461 0)).toNat) T.u) 0)), T.i .i64 (asI (T.cell (l0_0.getD ((asI (nth r461 0)).toNat) T.u) 1)), T.i .i64 (asI (T.cell (l0_0.getD ((asI (nth r461 0)).toNat) T.u) 2)), T.sl (asL (T.cell (l0_0.getD ((asI (nth r461 0)).toNat) T.u) 3)), T.sl (asL (T.cell (l0_0.getD ((asI (nth r461 0)).toNat) T.u) 4)), T.sl (asL (T.cell (l0_0.getD ((asI (nth r461 0)).toNat) T.u) 5))]]).bind fun r462 =>
  some [T.st [T.i .i64 (asI (T.cell (nth r462 0) 0)), T.i .i64 (asI (T.cell (nth r462 0) 1)), T.i .i64 (asI (T.cell (nth r462 0) 2)), T.sl (asL (T.cell (nth r462 0) 3)), T.sl (asL (T.cell (nth r462 0) 4)), T.sl (asL (T.cell (nth r462 0) 5))], T.b true]
  else none
def f23 (c : Orc) (lf : Nat) (l0_0 : List T) (n0_1 n1 : Int) : Option (List T) := f23_t c lf l0_0 n0_1 n1
theorem f23_eq (c : Orc) (lf : Nat) (l0_0 : List T) (n0_1 n1 : Int) : funK c env lf 6 fi23 [.st [.sl l0_0, .i .i64 n0_1], .i .i64 n1] = f23 c lf l0_0 n0_1 n1 := by kernel_rfl
def f49_0_s (c : Orc) (lf : Nat) (l0_0 : List T) (n0_1 : Int) (L : Int → Option (List T)) (x471 : Int) : Option (List T) :=
 bif iLt x471 (l0_0.length : Int) then
  bif inR x471 l0_0.length then
  (c 77 [T.st [T.i .i64 (asI (T.cell (l0_0.getD x471.toNat T.u) 0)), T.i .i64 (asI (T.cell (l0_0.getD x471.toNat T.u) 1)), T.i .i64 (asI (T.cell (l0_0.getD x471.toNat T.u) 2)), T.sl (asL (T.cell (l0_0.getD x471.toNat T.u) 3)), T.sl (asL (T.cell (l0_0.getD x471.toNat T.u) 4)), T.sl (asL (T.cell (l0_0.getD x471.toNat T.u) 5))]]).bind fun r472 =>
  bif !(asB (nth r472 0)) then
   some [T.i .i64 0, T.b false]
  else
   bif iLe n0_1 (asI (T.cell (l0_0.getD x471.toNat T.u) 0)) then
    some [T.i .i64 0, T.b false]
   else
    bif iLt 0 x471 then
     bif inR (IntKind.wrap .i64 (x471 - 1)) l0_0.length then
     bif iLe (asI (T.cell (l0_0.getD x471.toNat T.u) 0)) (asI (T.cell (l0_0.getD ((IntKind.wrap .i64 (x471 - 1)).toNat) T.u) 0)) then
      some [T.i .i64 0, T.b false]
     else
      L (IntKind.wrap .i64 (x471 + 1))
     else none
    else
     L (IntKind.wrap .i64 (x471 + 1))
  else none
 else
  some [T.i .i64 1, T.sl l0_0, T.i .i64 n0_1]
def f49_0_c (l0_0 : List T) (n0_1 x471 : Int) : CSt := ⟨[.bp 2 0, .ro 0 true [.i .i64, .i .i64, .i .i64, .sl false [.i .u8], .sl true [.s, .i .i64], .sl true [.s, .s]] l0_0, .i .i64 (l0_0.length : Int), .i .i64 x471], [.dead, .dead, .box [.ro 0 true [.i .i64, .i .i64, .i .i64, .sl false [.i .u8], .sl true [.s, .i .i64], .sl true [.s, .s]] l0_0, .i .i64 n0_1]]⟩
theorem f49_0_round (c : Orc) (lf : Nat) (l0_0 : List T) (n0_1 : Int) (L : CSt → Option (List T)) (x471 : Int) :
 qa8 c env lf 6 fi49 2 4 [] [1, 18, 19, 20] (x49_4_0) L (f49_0_c l0_0 n0_1 x471) = f49_0_s c lf l0_0 n0_1 (fun x471 => L (f49_0_c l0_0 n0_1 x471)) x471 := by kernel_rfl
def f49_0 (c : Orc) (lf : Nat) (l0_0 : List T) (n0_1 : Int) : Nat → Int → Option (List T)
 | 0 => fun _ => none
 | n + 1 => fun x471 => f49_0_s c lf l0_0 n0_1 (f49_0 c lf l0_0 n0_1 n) x471
theorem f49_0_u (c : Orc) (lf : Nat) (l0_0 : List T) (n0_1 : Int) (n : Nat) (x471 : Int) : f49_0 c lf l0_0 n0_1 (n + 1) x471 = f49_0_s c lf l0_0 n0_1 (f49_0 c lf l0_0 n0_1 n) x471 := rfl
theorem f49_0_eq (c : Orc) (lf : Nat) (l0_0 : List T) (n0_1 : Int) (n : Nat) (x471 : Int) :
 lpK c env lf 6 fi49 2 4 [] [1, 18, 19, 20] (x49_4_0) n (f49_0_c l0_0 n0_1 x471) = f49_0 c lf l0_0 n0_1 n x471 := by
 induction n generalizing x471 with
 | zero => rfl
 | succ n ih =>
  refine (f49_0_round c lf l0_0 n0_1 _ x471).trans ?_
  have e : (fun x471 => lpK c env lf 6 fi49 2 4 [] [1, 18, 19, 20] (x49_4_0) n (f49_0_c l0_0 n0_1 x471)) = f49_0 c lf l0_0 n0_1 n := by funext x471; exact ih x471
  show f49_0_s c lf l0_0 n0_1 (fun x471 => lpK c env lf 6 fi49 2 4 [] [1, 18, 19, 20] (x49_4_0) n (f49_0_c l0_0 n0_1 x471)) x471 = _
  rw [e]; rfl
def f49_t (c : Orc) (lf : Nat) (lp0 : List T → Int → Int → Option (List T)) (l0_0 : List T) (n0_1 : Int) : Option (List T) :=
 bif iLt 30 (l0_0.length : Int) then
  some [T.b false]
 else
  (c 76 [T.i .i64 n0_1, T.i .i64 2, T.i .i64 1000]).bind fun r469 =>
  bif !(asB (nth r469 0)) then
   some [T.b false]
  else
   (lp0 l0_0 n0_1 0).bind fun r473 =>
   bif asI (nth r473 0) == 0 then
    some [T.b (asB (nth r473 1))]
   else
    (c 23 [T.st [T.sl (asL (nth r473 1)), T.i .i64 (asI (nth r473 2))], T.i .i64 1]).bind fun r474 =>
    bif asB (nth r474 1) then
     some [T.b ((asI (T.cell (nth r474 0) 1)) == 2)]
    else
     some [T.b false]
def f49 (c : Orc) (lf : Nat) (l0_0 : List T) (n0_1 : Int) : Option (List T) := f49_t c lf (fun (l0_0 : List T) (n0_1 x471 : Int) => f49_0 c lf l0_0 n0_1 lf x471) l0_0 n0_1
theorem f49_raw (c : Orc) (lf : Nat) (l0_0 : List T) (n0_1 : Int) : funK c env lf 6 fi49 [.st [.sl l0_0, .i .i64 n0_1]] = f49_t c lf (fun (l0_0 : List T) (n0_1 x471 : Int) => lpK c env lf 6 fi49 2 4 [] [1, 18, 19, 20] (x49_4_0) lf (f49_0_c l0_0 n0_1 x471)) l0_0 n0_1 := by kernel_rfl
theorem f49_eq (c : Orc) (lf : Nat) (l0_0 : List T) (n0_1 : Int) : funK c env lf 6 fi49 [.st [.sl l0_0, .i .i64 n0_1]] = f49 c lf l0_0 n0_1 := by
 refine (f49_raw c lf l0_0 n0_1).trans ?_
 have e0 : (fun (l0_0 : List T) (n0_1 x471 : Int) => lpK c env lf 6 fi49 2 4 [] [1, 18, 19, 20] (x49_4_0) lf (f49_0_c l0_0 n0_1 x471)) = (fun (l0_0 : List T) (n0_1 x471 : Int) => f49_0 c lf l0_0 n0_1 lf x471) := by funext l0_0 n0_1 x471; exact f49_0_eq c lf l0_0 n0_1 lf x471
 rw [e0]; rfl
def f102_0_s (c : Orc) (lf : Nat) (l0 : List T) (n1 : Int) (L : Int → Option (List T)) (x477 : Int) : Option (List T) :=
 bif iLt x477 (l0.length : Int) then
  bif inR x477 l0.length then
  bif n1 == (asI (l0.getD x477.toNat T.u)) then
   some [T.i .i64 0, T.i .i64 x477]
  else
   L (IntKind.wrap .i64 (x477 + 1))
  else none
 else
  some [T.i .i64 1]
def f102_0_c (l0 : List T) (n1 x477 : Int) : CSt := ⟨[.ro 0 false [.i .i64] l0, .i .i64 n1, .i .i64 (l0.length : Int), .i .i64 x477], [.dead, .dead]⟩
theorem f102_0_round (c : Orc) (lf : Nat) (l0 : List T) (n1 : Int) (L : CSt → Option (List T)) (x477 : Int) :
 qa8 c env lf 6 fi102 2 2 [] [0, 1, 7, 8] (x102_2_0) L (f102_0_c l0 n1 x477) = f102_0_s c lf l0 n1 (fun x477 => L (f102_0_c l0 n1 x477)) x477 := by kernel_rfl
def f102_0 (c : Orc) (lf : Nat) (l0 : List T) (n1 : Int) : Nat → Int → Option (List T)
 | 0 => fun _ => none
 | n + 1 => fun x477 => f102_0_s c lf l0 n1 (f102_0 c lf l0 n1 n) x477
theorem f102_0_u (c : Orc) (lf : Nat) (l0 : List T) (n1 : Int) (n : Nat) (x477 : Int) : f102_0 c lf l0 n1 (n + 1) x477 = f102_0_s c lf l0 n1 (f102_0 c lf l0 n1 n) x477 := rfl
theorem f102_0_eq (c : Orc) (lf : Nat) (l0 : List T) (n1 : Int) (n : Nat) (x477 : Int) :
 lpK c env lf 6 fi102 2 2 [] [0, 1, 7, 8] (x102_2_0) n (f102_0_c l0 n1 x477) = f102_0 c lf l0 n1 n x477 := by
 induction n generalizing x477 with
 | zero => rfl
 | succ n ih =>
  refine (f102_0_round c lf l0 n1 _ x477).trans ?_
  have e : (fun x477 => lpK c env lf 6 fi102 2 2 [] [0, 1, 7, 8] (x102_2_0) n (f102_0_c l0 n1 x477)) = f102_0 c lf l0 n1 n := by funext x477; exact ih x477
  show f102_0_s c lf l0 n1 (fun x477 => lpK c env lf 6 fi102 2 2 [] [0, 1, 7, 8] (x102_2_0) n (f102_0_c l0 n1 x477)) x477 = _
  rw [e]; rfl
def f102_t (c : Orc) (lf : Nat) (lp0 : List T → Int → Int → Option (List T)) (l0 : List T) (n1 : Int) : Option (List T) :=
 (lp0 l0 n1 0).bind fun r478 =>
 bif asI (nth r478 0) == 0 then
  some [T.i .i64 (asI (nth r478 1))]
 else
  some [T.i .i64 (-1)]
def f102 (c : Orc) (lf : Nat) (l0 : List T) (n1 : Int) : Option (List T) := f102_t c lf (fun (l0 : List T) (n1 x477 : Int) => f102_0 c lf l0 n1 lf x477) l0 n1
theorem f102_raw (c : Orc) (lf : Nat) (l0 : List T) (n1 : Int) : funK c env lf 6 fi102 [.sl l0, .i .i64 n1] = f102_t c lf (fun (l0 : List T) (n1 x477 : Int) => lpK c env lf 6 fi102 2 2 [] [0, 1, 7, 8] (x102_2_0) lf (f102_0_c l0 n1 x477)) l0 n1 := by kernel_rfl
theorem f102_eq (c : Orc) (lf : Nat) (l0 : List T) (n1 : Int) : funK c env lf 6 fi102 [.sl l0, .i .i64 n1] = f102 c lf l0 n1 := by
 refine (f102_raw c lf l0 n1).trans ?_
 have e0 : (fun (l0 : List T) (n1 x477 : Int) => lpK c env lf 6 fi102 2 2 [] [0, 1, 7, 8] (x102_2_0) lf (f102_0_c l0 n1 x477)) = (fun (l0 : List T) (n1 x477 : Int) => f102_0 c lf l0 n1 lf x477) := by funext l0 n1 x477; exact f102_0_eq c lf l0 n1 lf x477
 rw [e0]; rfl
def f78_t (c : Orc) (lf : Nat) (l0 : List T) (n1 : Int) : Option (List T) :=
 (c 102 [T.sl l0, T.i .i64 n1]).bind fun r479 =>
 some [T.b (iLe 0 (asI (nth r479 0)))]
def f78 (c : Orc) (lf : Nat) (l0 : List T) (n1 : Int) : Option (List T) := f78_t c lf l0 n1
theorem f78_eq (c : Orc) (lf : Nat) (l0 : List T) (n1 : Int) : funK c env lf 6 fi78 [.sl l0, .i .i64 n1] = f78 c lf l0 n1 := by kernel_rfl
def f50_1_s (c : Orc) (lf : Nat) (r515 : List T) (x509 : Nat) (x511 : List T) (x512 : Int) (x513 x514 : List T) (L : Nat → Nat → Int → List T → Option (List T)) (x517 : Nat) (x518 : Nat) (x519 : Int) (x520 : List T) : Option (List T) :=
 bif iLt x519 ((asL (T.cell (nth r515 0) 4)).length : Int) then
  bif inR x519 ((asL (T.cell (nth r515 0) 4)).length) then
  bif nLe (((x520.drop x517).take x518).length + ([T.i .i64 (asI (T.cell ((asL (T.cell (nth r515 0) 4)).getD x519.toNat T.u) 1))] : List T).length) LIM then
  L 0 ((((x520.drop x517).take x518) ++ ([T.i .i64 (asI (T.cell ((asL (T.cell (nth r515 0) 4)).getD x519.toNat T.u) 1))] : List T)).length) (IntKind.wrap .i64 (x519 + 1)) (((x520.drop x517).take x518) ++ ([T.i .i64 (asI (T.cell ((asL (T.cell (nth r515 0) 4)).getD x519.toNat T.u) 1))] : List T))
  else none
  else none
 else
  some [T.i .i64 0, T.i .i64 (x517 : Int), T.i .i64 (x518 : Int), T.sl x511, T.i .i64 x512, T.sl (x513 ++ ([T.i .i64 (asI (x514.getD (x509 + 0) T.u))] : List T)), T.sl x520]
def f50_1_c (r515 : List T) (x509 : Nat) (x511 : List T) (x512 : Int) (x513 x514 : List T) (x517 x518 : Nat) (x519 : Int) (x520 : List T) : CSt := ⟨[.bp 2 0, .rf 3 [] 0 none, .rf 4 [] 0 (some (x517, x518)), .rf 5 [] 0 none, .i .i64 ((asL (T.cell (nth r515 0) 4)).length : Int), .i .i64 x519], [.dead, .dead, .box [.ro 0 true [.i .i64, .i .i64, .i .i64, .sl false [.i .u8], .sl true [.s, .i .i64], .sl true [.s, .s]] x511, .i .i64 x512], .row false [.i .i64] (x513 ++ ([T.i .i64 (asI (x514.getD (x509 + 0) T.u))] : List T)) 0 false, .row false [.i .i64] x520 0 false, .row true [.s, .i .i64] (asL (T.cell (nth r515 0) 4)) 0 false]⟩
theorem f50_1_round (c : Orc) (lf : Nat) (r515 : List T) (x509 : Nat) (x511 : List T) (x512 : Int) (x513 x514 : List T) (L : CSt → Option (List T)) (x517 : Nat) (x518 : Nat) (x519 : Int) (x520 : List T) :
 qa8 c env lf 6 fi50 2 11 [(4, 2)] [1, 3, 4, 41, 42, 43] (x50_11_0) L (f50_1_c r515 x509 x511 x512 x513 x514 x517 x518 x519 x520) = f50_1_s c lf r515 x509 x511 x512 x513 x514 (fun x517 x518 x519 x520 => L (f50_1_c r515 x509 x511 x512 x513 x514 x517 x518 x519 x520)) x517 x518 x519 x520 := by kernel_rfl
def f50_1 (c : Orc) (lf : Nat) (r515 : List T) (x509 : Nat) (x511 : List T) (x512 : Int) (x513 x514 : List T) : Nat → Nat → Nat → Int → List T → Option (List T)
 | 0 => fun _ _ _ _ => none
 | n + 1 => fun x517 x518 x519 x520 => f50_1_s c lf r515 x509 x511 x512 x513 x514 (f50_1 c lf r515 x509 x511 x512 x513 x514 n) x517 x518 x519 x520
theorem f50_1_u (c : Orc) (lf : Nat) (r515 : List T) (x509 : Nat) (x511 : List T) (x512 : Int) (x513 x514 : List T) (n x517 x518 : Nat) (x519 : Int) (x520 : List T) : f50_1 c lf r515 x509 x511 x512 x513 x514 (n + 1) x517 x518 x519 x520 = f50_1_s c lf r515 x509 x511 x512 x513 x514 (f50_1 c lf r515 x509 x511 x512 x513 x514 n) x517 x518 x519 x520 := rfl
theorem f50_1_eq (c : Orc) (lf : Nat) (r515 : List T) (x509 : Nat) (x511 : List T) (x512 : Int) (x513 x514 : List T) (n x517 x518 : Nat) (x519 : Int) (x520 : List T) :
 lpK c env lf 6 fi50 2 11 [(4, 2)] [1, 3, 4, 41, 42, 43] (x50_11_0) n (f50_1_c r515 x509 x511 x512 x513 x514 x517 x518 x519 x520) = f50_1 c lf r515 x509 x511 x512 x513 x514 n x517 x518 x519 x520 := by
 induction n generalizing x517 x518 x519 x520 with
 | zero => rfl
 | succ n ih =>
  refine (f50_1_round c lf r515 x509 x511 x512 x513 x514 _ x517 x518 x519 x520).trans ?_
  have e : (fun x517 x518 x519 x520 => lpK c env lf 6 fi50 2 11 [(4, 2)] [1, 3, 4, 41, 42, 43] (x50_11_0) n (f50_1_c r515 x509 x511 x512 x513 x514 x517 x518 x519 x520)) = f50_1 c lf r515 x509 x511 x512 x513 x514 n := by funext x517 x518 x519 x520; exact ih x517 x518 x519 x520
  show f50_1_s c lf r515 x509 x511 x512 x513 x514 (fun x517 x518 x519 x520 => lpK c env lf 6 fi50 2 11 [(4, 2)] [1, 3, 4, 41, 42, 43] (x50_11_0) n (f50_1_c r515 x509 x511 x512 x513 x514 x517 x518 x519 x520)) x517 x518 x519 x520 = _
  rw [e]; rfl
def f50_0_s (c : Orc) (lf : Nat) (L : Nat → Nat → List T → Int → List T → List T → Option (List T)) (lp0 : List T → Nat → List T → Int → List T → List T → Nat → Nat → Int → List T → Option (List T)) (x509 : Nat) (x510 : Nat) (x511 : List T) (x512 : Int) (x513 : List T) (x514 : List T) : Option (List T) :=
 bif iLt 0 (x510 : Int) then
  bif inR 0 x510 then
  bif iLe 0 1 && iLe 1 (x510 : Int) && iLe (x510 : Int) (x510 : Int) then
  (c 23 [T.st [T.sl x511, T.i .i64 x512], T.i .i64 (asI (x514.getD (x509 + 0) T.u))]).bind fun r515 =>
  bif !(asB (nth r515 1)) then
   L (x509 + 1) (((x510 : Int).toNat) - 1) x511 x512 x513 x514
  else
   (c 78 [T.sl x513, T.i .i64 (asI (x514.getD (x509 + 0) T.u))]).bind fun r516 =>
   bif asB (nth r516 0) then
    L (x509 + 1) (((x510 : Int).toNat) - 1) x511 x512 x513 x514
   else
    bif nLe (x513.length + ([T.i .i64 (asI (x514.getD (x509 + 0) T.u))] : List T).length) LIM then
    bif (asI (T.cell (nth r515 0) 1)) == 2 then
     (lp0 r515 x509 x511 x512 x513 x514 (x509 + 1) (((x510 : Int).toNat) - 1) 0 x514).bind fun r521 =>
     L ((asI (nth r521 1)).toNat) ((asI (nth r521 2)).toNat) (asL (nth r521 3)) (asI (nth r521 4)) (asL (nth r521 5)) (asL (nth r521 6))
    else
     L (x509 + 1) (((x510 : Int).toNat) - 1) x511 x512 (x513 ++ ([T.i .i64 (asI (x514.getD (x509 + 0) T.u))] : List T)) x514
    else none
  else none
  else none
 else
  some [T.i .i64 0, T.sl x513]
def f50_0_c (x509 x510 : Nat) (x511 : List T) (x512 : Int) (x513 x514 : List T) : CSt := ⟨[.bp 2 0, .rf 3 [] 0 none, .rf 4 [] 0 (some (x509, x510))], [.dead, .dead, .box [.ro 0 true [.i .i64, .i .i64, .i .i64, .sl false [.i .u8], .sl true [.s, .i .i64], .sl true [.s, .s]] x511, .i .i64 x512], .row false [.i .i64] x513 0 false, .row false [.i .i64] x514 0 false]⟩
theorem f50_0_round (c : Orc) (lf : Nat) (L : CSt → Option (List T)) (x509 : Nat) (x510 : Nat) (x511 : List T) (x512 : Int) (x513 : List T) (x514 : List T) :
 qa8 c env lf 6 fi50 2 3 [(4, 2)] [1, 3, 4] (x50_3_0) L (f50_0_c x509 x510 x511 x512 x513 x514) = f50_0_s c lf (fun x509 x510 x511 x512 x513 x514 => L (f50_0_c x509 x510 x511 x512 x513 x514)) (fun (r515 : List T) (x509 : Nat) (x511 : List T) (x512 : Int) (x513 x514 : List T) (x517 x518 : Nat) (x519 : Int) (x520 : List T) => lpK c env lf 6 fi50 2 11 [(4, 2)] [1, 3, 4, 41, 42, 43] (x50_11_0) lf (f50_1_c r515 x509 x511 x512 x513 x514 x517 x518 x519 x520)) x509 x510 x511 x512 x513 x514 := by kernel_rfl
def f50_0 (c : Orc) (lf : Nat) : Nat → Nat → Nat → List T → Int → List T → List T → Option (List T)
 | 0 => fun _ _ _ _ _ _ => none
 | n + 1 => fun x509 x510 x511 x512 x513 x514 => f50_0_s c lf (f50_0 c lf n) (fun (r515 : List T) (x509 : Nat) (x511 : List T) (x512 : Int) (x513 x514 : List T) (x517 x518 : Nat) (x519 : Int) (x520 : List T) => f50_1 c lf r515 x509 x511 x512 x513 x514 lf x517 x518 x519 x520) x509 x510 x511 x512 x513 x514
theorem f50_0_u (c : Orc) (lf n : Nat) (x509 x510 : Nat) (x511 : List T) (x512 : Int) (x513 x514 : List T) : f50_0 c lf (n + 1) x509 x510 x511 x512 x513 x514 = f50_0_s c lf (f50_0 c lf n) (fun (r515 : List T) (x509 : Nat) (x511 : List T) (x512 : Int) (x513 x514 : List T) (x517 x518 : Nat) (x519 : Int) (x520 : List T) => f50_1 c lf r515 x509 x511 x512 x513 x514 lf x517 x518 x519 x520) x509 x510 x511 x512 x513 x514 := rfl
theorem f50_0_eq (c : Orc) (lf n : Nat) (x509 x510 : Nat) (x511 : List T) (x512 : Int) (x513 x514 : List T) :
 lpK c env lf 6 fi50 2 3 [(4, 2)] [1, 3, 4] (x50_3_0) n (f50_0_c x509 x510 x511 x512 x513 x514) = f50_0 c lf n x509 x510 x511 x512 x513 x514 := by
 induction n generalizing x509 x510 x511 x512 x513 x514 with
 | zero => rfl
 | succ n ih =>
  refine (f50_0_round c lf _ x509 x510 x511 x512 x513 x514).trans ?_
  have e : (fun x509 x510 x511 x512 x513 x514 => lpK c env lf 6 fi50 2 3 [(4, 2)] [1, 3, 4] (x50_3_0) n (f50_0_c x509 x510 x511 x512 x513 x514)) = f50_0 c lf n := by funext x509 x510 x511 x512 x513 x514; exact ih x509 x510 x511 x512 x513 x514
  have e0 : (fun (r515 : List T) (x509 : Nat) (x511 : List T) (x512 : Int) (x513 x514 : List T) (x517 x518 : Nat) (x519 : Int) (x520 : List T) => lpK c env lf 6 fi50 2 11 [(4, 2)] [1, 3, 4, 41, 42, 43] (x50_11_0) lf (f50_1_c r515 x509 x511 x512 x513 x514 x517 x518 x519 x520)) = (fun (r515 : List T) (x509 : Nat) (x511 : List T) (x512 : Int) (x513 x514 : List T) (x517 x518 : Nat) (x519 : Int) (x520 : List T) => f50_1 c lf r515 x509 x511 x512 x513 x514 lf x517 x518 x519 x520) := by funext r515 x509 x511 x512 x513 x514 x517 x518 x519 x520; exact f50_1_eq c lf r515 x509 x511 x512 x513 x514 lf x517 x518 x519 x520
  show f50_0_s c lf (fun x509 x510 x511 x512 x513 x514 => lpK c env lf 6 fi50 2 3 [(4, 2)] [1, 3, 4] (x50_3_0) n (f50_0_c x509 x510 x511 x512 x513 x514)) (fun (r515 : List T) (x509 : Nat) (x511 : List T) (x512 : Int) (x513 x514 : List T) (x517 x518 : Nat) (x519 : Int) (x520 : List T) => lpK c env lf 6 fi50 2 11 [(4, 2)] [1, 3, 4, 41, 42, 43] (x50_11_0) lf (f50_1_c r515 x509 x511 x512 x513 x514 x517 x518 x519 x520)) x509 x510 x511 x512 x513 x514 = _
  rw [e, e0]; rfl
def f50_t (c : Orc) (lf : Nat) (lp0 : Nat → Nat → List T → Int → List T → List T → Option (List T)) (l0_0 : List T) (n0_1 : Int) : Option (List T) :=
 (lp0 0 (([T.i .i64 1] : List T).length) l0_0 n0_1 ([] : List T) ([T.i .i64 1] : List T)).bind fun r522 =>
 (c 79 [T.sl (asL (nth r522 1))]).bind fun r523 =>
 some [T.sl (asL (nth r523 0))]
def f50 (c : Orc) (lf : Nat) (l0_0 : List T) (n0_1 : Int) : Option (List T) := f50_t c lf (fun (x509 x510 : Nat) (x511 : List T) (x512 : Int) (x513 x514 : List T) => f50_0 c lf lf x509 x510 x511 x512 x513 x514) l0_0 n0_1
theorem f50_raw (c : Orc) (lf : Nat) (l0_0 : List T) (n0_1 : Int) : funK c env lf 6 fi50 [.st [.sl l0_0, .i .i64 n0_1]] = f50_t c lf (fun (x509 x510 : Nat) (x511 : List T) (x512 : Int) (x513 x514 : List T) => lpK c env lf 6 fi50 2 3 [(4, 2)] [1, 3, 4] (x50_3_0) lf (f50_0_c x509 x510 x511 x512 x513 x514)) l0_0 n0_1 := by kernel_rfl
theorem f50_eq (c : Orc) (lf : Nat) (l0_0 : List T) (n0_1 : Int) : funK c env lf 6 fi50 [.st [.sl l0_0, .i .i64 n0_1]] = f50 c lf l0_0 n0_1 := by
 refine (f50_raw c lf l0_0 n0_1).trans ?_
 have e0 : (fun (x509 x510 : Nat) (x511 : List T) (x512 : Int) (x513 x514 : List T) => lpK c env lf 6 fi50 2 3 [(4, 2)] [1, 3, 4] (x50_3_0) lf (f50_0_c x509 x510 x511 x512 x513 x514)) = (fun (x509 x510 : Nat) (x511 : List T) (x512 : Int) (x513 x514 : List T) => f50_0 c lf lf x509 x510 x511 x512 x513 x514) := by funext x509 x510 x511 x512 x513 x514; exact f50_0_eq c lf lf x509 x510 x511 x512 x513 x514
 rw [e0]; rfl
def f51_1_s (c : Orc) (lf : Nat) (x539 x540 : Int) (x542 : List T) (x543 : Int) (L : Int → Int → Option (List T)) (x544 : Int) (x545 : Int) : Option (List T) :=
 bif iLt x545 ((asL (T.cell (x542.getD x539.toNat T.u) 4)).length : Int) then
  bif inR x545 ((asL (T.cell (x542.getD x539.toNat T.u) 4)).length) then
  bif (asI (T.cell ((asL (T.cell (x542.getD x539.toNat T.u) 4)).getD x545.toNat T.u) 1)) == x540 then
   L (IntKind.wrap .i64 (x544 + 1)) (IntKind.wrap .i64 (x545 + 1))
  else
   L x544 (IntKind.wrap .i64 (x545 + 1))
  else none
 else
  some [T.i .i64 0, T.i .i64 x540, T.i .i64 x544, T.sl x542, T.i .i64 x543, T.i .i64 x539]
def f51_1_c (x539 x540 : Int) (x542 : List T) (x543 x544 x545 : Int) : CSt := ⟨[.i .i64 x540, .i .i64 x544, .ro 0 true [.i .i64, .i .i64, .i .i64, .sl false [.i .u8], .sl true [.s, .i .i64], .sl true [.s, .s]] x542, .i .i64 x543, .i .i64 x539, .ro 0 true [.s, .i .i64] (asL (T.cell (x542.getD x539.toNat T.u) 4)), .i .i64 ((asL (T.cell (x542.getD x539.toNat T.u) 4)).length : Int), .i .i64 x545], [.dead, .dead, .dead]⟩
theorem f51_1_round (c : Orc) (lf : Nat) (x539 x540 : Int) (x542 : List T) (x543 : Int) (L : CSt → Option (List T)) (x544 : Int) (x545 : Int) :
 qa8 c env lf 6 fi51 3 7 [] [1, 5, 11, 12, 13, 21, 22, 23] (x51_7_0) L (f51_1_c x539 x540 x542 x543 x544 x545) = f51_1_s c lf x539 x540 x542 x543 (fun x544 x545 => L (f51_1_c x539 x540 x542 x543 x544 x545)) x544 x545 := by kernel_rfl
def f51_1 (c : Orc) (lf : Nat) (x539 x540 : Int) (x542 : List T) (x543 : Int) : Nat → Int → Int → Option (List T)
 | 0 => fun _ _ => none
 | n + 1 => fun x544 x545 => f51_1_s c lf x539 x540 x542 x543 (f51_1 c lf x539 x540 x542 x543 n) x544 x545
theorem f51_1_u (c : Orc) (lf : Nat) (x539 x540 : Int) (x542 : List T) (x543 : Int) (n : Nat) (x544 x545 : Int) : f51_1 c lf x539 x540 x542 x543 (n + 1) x544 x545 = f51_1_s c lf x539 x540 x542 x543 (f51_1 c lf x539 x540 x542 x543 n) x544 x545 := rfl
theorem f51_1_eq (c : Orc) (lf : Nat) (x539 x540 : Int) (x542 : List T) (x543 : Int) (n : Nat) (x544 x545 : Int) :
 lpK c env lf 6 fi51 3 7 [] [1, 5, 11, 12, 13, 21, 22, 23] (x51_7_0) n (f51_1_c x539 x540 x542 x543 x544 x545) = f51_1 c lf x539 x540 x542 x543 n x544 x545 := by
 induction n generalizing x544 x545 with
 | zero => rfl
 | succ n ih =>
  refine (f51_1_round c lf x539 x540 x542 x543 _ x544 x545).trans ?_
  have e : (fun x544 x545 => lpK c env lf 6 fi51 3 7 [] [1, 5, 11, 12, 13, 21, 22, 23] (x51_7_0) n (f51_1_c x539 x540 x542 x543 x544 x545)) = f51_1 c lf x539 x540 x542 x543 n := by funext x544 x545; exact ih x544 x545
  show f51_1_s c lf x539 x540 x542 x543 (fun x544 x545 => lpK c env lf 6 fi51 3 7 [] [1, 5, 11, 12, 13, 21, 22, 23] (x51_7_0) n (f51_1_c x539 x540 x542 x543 x544 x545)) x544 x545 = _
  rw [e]; rfl
def f51_0_s (c : Orc) (lf : Nat) (L : Int → Int → List T → Int → Int → Option (List T)) (lp0 : Int → Int → List T → Int → Int → Int → Option (List T)) (x540 : Int) (x541 : Int) (x542 : List T) (x543 : Int) (x539 : Int) : Option (List T) :=
 bif iLt x539 x543 then
  bif inR x539 x542.length then
  bif (asI (T.cell (x542.getD x539.toNat T.u) 1)) != 2 then
   L x540 x541 x542 x543 (IntKind.wrap .i64 (x539 + 1))
  else
   (lp0 x539 x540 x542 x543 x541 0).bind fun r546 =>
   L (asI (nth r546 1)) (asI (nth r546 2)) (asL (nth r546 3)) (asI (nth r546 4)) (IntKind.wrap .i64 ((asI (nth r546 5)) + 1))
  else none
 else
  some [T.i .i64 0, T.i .i64 x541]
def f51_0_c (x540 x541 : Int) (x542 : List T) (x543 x539 : Int) : CSt := ⟨[.i .i64 x540, .i .i64 x541, .ro 0 true [.i .i64, .i .i64, .i .i64, .sl false [.i .u8], .sl true [.s, .i .i64], .sl true [.s, .s]] x542, .i .i64 x543, .i .i64 x539], [.dead, .dead, .dead]⟩
theorem f51_0_round (c : Orc) (lf : Nat) (L : CSt → Option (List T)) (x540 : Int) (x541 : Int) (x542 : List T) (x543 : Int) (x539 : Int) :
 qa8 c env lf 6 fi51 3 3 [] [1, 5, 11, 12, 13] (x51_3_0) L (f51_0_c x540 x541 x542 x543 x539) = f51_0_s c lf (fun x540 x541 x542 x543 x539 => L (f51_0_c x540 x541 x542 x543 x539)) (fun (x539 x540 : Int) (x542 : List T) (x543 x544 x545 : Int) => lpK c env lf 6 fi51 3 7 [] [1, 5, 11, 12, 13, 21, 22, 23] (x51_7_0) lf (f51_1_c x539 x540 x542 x543 x544 x545)) x540 x541 x542 x543 x539 := by kernel_rfl
def f51_0 (c : Orc) (lf : Nat) : Nat → Int → Int → List T → Int → Int → Option (List T)
 | 0 => fun _ _ _ _ _ => none
 | n + 1 => fun x540 x541 x542 x543 x539 => f51_0_s c lf (f51_0 c lf n) (fun (x539 x540 : Int) (x542 : List T) (x543 x544 x545 : Int) => f51_1 c lf x539 x540 x542 x543 lf x544 x545) x540 x541 x542 x543 x539
theorem f51_0_u (c : Orc) (lf n : Nat) (x540 x541 : Int) (x542 : List T) (x543 x539 : Int) : f51_0 c lf (n + 1) x540 x541 x542 x543 x539 = f51_0_s c lf (f51_0 c lf n) (fun (x539 x540 : Int) (x542 : List T) (x543 x544 x545 : Int) => f51_1 c lf x539 x540 x542 x543 lf x544 x545) x540 x541 x542 x543 x539 := rfl
theorem f51_0_eq (c : Orc) (lf n : Nat) (x540 x541 : Int) (x542 : List T) (x543 x539 : Int) :
 lpK c env lf 6 fi51 3 3 [] [1, 5, 11, 12, 13] (x51_3_0) n (f51_0_c x540 x541 x542 x543 x539) = f51_0 c lf n x540 x541 x542 x543 x539 := by
 induction n generalizing x540 x541 x542 x543 x539 with
 | zero => rfl
 | succ n ih =>
  refine (f51_0_round c lf _ x540 x541 x542 x543 x539).trans ?_
  have e : (fun x540 x541 x542 x543 x539 => lpK c env lf 6 fi51 3 3 [] [1, 5, 11, 12, 13] (x51_3_0) n (f51_0_c x540 x541 x542 x543 x539)) = f51_0 c lf n := by funext x540 x541 x542 x543 x539; exact ih x540 x541 x542 x543 x539
  have e0 : (fun (x539 x540 : Int) (x542 : List T) (x543 x544 x545 : Int) => lpK c env lf 6 fi51 3 7 [] [1, 5, 11, 12, 13, 21, 22, 23] (x51_7_0) lf (f51_1_c x539 x540 x542 x543 x544 x545)) = (fun (x539 x540 : Int) (x542 : List T) (x543 x544 x545 : Int) => f51_1 c lf x539 x540 x542 x543 lf x544 x545) := by funext x539 x540 x542 x543 x544 x545; exact f51_1_eq c lf x539 x540 x542 x543 lf x544 x545
  show f51_0_s c lf (fun x540 x541 x542 x543 x539 => lpK c env lf 6 fi51 3 3 [] [1, 5, 11, 12, 13] (x51_3_0) n (f51_0_c x540 x541 x542 x543 x539)) (fun (x539 x540 : Int) (x542 : List T) (x543 x544 x545 : Int) => lpK c env lf 6 fi51 3 7 [] [1, 5, 11, 12, 13, 21, 22, 23] (x51_7_0) lf (f51_1_c x539 x540 x542 x543 x544 x545)) x540 x541 x542 x543 x539 = _
  rw [e, e0]; rfl
def f51_t (c : Orc) (lf : Nat) (lp0 : Int → Int → List T → Int → Int → Option (List T)) (l0_0 : List T) (n0_1 : Int) (n1 : Int) : Option (List T) :=
 (lp0 n1 0 l0_0 (l0_0.length : Int) 0).bind fun r547 =>
 some [T.i .i64 (asI (nth r547 1))]
def f51 (c : Orc) (lf : Nat) (l0_0 : List T) (n0_1 n1 : Int) : Option (List T) := f51_t c lf (fun (x540 x541 : Int) (x542 : List T) (x543 x539 : Int) => f51_0 c lf lf x540 x541 x542 x543 x539) l0_0 n0_1 n1
theorem f51_raw (c : Orc) (lf : Nat) (l0_0 : List T) (n0_1 n1 : Int) : funK c env lf 6 fi51 [.st [.sl l0_0, .i .i64 n0_1], .i .i64 n1] = f51_t c lf (fun (x540 x541 : Int) (x542 : List T) (x543 x539 : Int) => lpK c env lf 6 fi51 3 3 [] [1, 5, 11, 12, 13] (x51_3_0) lf (f51_0_c x540 x541 x542 x543 x539)) l0_0 n0_1 n1 := by kernel_rfl
theorem f51_eq (c : Orc) (lf : Nat) (l0_0 : List T) (n0_1 n1 : Int) : funK c env lf 6 fi51 [.st [.sl l0_0, .i .i64 n0_1], .i .i64 n1] = f51 c lf l0_0 n0_1 n1 := by
 refine (f51_raw c lf l0_0 n0_1 n1).trans ?_
 have e0 : (fun (x540 x541 : Int) (x542 : List T) (x543 x539 : Int) => lpK c env lf 6 fi51 3 3 [] [1, 5, 11, 12, 13] (x51_3_0) lf (f51_0_c x540 x541 x542 x543 x539)) = (fun (x540 x541 : Int) (x542 : List T) (x543 x539 : Int) => f51_0 c lf lf x540 x541 x542 x543 x539) := by funext x540 x541 x542 x543 x539; exact f51_0_eq c lf lf x540 x541 x542 x543 x539
 rw [e0]; rfl
def f22_1_s (c : Orc) (lf : Nat) (x573 : List T) (x574 x575 : Int) (x576 : List T) (x577 : Int) (L : Int → Option (List T)) (x580 : Int) : Option (List T) :=
 bif iLt x580 ((asL (T.cell (x573.getD x575.toNat T.u) 4)).length : Int) then
  bif inR x580 ((asL (T.cell (x573.getD x575.toNat T.u) 4)).length) then
  (c 52 [T.st [T.sl x576, T.i .i64 x577], T.i .i64 (asI (T.cell ((asL (T.cell (x573.getD x575.toNat T.u) 4)).getD x580.toNat T.u) 1))]).bind fun r581 =>
  bif iLt (asI (nth r581 0)) 0 then
   some [T.i .i64 0, T.b false]
  else
   L (IntKind.wrap .i64 (x580 + 1))
  else none
 else
  some [T.i .i64 1, T.sl x573, T.i .i64 x574, T.i .i64 x575, T.sl x576, T.i .i64 x577]
def f22_1_c (x573 : List T) (x574 x575 : Int) (x576 : List T) (x577 x580 : Int) : CSt := ⟨[.bp 2 0, .ro 0 true [.i .i64, .i .i64, .i .i64, .sl false [.i .u8], .sl true [.s, .i .i64], .sl true [.s, .s]] x573, .i .i64 x574, .i .i64 x575, .ro 0 true [.s, .i .i64] (asL (T.cell (x573.getD x575.toNat T.u) 4)), .i .i64 ((asL (T.cell (x573.getD x575.toNat T.u) 4)).length : Int), .i .i64 x580], [.dead, .dead, .box [.ro 0 true [.i .i64, .i .i64, .i .i64, .sl false [.i .u8], .sl true [.s, .i .i64], .sl true [.s, .s]] x576, .i .i64 x577]]⟩
theorem f22_1_round (c : Orc) (lf : Nat) (x573 : List T) (x574 x575 : Int) (x576 : List T) (x577 : Int) (L : CSt → Option (List T)) (x580 : Int) :
 qa8 c env lf 6 fi22 2 9 [] [1, 20, 21, 22, 34, 35, 36] (x22_9_0) L (f22_1_c x573 x574 x575 x576 x577 x580) = f22_1_s c lf x573 x574 x575 x576 x577 (fun x580 => L (f22_1_c x573 x574 x575 x576 x577 x580)) x580 := by kernel_rfl
def f22_1 (c : Orc) (lf : Nat) (x573 : List T) (x574 x575 : Int) (x576 : List T) (x577 : Int) : Nat → Int → Option (List T)
 | 0 => fun _ => none
 | n + 1 => fun x580 => f22_1_s c lf x573 x574 x575 x576 x577 (f22_1 c lf x573 x574 x575 x576 x577 n) x580
theorem f22_1_u (c : Orc) (lf : Nat) (x573 : List T) (x574 x575 : Int) (x576 : List T) (x577 : Int) (n : Nat) (x580 : Int) : f22_1 c lf x573 x574 x575 x576 x577 (n + 1) x580 = f22_1_s c lf x573 x574 x575 x576 x577 (f22_1 c lf x573 x574 x575 x576 x577 n) x580 := rfl
theorem f22_1_eq (c : Orc) (lf : Nat) (x573 : List T) (x574 x575 : Int) (x576 : List T) (x577 : Int) (n : Nat) (x580 : Int) :
 lpK c env lf 6 fi22 2 9 [] [1, 20, 21, 22, 34, 35, 36] (x22_9_0) n (f22_1_c x573 x574 x575 x576 x577 x580) = f22_1 c lf x573 x574 x575 x576 x577 n x580 := by
 induction n generalizing x580 with
 | zero => rfl
 | succ n ih =>
  refine (f22_1_round c lf x573 x574 x575 x576 x577 _ x580).trans ?_
  have e : (fun x580 => lpK c env lf 6 fi22 2 9 [] [1, 20, 21, 22, 34, 35, 36] (x22_9_0) n (f22_1_c x573 x574 x575 x576 x577 x580)) = f22_1 c lf x573 x574 x575 x576 x577 n := by funext x580; exact ih x580
  show f22_1_s c lf x573 x574 x575 x576 x577 (fun x580 => lpK c env lf 6 fi22 2 9 [] [1, 20, 21, 22, 34, 35, 36] (x22_9_0) n (f22_1_c x573 x574 x575 x576 x577 x580)) x580 = _
  rw [e]; rfl
def f22_0_s (c : Orc) (lf : Nat) (L : List T → Int → Int → List T → Int → Option (List T)) (lp0 : List T → Int → Int → List T → Int → Int → Option (List T)) (x573 : List T) (x574 : Int) (x575 : Int) (x576 : List T) (x577 : Int) : Option (List T) :=
 bif iLt x575 x574 then
  bif inR x575 x573.length then
  (c 51 [T.st [T.sl x576, T.i .i64 x577], T.i .i64 (asI (T.cell (x573.getD x575.toNat T.u) 0))]).bind fun r578 =>
  bif (asI (T.cell (x573.getD x575.toNat T.u) 2)) != (asI (nth r578 0)) then
   some [T.i .i64 0, T.b false]
  else
   (lp0 x573 x574 x575 x576 x577 0).bind fun r582 =>
   bif asI (nth r582 0) == 0 then
    some [T.i .i64 0, T.b (asB (nth r582 1))]
   else
    L (asL (nth r582 1)) (asI (nth r582 2)) (IntKind.wrap .i64 ((asI (nth r582 3)) + 1)) (asL (nth r582 4)) (asI (nth r582 5))
  else none
 else
  some [T.i .i64 1]
def f22_0_c (x573 : List T) (x574 x575 : Int) (x576 : List T) (x577 : Int) : CSt := ⟨[.bp 2 0, .ro 0 true [.i .i64, .i .i64, .i .i64, .sl false [.i .u8], .sl true [.s, .i .i64], .sl true [.s, .s]] x573, .i .i64 x574, .i .i64 x575], [.dead, .dead, .box [.ro 0 true [.i .i64, .i .i64, .i .i64, .sl false [.i .u8], .sl true [.s, .i .i64], .sl true [.s, .s]] x576, .i .i64 x577]]⟩
theorem f22_0_round (c : Orc) (lf : Nat) (L : CSt → Option (List T)) (x573 : List T) (x574 : Int) (x575 : Int) (x576 : List T) (x577 : Int) :
 qa8 c env lf 6 fi22 2 4 [] [1, 20, 21, 22] (x22_4_0) L (f22_0_c x573 x574 x575 x576 x577) = f22_0_s c lf (fun x573 x574 x575 x576 x577 => L (f22_0_c x573 x574 x575 x576 x577)) (fun (x573 : List T) (x574 x575 : Int) (x576 : List T) (x577 x580 : Int) => lpK c env lf 6 fi22 2 9 [] [1, 20, 21, 22, 34, 35, 36] (x22_9_0) lf (f22_1_c x573 x574 x575 x576 x577 x580)) x573 x574 x575 x576 x577 := by kernel_rfl
def f22_0 (c : Orc) (lf : Nat) : Nat → List T → Int → Int → List T → Int → Option (List T)
 | 0 => fun _ _ _ _ _ => none
 | n + 1 => fun x573 x574 x575 x576 x577 => f22_0_s c lf (f22_0 c lf n) (fun (x573 : List T) (x574 x575 : Int) (x576 : List T) (x577 x580 : Int) => f22_1 c lf x573 x574 x575 x576 x577 lf x580) x573 x574 x575 x576 x577
theorem f22_0_u (c : Orc) (lf n : Nat) (x573 : List T) (x574 x575 : Int) (x576 : List T) (x577 : Int) : f22_0 c lf (n + 1) x573 x574 x575 x576 x577 = f22_0_s c lf (f22_0 c lf n) (fun (x573 : List T) (x574 x575 : Int) (x576 : List T) (x577 x580 : Int) => f22_1 c lf x573 x574 x575 x576 x577 lf x580) x573 x574 x575 x576 x577 := rfl
theorem f22_0_eq (c : Orc) (lf n : Nat) (x573 : List T) (x574 x575 : Int) (x576 : List T) (x577 : Int) :
 lpK c env lf 6 fi22 2 4 [] [1, 20, 21, 22] (x22_4_0) n (f22_0_c x573 x574 x575 x576 x577) = f22_0 c lf n x573 x574 x575 x576 x577 := by
 induction n generalizing x573 x574 x575 x576 x577 with
 | zero => rfl
 | succ n ih =>
  refine (f22_0_round c lf _ x573 x574 x575 x576 x577).trans ?_
  have e : (fun x573 x574 x575 x576 x577 => lpK c env lf 6 fi22 2 4 [] [1, 20, 21, 22] (x22_4_0) n (f22_0_c x573 x574 x575 x576 x577)) = f22_0 c lf n := by funext x573 x574 x575 x576 x577; exact ih x573 x574 x575 x576 x577
  have e0 : (fun (x573 : List T) (x574 x575 : Int) (x576 : List T) (x577 x580 : Int) => lpK c env lf 6 fi22 2 9 [] [1, 20, 21, 22, 34, 35, 36] (x22_9_0) lf (f22_1_c x573 x574 x575 x576 x577 x580)) = (fun (x573 : List T) (x574 x575 : Int) (x576 : List T) (x577 x580 : Int) => f22_1 c lf x573 x574 x575 x576 x577 lf x580) := by funext x573 x574 x575 x576 x577 x580; exact f22_1_eq c lf x573 x574 x575 x576 x577 lf x580
  show f22_0_s c lf (fun x573 x574 x575 x576 x577 => lpK c env lf 6 fi22 2 4 [] [1, 20, 21, 22] (x22_4_0) n (f22_0_c x573 x574 x575 x576 x577)) (fun (x573 : List T) (x574 x575 : Int) (x576 : List T) (x577 x580 : Int) => lpK c env lf 6 fi22 2 9 [] [1, 20, 21, 22, 34, 35, 36] (x22_9_0) lf (f22_1_c x573 x574 x575 x576 x577 x580)) x573 x574 x575 x576 x577 = _
  rw [e, e0]; rfl
def f22_t (c : Orc) (lf : Nat) (lp0 : List T → Int → Int → List T → Int → Option (List T)) (l0_0 : List T) (n0_1 : Int) : Option (List T) :=
 (c 49 [T.st [T.sl l0_0, T.i .i64 n0_1]]).bind fun r566 =>
 bif !(asB (nth r566 0)) then
  some [T.b false]
 else
  (c 50 [T.st [T.sl l0_0, T.i .i64 n0_1]]).bind fun r567 =>
  bif ((asL (nth r567 0)).length : Int) != (l0_0.length : Int) then
   some [T.b false]
  else
   (lp0 l0_0 (l0_0.length : Int) 0 l0_0 n0_1).bind fun r583 =>
   bif asI (nth r583 0) == 0 then
    some [T.b (asB (nth r583 1))]
   else
    some [T.b true]
def f22 (c : Orc) (lf : Nat) (l0_0 : List T) (n0_1 : Int) : Option (List T) := f22_t c lf (fun (x573 : List T) (x574 x575 : Int) (x576 : List T) (x577 : Int) => f22_0 c lf lf x573 x574 x575 x576 x577) l0_0 n0_1
theorem f22_raw (c : Orc) (lf : Nat) (l0_0 : List T) (n0_1 : Int) : funK c env lf 6 fi22 [.st [.sl l0_0, .i .i64 n0_1]] = f22_t c lf (fun (x573 : List T) (x574 x575 : Int) (x576 : List T) (x577 : Int) => lpK c env lf 6 fi22 2 4 [] [1, 20, 21, 22] (x22_4_0) lf (f22_0_c x573 x574 x575 x576 x577)) l0_0 n0_1 := by kernel_rfl
theorem f22_eq (c : Orc) (lf : Nat) (l0_0 : List T) (n0_1 : Int) : funK c env lf 6 fi22 [.st [.sl l0_0, .i .i64 n0_1]] = f22 c lf l0_0 n0_1 := by
 refine (f22_raw c lf l0_0 n0_1).trans ?_
 have e0 : (fun (x573 : List T) (x574 x575 : Int) (x576 : List T) (x577 : Int) => lpK c env lf 6 fi22 2 4 [] [1, 20, 21, 22] (x22_4_0) lf (f22_0_c x573 x574 x575 x576 x577)) = (fun (x573 : List T) (x574 x575 : Int) (x576 : List T) (x577 : Int) => f22_0 c lf lf x573 x574 x575 x576 x577) := by funext x573 x574 x575 x576 x577; exact f22_0_eq c lf lf x573 x574 x575 x576 x577
 rw [e0]; rfl
def f24_0_s (c : Orc) (lf : Nat) (l0 l1 : List T) (L : Int → Option (List T)) (x586 : Int) : Option (List T) :=
 bif iLt x586 (l0.length : Int) then
  bif inR x586 l0.length then
  bif inR x586 l1.length then
  bif !(((asS (T.cell (l0.getD x586.toNat T.u) 0)) == (asS (T.cell (l1.getD x586.toNat T.u) 0))) && (((asS (T.cell (l0.getD x586.toNat T.u) 1)) == (asS (T.cell (l1.getD x586.toNat T.u) 1))) && (true))) then
   some [T.i .i64 0, T.b false]
  else
   L (IntKind.wrap .i64 (x586 + 1))
  else none
  else none
 else
  some [T.i .i64 1]
def f24_0_c (l0 l1 : List T) (x586 : Int) : CSt := ⟨[.ro 0 true [.s, .s] l0, .ro 0 true [.s, .s] l1, .i .i64 (l0.length : Int), .i .i64 x586], [.dead, .dead]⟩
theorem f24_0_round (c : Orc) (lf : Nat) (l0 l1 : List T) (L : CSt → Option (List T)) (x586 : Int) :
 qa8 c env lf 6 fi24 2 4 [] [0, 1, 12, 13] (x24_4_0) L (f24_0_c l0 l1 x586) = f24_0_s c lf l0 l1 (fun x586 => L (f24_0_c l0 l1 x586)) x586 := by kernel_rfl
def f24_0 (c : Orc) (lf : Nat) (l0 l1 : List T) : Nat → Int → Option (List T)
 | 0 => fun _ => none
 | n + 1 => fun x586 => f24_0_s c lf l0 l1 (f24_0 c lf l0 l1 n) x586
theorem f24_0_u (c : Orc) (lf : Nat) (l0 l1 : List T) (n : Nat) (x586 : Int) : f24_0 c lf l0 l1 (n + 1) x586 = f24_0_s c lf l0 l1 (f24_0 c lf l0 l1 n) x586 := rfl
theorem f24_0_eq (c : Orc) (lf : Nat) (l0 l1 : List T) (n : Nat) (x586 : Int) :
 lpK c env lf 6 fi24 2 4 [] [0, 1, 12, 13] (x24_4_0) n (f24_0_c l0 l1 x586) = f24_0 c lf l0 l1 n x586 := by
 induction n generalizing x586 with
 | zero => rfl
 | succ n ih =>
  refine (f24_0_round c lf l0 l1 _ x586).trans ?_
  have e : (fun x586 => lpK c env lf 6 fi24 2 4 [] [0, 1, 12, 13] (x24_4_0) n (f24_0_c l0 l1 x586)) = f24_0 c lf l0 l1 n := by funext x586; exact ih x586
  show f24_0_s c lf l0 l1 (fun x586 => lpK c env lf 6 fi24 2 4 [] [0, 1, 12, 13] (x24_4_0) n (f24_0_c l0 l1 x586)) x586 = _
  rw [e]; rfl
def f24_t (c : Orc) (lf : Nat) (lp0 : List T → List T → Int → Option (List T)) (l0 : List T) (l1 : List T) : Option (List T) :=
 bif (l0.length : Int) != (l1.length : Int) then
  some [T.b false]
 else
  (lp0 l0 l1 0).bind fun r587 =>
  bif asI (nth r587 0) == 0 then
   some [T.b (asB (nth r587 1))]
  else
   some [T.b true]
def f24 (c : Orc) (lf : Nat) (l0 l1 : List T) : Option (List T) := f24_t c lf (fun (l0 l1 : List T) (x586 : Int) => f24_0 c lf l0 l1 lf x586) l0 l1
theorem f24_raw (c : Orc) (lf : Nat) (l0 l1 : List T) : funK c env lf 6 fi24 [.sl l0, .sl l1] = f24_t c lf (fun (l0 l1 : List T) (x586 : Int) => lpK c env lf 6 fi24 2 4 [] [0, 1, 12, 13] (x24_4_0) lf (f24_0_c l0 l1 x586)) l0 l1 := by kernel_rfl
theorem f24_eq (c : Orc) (lf : Nat) (l0 l1 : List T) : funK c env lf 6 fi24 [.sl l0, .sl l1] = f24 c lf l0 l1 := by
 refine (f24_raw c lf l0 l1).trans ?_
 have e0 : (fun (l0 l1 : List T) (x586 : Int) => lpK c env lf 6 fi24 2 4 [] [0, 1, 12, 13] (x24_4_0) lf (f24_0_c l0 l1 x586)) = (fun (l0 l1 : List T) (x586 : Int) => f24_0 c lf l0 l1 lf x586) := by funext l0 l1 x586; exact f24_0_eq c lf l0 l1 lf x586
 rw [e0]; rfl
def f59_0_s (c : Orc) (lf : Nat) (l0_0 l1_4 : List T) (n0_1 : Int) (s2 : ByteArray) (L : Int → List T → Option (List T)) (x597 : Int) (x598 : List T) : Option (List T) :=
 bif iLt x597 (l1_4.length : Int) then
  bif inR x597 l1_4.length then
  bif nLe (s2.size + (⟨#[47]⟩ : ByteArray).size) LIM then
  bif nLe ((s2 ++ (⟨#[47]⟩ : ByteArray)).size + (asS (T.cell (l1_4.getD x597.toNat T.u) 0)).size) LIM then
  bif nLe (x598.length + ([T.s ((s2 ++ (⟨#[47]⟩ : ByteArray)) ++ (asS (T.cell (l1_4.getD x597.toNat T.u) 0)))] : List T).length) LIM then
  (c 23 [T.st [T.sl l0_0, T.i .i64 n0_1], T.i .i64 (asI (T.cell (l1_4.getD x597.toNat T.u) 1))]).bind fun r599 =>
  (c 59 [T.st [T.sl l0_0, T.i .i64 n0_1], T.st [T.i .i64 (asI (T.cell (nth r599 0) 0)), T.i .i64 (asI (T.cell (nth r599 0) 1)), T.i .i64 (asI (T.cell (nth r599 0) 2)), T.sl (asL (T.cell (nth r599 0) 3)), T.sl (asL (T.cell (nth r599 0) 4)), T.sl (asL (T.cell (nth r599 0) 5))], T.s ((s2 ++ (⟨#[47]⟩ : ByteArray)) ++ (asS (T.cell (l1_4.getD x597.toNat T.u) 0)))]).bind fun r600 =>
  bif nLe ((x598 ++ ([T.s ((s2 ++ (⟨#[47]⟩ : ByteArray)) ++ (asS (T.cell (l1_4.getD x597.toNat T.u) 0)))] : List T)).length + (asL (nth r600 0)).length) LIM then
  L (IntKind.wrap .i64 (x597 + 1)) ((x598 ++ ([T.s ((s2 ++ (⟨#[47]⟩ : ByteArray)) ++ (asS (T.cell (l1_4.getD x597.toNat T.u) 0)))] : List T)) ++ (asL (nth r600 0)))
  else none
  else none
  else none
  else none
  else none
 else
  some [T.i .i64 0, T.sl x598]
def f59_0_c (l0_0 l1_4 : List T) (n0_1 : Int) (s2 : ByteArray) (x597 : Int) (x598 : List T) : CSt := ⟨[.s s2, .bp 9 0, .rf 10 [] 0 none, .ro 0 true [.s, .i .i64] l1_4, .i .i64 (l1_4.length : Int), .i .i64 x597], [.dead, .dead, .dead, .dead, .dead, .dead, .dead, .dead, .dead, .box [.ro 0 true [.i .i64, .i .i64, .i .i64, .sl false [.i .u8], .sl true [.s, .i .i64], .sl true [.s, .s]] l0_0, .i .i64 n0_1], .row false [.s] x598 0 false]⟩
theorem f59_0_round (c : Orc) (lf : Nat) (l0_0 l1_4 : List T) (n0_1 : Int) (s2 : ByteArray) (L : CSt → Option (List T)) (x597 : Int) (x598 : List T) :
 qa8 c env lf 6 fi59 9 3 [] [2, 3, 7, 15, 16, 17] (x59_3_0) L (f59_0_c l0_0 l1_4 n0_1 s2 x597 x598) = f59_0_s c lf l0_0 l1_4 n0_1 s2 (fun x597 x598 => L (f59_0_c l0_0 l1_4 n0_1 s2 x597 x598)) x597 x598 := by kernel_rfl
def f59_0 (c : Orc) (lf : Nat) (l0_0 l1_4 : List T) (n0_1 : Int) (s2 : ByteArray) : Nat → Int → List T → Option (List T)
 | 0 => fun _ _ => none
 | n + 1 => fun x597 x598 => f59_0_s c lf l0_0 l1_4 n0_1 s2 (f59_0 c lf l0_0 l1_4 n0_1 s2 n) x597 x598
theorem f59_0_u (c : Orc) (lf : Nat) (l0_0 l1_4 : List T) (n0_1 : Int) (s2 : ByteArray) (n : Nat) (x597 : Int) (x598 : List T) : f59_0 c lf l0_0 l1_4 n0_1 s2 (n + 1) x597 x598 = f59_0_s c lf l0_0 l1_4 n0_1 s2 (f59_0 c lf l0_0 l1_4 n0_1 s2 n) x597 x598 := rfl
theorem f59_0_eq (c : Orc) (lf : Nat) (l0_0 l1_4 : List T) (n0_1 : Int) (s2 : ByteArray) (n : Nat) (x597 : Int) (x598 : List T) :
 lpK c env lf 6 fi59 9 3 [] [2, 3, 7, 15, 16, 17] (x59_3_0) n (f59_0_c l0_0 l1_4 n0_1 s2 x597 x598) = f59_0 c lf l0_0 l1_4 n0_1 s2 n x597 x598 := by
 induction n generalizing x597 x598 with
 | zero => rfl
 | succ n ih =>
  refine (f59_0_round c lf l0_0 l1_4 n0_1 s2 _ x597 x598).trans ?_
  have e : (fun x597 x598 => lpK c env lf 6 fi59 9 3 [] [2, 3, 7, 15, 16, 17] (x59_3_0) n (f59_0_c l0_0 l1_4 n0_1 s2 x597 x598)) = f59_0 c lf l0_0 l1_4 n0_1 s2 n := by funext x597 x598; exact ih x597 x598
  show f59_0_s c lf l0_0 l1_4 n0_1 s2 (fun x597 x598 => lpK c env lf 6 fi59 9 3 [] [2, 3, 7, 15, 16, 17] (x59_3_0) n (f59_0_c l0_0 l1_4 n0_1 s2 x597 x598)) x597 x598 = _
  rw [e]; rfl
def f59_t (c : Orc) (lf : Nat) (lp0 : List T → List T → Int → ByteArray → Int → List T → Option (List T)) (l0_0 : List T) (n0_1 : Int) (n1_0 : Int) (n1_1 : Int) (n1_2 : Int) (l1_3 : List T) (l1_4 : List T) (l1_5 : List T) (s2 : ByteArray) : Option (List T) :=
 (lp0 l0_0 l1_4 n0_1 s2 0 ([] : List T)).bind fun r601 =>
 some [T.sl (asL (nth r601 1))]
def f59 (c : Orc) (lf : Nat) (l0_0 : List T) (n0_1 n1_0 : Int) (n1_1 n1_2 : Int) (l1_3 l1_4 l1_5 : List T) (s2 : ByteArray) : Option (List T) := f59_t c lf (fun (l0_0 l1_4 : List T) (n0_1 : Int) (s2 : ByteArray) (x597 : Int) (x598 : List T) => f59_0 c lf l0_0 l1_4 n0_1 s2 lf x597 x598) l0_0 n0_1 n1_0 n1_1 n1_2 l1_3 l1_4 l1_5 s2
theorem f59_raw (c : Orc) (lf : Nat) (l0_0 : List T) (n0_1 n1_0 : Int) (n1_1 n1_2 : Int) (l1_3 l1_4 l1_5 : List T) (s2 : ByteArray) : funK c env lf 6 fi59 [.st [.sl l0_0, .i .i64 n0_1], .st [.i .i64 n1_0, .i .i64 n1_1, .i .i64 n1_2, .sl l1_3, .sl l1_4, .sl l1_5], .s s2] = f59_t c lf (fun (l0_0 l1_4 : List T) (n0_1 : Int) (s2 : ByteArray) (x597 : Int) (x598 : List T) => lpK c env lf 6 fi59 9 3 [] [2, 3, 7, 15, 16, 17] (x59_3_0) lf (f59_0_c l0_0 l1_4 n0_1 s2 x597 x598)) l0_0 n0_1 n1_0 n1_1 n1_2 l1_3 l1_4 l1_5 s2 := by kernel_rfl
theorem f59_eq (c : Orc) (lf : Nat) (l0_0 : List T) (n0_1 n1_0 : Int) (n1_1 n1_2 : Int) (l1_3 l1_4 l1_5 : List T) (s2 : ByteArray) : funK c env lf 6 fi59 [.st [.sl l0_0, .i .i64 n0_1], .st [.i .i64 n1_0, .i .i64 n1_1, .i .i64 n1_2, .sl l1_3, .sl l1_4, .sl l1_5], .s s2] = f59 c lf l0_0 n0_1 n1_0 n1_1 n1_2 l1_3 l1_4 l1_5 s2 := by
 refine (f59_raw c lf l0_0 n0_1 n1_0 n1_1 n1_2 l1_3 l1_4 l1_5 s2).trans ?_
 have e0 : (fun (l0_0 l1_4 : List T) (n0_1 : Int) (s2 : ByteArray) (x597 : Int) (x598 : List T) => lpK c env lf 6 fi59 9 3 [] [2, 3, 7, 15, 16, 17] (x59_3_0) lf (f59_0_c l0_0 l1_4 n0_1 s2 x597 x598)) = (fun (l0_0 l1_4 : List T) (n0_1 : Int) (s2 : ByteArray) (x597 : Int) (x598 : List T) => f59_0 c lf l0_0 l1_4 n0_1 s2 lf x597 x598) := by funext l0_0 l1_4 n0_1 s2 x597 x598; exact f59_0_eq c lf l0_0 l1_4 n0_1 s2 lf x597 x598
 rw [e0]; rfl
def f31_t (c : Orc) (lf : Nat) (l0_0 : List T) (n0_1 : Int) : Option (List T) :=
 (c 22 [T.st [T.sl l0_0, T.i .i64 n0_1]]).bind fun r602 =>
 bif !(asB (nth r602 0)) then
  some [T.sl []]
 else
  (c 23 [T.st [T.sl l0_0, T.i .i64 n0_1], T.i .i64 1]).bind fun r603 =>
  (c 59 [T.st [T.sl l0_0, T.i .i64 n0_1], T.st [T.i .i64 (asI (T.cell (nth r603 0) 0)), T.i .i64 (asI (T.cell (nth r603 0) 1)), T.i .i64 (asI (T.cell (nth r603 0) 2)), T.sl (asL (T.cell (nth r603 0) 3)), T.sl (asL (T.cell (nth r603 0) 4)), T.sl (asL (T.cell (nth r603 0) 5))], T.s (⟨#[]⟩ : ByteArray)]).bind fun r604 =>
  (c 60 [T.sl (asL (nth r604 0))]).bind fun r605 =>
  some [T.sl (asL (nth r605 0))]
def f31 (c : Orc) (lf : Nat) (l0_0 : List T) (n0_1 : Int) : Option (List T) := f31_t c lf l0_0 n0_1
theorem f31_eq (c : Orc) (lf : Nat) (l0_0 : List T) (n0_1 : Int) : funK c env lf 6 fi31 [.st [.sl l0_0, .i .i64 n0_1]] = f31 c lf l0_0 n0_1 := by kernel_rfl
def f118_0_s (c : Orc) (lf : Nat) (n2 : Int) (r619 : List T) (s0 s1 : ByteArray) (L : ByteArray → Int → List T → Option (List T)) (x621 : ByteArray) (x622 : Int) (x623 : List T) : Option (List T) :=
 bif iLt x622 (IntKind.wrap .i64 ((imin (IntKind.wrap .i64 ((asI (nth r619 0)) + 1)) (IntKind.wrap .i64 ((s0.size : Int) + 1))) - 1)) then
  (c 139 [T.s x621, T.s s1]).bind fun r624 =>
  bif iLt (asI (nth r624 0)) 0 then
   some [T.i .i64 0, T.s x621, T.i .i64 x622, T.sl x623]
  else
   bif iLe 0 0 && iLe 0 (IntKind.wrap .i64 ((asI (nth r624 0)) + n2)) && iLe (IntKind.wrap .i64 ((asI (nth r624 0)) + n2)) (x621.size : Int) then
   bif inR x622 x623.length then
   bif iLe 0 (IntKind.wrap .i64 ((asI (nth r624 0)) + (s1.size : Int))) && iLe (IntKind.wrap .i64 ((asI (nth r624 0)) + (s1.size : Int))) (x621.size : Int) && iLe (x621.size : Int) (x621.size : Int) then
   L (x621.extract (IntKind.wrap .i64 ((asI (nth r624 0)) + (s1.size : Int))).toNat (x621.size : Int).toNat) (IntKind.wrap .i64 (x622 + 1)) (x623.set x622.toNat (T.s (x621.extract 0 (IntKind.wrap .i64 ((asI (nth r624 0)) + n2)).toNat)))
   else none
   else none
   else none
 else
  some [T.i .i64 0, T.s x621, T.i .i64 x622, T.sl x623]
def f118_0_c (n2 : Int) (r619 : List T) (s0 s1 x621 : ByteArray) (x622 : Int) (x623 : List T) : CSt := ⟨[.s x621, .s s1, .i .i64 n2, .i .i64 (IntKind.wrap .i64 ((imin (IntKind.wrap .i64 ((asI (nth r619 0)) + 1)) (IntKind.wrap .i64 ((s0.size : Int) + 1))) - 1)), .rf 4 [] 0 none, .i .i64 x622], [.dead, .dead, .dead, .dead, .row false [.s] x623 0 false]⟩
theorem f118_0_round (c : Orc) (lf : Nat) (n2 : Int) (r619 : List T) (s0 s1 : ByteArray) (L : CSt → Option (List T)) (x621 : ByteArray) (x622 : Int) (x623 : List T) :
 qa8 c env lf 6 fi118 4 11 [] [0, 1, 2, 3, 9, 10] (x118_11_0) L (f118_0_c n2 r619 s0 s1 x621 x622 x623) = f118_0_s c lf n2 r619 s0 s1 (fun x621 x622 x623 => L (f118_0_c n2 r619 s0 s1 x621 x622 x623)) x621 x622 x623 := by kernel_rfl
def f118_0 (c : Orc) (lf : Nat) (n2 : Int) (r619 : List T) (s0 s1 : ByteArray) : Nat → ByteArray → Int → List T → Option (List T)
 | 0 => fun _ _ _ => none
 | n + 1 => fun x621 x622 x623 => f118_0_s c lf n2 r619 s0 s1 (f118_0 c lf n2 r619 s0 s1 n) x621 x622 x623
theorem f118_0_u (c : Orc) (lf : Nat) (n2 : Int) (r619 : List T) (s0 s1 : ByteArray) (n : Nat) (x621 : ByteArray) (x622 : Int) (x623 : List T) : f118_0 c lf n2 r619 s0 s1 (n + 1) x621 x622 x623 = f118_0_s c lf n2 r619 s0 s1 (f118_0 c lf n2 r619 s0 s1 n) x621 x622 x623 := rfl
theorem f118_0_eq (c : Orc) (lf : Nat) (n2 : Int) (r619 : List T) (s0 s1 : ByteArray) (n : Nat) (x621 : ByteArray) (x622 : Int) (x623 : List T) :
 lpK c env lf 6 fi118 4 11 [] [0, 1, 2, 3, 9, 10] (x118_11_0) n (f118_0_c n2 r619 s0 s1 x621 x622 x623) = f118_0 c lf n2 r619 s0 s1 n x621 x622 x623 := by
 induction n generalizing x621 x622 x623 with
 | zero => rfl
 | succ n ih =>
  refine (f118_0_round c lf n2 r619 s0 s1 _ x621 x622 x623).trans ?_
  have e : (fun x621 x622 x623 => lpK c env lf 6 fi118 4 11 [] [0, 1, 2, 3, 9, 10] (x118_11_0) n (f118_0_c n2 r619 s0 s1 x621 x622 x623)) = f118_0 c lf n2 r619 s0 s1 n := by funext x621 x622 x623; exact ih x621 x622 x623
  show f118_0_s c lf n2 r619 s0 s1 (fun x621 x622 x623 => lpK c env lf 6 fi118 4 11 [] [0, 1, 2, 3, 9, 10] (x118_11_0) n (f118_0_c n2 r619 s0 s1 x621 x622 x623)) x621 x622 x623 = _
  rw [e]; rfl
def f118_1_s (c : Orc) (lf : Nat) (n2 n3 : Int) (s0 s1 : ByteArray) (L : ByteArray → Int → List T → Option (List T)) (x627 : ByteArray) (x628 : Int) (x629 : List T) : Option (List T) :=
 bif iLt x628 (IntKind.wrap .i64 ((imin n3 (IntKind.wrap .i64 ((s0.size : Int) + 1))) - 1)) then
  (c 139 [T.s x627, T.s s1]).bind fun r630 =>
  bif iLt (asI (nth r630 0)) 0 then
   some [T.i .i64 0, T.s x627, T.i .i64 x628, T.sl x629]
  else
   bif iLe 0 0 && iLe 0 (IntKind.wrap .i64 ((asI (nth r630 0)) + n2)) && iLe (IntKind.wrap .i64 ((asI (nth r630 0)) + n2)) (x627.size : Int) then
   bif inR x628 x629.length then
   bif iLe 0 (IntKind.wrap .i64 ((asI (nth r630 0)) + (s1.size : Int))) && iLe (IntKind.wrap .i64 ((asI (nth r630 0)) + (s1.size : Int))) (x627.size : Int) && iLe (x627.size : Int) (x627.size : Int) then
   L (x627.extract (IntKind.wrap .i64 ((asI (nth r630 0)) + (s1.size : Int))).toNat (x627.size : Int).toNat) (IntKind.wrap .i64 (x628 + 1)) (x629.set x628.toNat (T.s (x627.extract 0 (IntKind.wrap .i64 ((asI (nth r630 0)) + n2)).toNat)))
   else none
   else none
   else none
 else
  some [T.i .i64 0, T.s x627, T.i .i64 x628, T.sl x629]
def f118_1_c (n2 n3 : Int) (s0 s1 x627 : ByteArray) (x628 : Int) (x629 : List T) : CSt := ⟨[.s x627, .s s1, .i .i64 n2, .i .i64 (IntKind.wrap .i64 ((imin n3 (IntKind.wrap .i64 ((s0.size : Int) + 1))) - 1)), .rf 4 [] 0 none, .i .i64 x628], [.dead, .dead, .dead, .dead, .row false [.s] x629 0 false]⟩
theorem f118_1_round (c : Orc) (lf : Nat) (n2 n3 : Int) (s0 s1 : ByteArray) (L : CSt → Option (List T)) (x627 : ByteArray) (x628 : Int) (x629 : List T) :
 qa8 c env lf 6 fi118 4 11 [] [0, 1, 2, 3, 9, 10] (x118_11_0) L (f118_1_c n2 n3 s0 s1 x627 x628 x629) = f118_1_s c lf n2 n3 s0 s1 (fun x627 x628 x629 => L (f118_1_c n2 n3 s0 s1 x627 x628 x629)) x627 x628 x629 := by kernel_rfl
def f118_1 (c : Orc) (lf : Nat) (n2 n3 : Int) (s0 s1 : ByteArray) : Nat → ByteArray → Int → List T → Option (List T)
 | 0 => fun _ _ _ => none
 | n + 1 => fun x627 x628 x629 => f118_1_s c lf n2 n3 s0 s1 (f118_1 c lf n2 n3 s0 s1 n) x627 x628 x629
theorem f118_1_eq (c : Orc) (lf : Nat) (n2 n3 : Int) (s0 s1 : ByteArray) (n : Nat) (x627 : ByteArray) (x628 : Int) (x629 : List T) :
 lpK c env lf 6 fi118 4 11 [] [0, 1, 2, 3, 9, 10] (x118_11_0) n (f118_1_c n2 n3 s0 s1 x627 x628 x629) = f118_1 c lf n2 n3 s0 s1 n x627 x628 x629 := by
 induction n generalizing x627 x628 x629 with
 | zero => rfl
 | succ n ih =>
  refine (f118_1_round c lf n2 n3 s0 s1 _ x627 x628 x629).trans ?_
  have e : (fun x627 x628 x629 => lpK c env lf 6 fi118 4 11 [] [0, 1, 2, 3, 9, 10] (x118_11_0) n (f118_1_c n2 n3 s0 s1 x627 x628 x629)) = f118_1 c lf n2 n3 s0 s1 n := by funext x627 x628 x629; exact ih x627 x628 x629
  show f118_1_s c lf n2 n3 s0 s1 (fun x627 x628 x629 => lpK c env lf 6 fi118 4 11 [] [0, 1, 2, 3, 9, 10] (x118_11_0) n (f118_1_c n2 n3 s0 s1 x627 x628 x629)) x627 x628 x629 = _
  rw [e]; rfl
def f118_t (c : Orc) (lf : Nat) (lp0 : Int → List T → ByteArray → ByteArray → ByteArray → Int → List T → Option (List T)) (lp1 : Int → Int → ByteArray → ByteArray → ByteArray → Int → List T → Option (List T)) (s0 : ByteArray) (s1 : ByteArray) (n2 : Int) (n3 : Int) : Option (List T) :=
 bif n3 == 0 then
  some [T.sl []]
 else
  bif s1.toList == (⟨#[]⟩ : ByteArray).toList then
   none
  else
   bif iLt n3 0 then
    (c 138 [T.s s0, T.s s1]).bind fun r619 =>
    bif iLe 0 (imin (IntKind.wrap .i64 ((asI (nth r619 0)) + 1)) (IntKind.wrap .i64 ((s0.size : Int) + 1))) && iLe (imin (IntKind.wrap .i64 ((asI (nth r619 0)) + 1)) (IntKind.wrap .i64 ((s0.size : Int) + 1))) (LIM : Int) && ((imin (IntKind.wrap .i64 ((asI (nth r619 0)) + 1)) (IntKind.wrap .i64 ((s0.size : Int) + 1))) == (imin (IntKind.wrap .i64 ((asI (nth r619 0)) + 1)) (IntKind.wrap .i64 ((s0.size : Int) + 1)))) then
    (lp0 n2 r619 s0 s1 s0 0 (List.replicate (imin (IntKind.wrap .i64 ((asI (nth r619 0)) + 1)) (IntKind.wrap .i64 ((s0.size : Int) + 1))).toNat (T.s (⟨#[]⟩ : ByteArray)))).bind fun r625 =>
    bif inR (asI (nth r625 2)) ((asL (nth r625 3)).length) then
    bif iLe 0 0 && iLe 0 (IntKind.wrap .i64 ((asI (nth r625 2)) + 1)) && iLe (IntKind.wrap .i64 ((asI (nth r625 2)) + 1)) (((asL (nth r625 3)).set ((asI (nth r625 2)).toNat) (T.s (asS (nth r625 1)))).length : Int) then
    some [T.sl ((((asL (nth r625 3)).set ((asI (nth r625 2)).toNat) (T.s (asS (nth r625 1)))).drop 0).take (((IntKind.wrap .i64 ((asI (nth r625 2)) + 1)).toNat) - 0))]
    else none
    else none
    else none
   else
    bif iLe 0 (imin n3 (IntKind.wrap .i64 ((s0.size : Int) + 1))) && iLe (imin n3 (IntKind.wrap .i64 ((s0.size : Int) + 1))) (LIM : Int) && ((imin n3 (IntKind.wrap .i64 ((s0.size : Int) + 1))) == (imin n3 (IntKind.wrap .i64 ((s0.size : Int) + 1)))) then
    (lp1 n2 n3 s0 s1 s0 0 (List.replicate (imin n3 (IntKind.wrap .i64 ((s0.size : Int) + 1))).toNat (T.s (⟨#[]⟩ : ByteArray)))).bind fun r631 =>
    bif inR (asI (nth r631 2)) ((asL (nth r631 3)).length) then
    bif iLe 0 0 && iLe 0 (IntKind.wrap .i64 ((asI (nth r631 2)) + 1)) && iLe (IntKind.wrap .i64 ((asI (nth r631 2)) + 1)) (((asL (nth r631 3)).set ((asI (nth r631 2)).toNat) (T.s (asS (nth r631 1)))).length : Int) then
    some [T.sl ((((asL (nth r631 3)).set ((asI (nth r631 2)).toNat) (T.s (asS (nth r631 1)))).drop 0).take (((IntKind.wrap .i64 ((asI (nth r631 2)) + 1)).toNat) - 0))]
    else none
    else none
    else none
def f118 (c : Orc) (lf : Nat) (s0 s1 : ByteArray) (n2 n3 : Int) : Option (List T) := f118_t c lf (fun (n2 : Int) (r619 : List T) (s0 s1 x621 : ByteArray) (x622 : Int) (x623 : List T) => f118_0 c lf n2 r619 s0 s1 lf x621 x622 x623) (fun (n2 n3 : Int) (s0 s1 x627 : ByteArray) (x628 : Int) (x629 : List T) => f118_1 c lf n2 n3 s0 s1 lf x627 x628 x629) s0 s1 n2 n3
theorem f118_raw (c : Orc) (lf : Nat) (s0 s1 : ByteArray) (n2 n3 : Int) : funK c env lf 6 fi118 [.s s0, .s s1, .i .i64 n2, .i .i64 n3] = f118_t c lf (fun (n2 : Int) (r619 : List T) (s0 s1 x621 : ByteArray) (x622 : Int) (x623 : List T) => lpK c env lf 6 fi118 4 11 [] [0, 1, 2, 3, 9, 10] (x118_11_0) lf (f118_0_c n2 r619 s0 s1 x621 x622 x623)) (fun (n2 n3 : Int) (s0 s1 x627 : ByteArray) (x628 : Int) (x629 : List T) => lpK c env lf 6 fi118 4 11 [] [0, 1, 2, 3, 9, 10] (x118_11_0) lf (f118_1_c n2 n3 s0 s1 x627 x628 x629)) s0 s1 n2 n3 := by kernel_rfl
theorem f118_eq (c : Orc) (lf : Nat) (s0 s1 : ByteArray) (n2 n3 : Int) : funK c env lf 6 fi118 [.s s0, .s s1, .i .i64 n2, .i .i64 n3] = f118 c lf s0 s1 n2 n3 := by
 refine (f118_raw c lf s0 s1 n2 n3).trans ?_
 have e0 : (fun (n2 : Int) (r619 : List T) (s0 s1 x621 : ByteArray) (x622 : Int) (x623 : List T) => lpK c env lf 6 fi118 4 11 [] [0, 1, 2, 3, 9, 10] (x118_11_0) lf (f118_0_c n2 r619 s0 s1 x621 x622 x623)) = (fun (n2 : Int) (r619 : List T) (s0 s1 x621 : ByteArray) (x622 : Int) (x623 : List T) => f118_0 c lf n2 r619 s0 s1 lf x621 x622 x623) := by funext n2 r619 s0 s1 x621 x622 x623; exact f118_0_eq c lf n2 r619 s0 s1 lf x621 x622 x623
 have e1 : (fun (n2 n3 : Int) (s0 s1 x627 : ByteArray) (x628 : Int) (x629 : List T) => lpK c env lf 6 fi118 4 11 [] [0, 1, 2, 3, 9, 10] (x118_11_0) lf (f118_1_c n2 n3 s0 s1 x627 x628 x629)) = (fun (n2 n3 : Int) (s0 s1 x627 : ByteArray) (x628 : Int) (x629 : List T) => f118_1 c lf n2 n3 s0 s1 lf x627 x628 x629) := by funext n2 n3 s0 s1 x627 x628 x629; exact f118_1_eq c lf n2 n3 s0 s1 lf x627 x628 x629
 rw [e0, e1]; rfl
def f90_t (c : Orc) (lf : Nat) (s0 s1 : ByteArray) : Option (List T) :=
 (c 118 [T.s s0, T.s s1, T.i .i64 0, T.i .i64 (-1)]).bind fun r632 =>
 some [T.sl (asL (nth r632 0))]
def f90 (c : Orc) (lf : Nat) (s0 s1 : ByteArray) : Option (List T) := f90_t c lf s0 s1
theorem f90_eq (c : Orc) (lf : Nat) (s0 s1 : ByteArray) : funK c env lf 6 fi90 [.s s0, .s s1] = f90 c lf s0 s1 := by kernel_rfl
def f120_t (c : Orc) (lf : Nat) (s0 : ByteArray) : Option (List T) :=
 (c 101 [T.s s0]).bind fun r633 =>
 some [T.b (!(asB (nth r633 0)))]
def f120 (c : Orc) (lf : Nat) (s0 : ByteArray) : Option (List T) := f120_t c lf s0
theorem f120_eq (c : Orc) (lf : Nat) (s0 : ByteArray) : funK c env lf 6 fi120 [.s s0] = f120 c lf s0 := by kernel_rfl
def f91_0_s (c : Orc) (lf : Nat) (l0 : List T) (L : Int → Option (List T)) (x639 : Int) : Option (List T) :=
 bif iLt x639 (l0.length : Int) then
  bif inR x639 l0.length then
  (c 120 [T.s (asS (l0.getD x639.toNat T.u))]).bind fun r640 =>
  bif asB (nth r640 0) then
   some [T.i .i64 0, T.i .i64 x639]
  else
   L (IntKind.wrap .i64 (x639 + 1))
  else none
 else
  some [T.i .i64 1]
def f91_0_c (l0 : List T) (x639 : Int) : CSt := ⟨[.ro 0 false [.s] l0, .fn 120 [], .i .i64 (l0.length : Int), .i .i64 x639], []⟩
theorem f91_0_round (c : Orc) (lf : Nat) (l0 : List T) (L : CSt → Option (List T)) (x639 : Int) :
 qa8 c env lf 4 fi140 0 2 [] [0, 1, 7, 8] (x140_2_0) L (f91_0_c l0 x639) = f91_0_s c lf l0 (fun x639 => L (f91_0_c l0 x639)) x639 := by kernel_rfl
def f91_0 (c : Orc) (lf : Nat) (l0 : List T) : Nat → Int → Option (List T)
 | 0 => fun _ => none
 | n + 1 => fun x639 => f91_0_s c lf l0 (f91_0 c lf l0 n) x639
theorem f91_0_u (c : Orc) (lf : Nat) (l0 : List T) (n : Nat) (x639 : Int) : f91_0 c lf l0 (n + 1) x639 = f91_0_s c lf l0 (f91_0 c lf l0 n) x639 := rfl
theorem f91_0_eq (c : Orc) (lf : Nat) (l0 : List T) (n : Nat) (x639 : Int) :
 lpK c env lf 4 fi140 0 2 [] [0, 1, 7, 8] (x140_2_0) n (f91_0_c l0 x639) = f91_0 c lf l0 n x639 := by
 induction n generalizing x639 with
 | zero => rfl
 | succ n ih =>
  refine (f91_0_round c lf l0 _ x639).trans ?_
  have e : (fun x639 => lpK c env lf 4 fi140 0 2 [] [0, 1, 7, 8] (x140_2_0) n (f91_0_c l0 x639)) = f91_0 c lf l0 n := by funext x639; exact ih x639
  show f91_0_s c lf l0 (fun x639 => lpK c env lf 4 fi140 0 2 [] [0, 1, 7, 8] (x140_2_0) n (f91_0_c l0 x639)) x639 = _
  rw [e]; rfl
def f91_t (c : Orc) (lf : Nat) (lp0 : List T → Int → Option (List T)) (l0 : List T) : Option (List T) :=
 bif iLe (l0.length : Int) 30 then
  (lp0 l0 0).bind fun r641 =>
  bif asI (nth r641 0) == 0 then
   some [T.b (!(iLe 0 (asI (nth r641 1))))]
  else
   some [T.b true]
 else
  some [T.b false]
def f91 (c : Orc) (lf : Nat) (l0 : List T) : Option (List T) := f91_t c lf (fun (l0 : List T) (x639 : Int) => f91_0 c lf l0 lf x639) l0
theorem f91_raw (c : Orc) (lf : Nat) (l0 : List T) : funK c env lf 6 fi91 [.sl l0] = f91_t c lf (fun (l0 : List T) (x639 : Int) => lpK c env lf 4 fi140 0 2 [] [0, 1, 7, 8] (x140_2_0) lf (f91_0_c l0 x639)) l0 := by kernel_rfl
theorem f91_eq (c : Orc) (lf : Nat) (l0 : List T) : funK c env lf 6 fi91 [.sl l0] = f91 c lf l0 := by
 refine (f91_raw c lf l0).trans ?_
 have e0 : (fun (l0 : List T) (x639 : Int) => lpK c env lf 4 fi140 0 2 [] [0, 1, 7, 8] (x140_2_0) lf (f91_0_c l0 x639)) = (fun (l0 : List T) (x639 : Int) => f91_0 c lf l0 lf x639) := by funext l0 x639; exact f91_0_eq c lf l0 lf x639
 rw [e0]; rfl
def f61_t (c : Orc) (lf : Nat) (s0 : ByteArray) : Option (List T) :=
 bif s0.toList == (⟨#[47]⟩ : ByteArray).toList then
  some [T.sl [], T.b true]
 else
  (c 90 [T.s s0, T.s (⟨#[47]⟩ : ByteArray)]).bind fun r642 =>
  bif inR 0 ((asL (nth r642 0)).length) then
  bif !((asS ((asL (nth r642 0)).getD 0 T.u)).toList == (⟨#[]⟩ : ByteArray).toList) then
   some [T.sl [], T.b false]
  else
   bif iLt ((asL (nth r642 0)).length : Int) 2 then
    some [T.sl [], T.b false]
   else
    bif iLe 0 1 && iLe 1 ((asL (nth r642 0)).length : Int) && iLe ((asL (nth r642 0)).length : Int) ((asL (nth r642 0)).length : Int) then
    (c 91 [T.sl (((asL (nth r642 0)).drop 1).take ((((asL (nth r642 0)).length : Int).toNat) - 1))]).bind fun r643 =>
    bif !(asB (nth r643 0)) then
     some [T.sl [], T.b false]
    else
     bif iLe 0 1 && iLe 1 ((asL (nth r642 0)).length : Int) && iLe ((asL (nth r642 0)).length : Int) ((asL (nth r642 0)).length : Int) then
     some [T.sl (((asL (nth r642 0)).drop 1).take ((((asL (nth r642 0)).length : Int).toNat) - 1)), T.b true]
     else none
    else none
  else none
def f61 (c : Orc) (lf : Nat) (s0 : ByteArray) : Option (List T) := f61_t c lf s0
theorem f61_eq (c : Orc) (lf : Nat) (s0 : ByteArray) : funK c env lf 6 fi61 [.s s0] = f61 c lf s0 := by kernel_rfl
def f62_0_s (c : Orc) (lf : Nat) (l0_4 : List T) (s1 : ByteArray) (L : Int → Option (List T)) (x646 : Int) : Option (List T) :=
 bif iLt x646 (l0_4.length : Int) then
  bif inR x646 l0_4.length then
  bif (asS (T.cell (l0_4.getD x646.toNat T.u) 0)).toList == s1.toList then
   some [T.i .i64 0, T.i .i64 (asI (T.cell (l0_4.getD x646.toNat T.u) 1))]
  else
   L (IntKind.wrap .i64 (x646 + 1))
  else none
 else
  some [T.i .i64 1]
def f62_0_c (l0_4 : List T) (s1 : ByteArray) (x646 : Int) : CSt := ⟨[.s s1, .ro 0 true [.s, .i .i64] l0_4, .i .i64 (l0_4.length : Int), .i .i64 x646], [.dead, .dead, .dead, .dead, .dead, .dead, .dead]⟩
theorem f62_0_round (c : Orc) (lf : Nat) (l0_4 : List T) (s1 : ByteArray) (L : CSt → Option (List T)) (x646 : Int) :
 qa8 c env lf 6 fi62 7 2 [] [1, 8, 9, 10] (x62_2_0) L (f62_0_c l0_4 s1 x646) = f62_0_s c lf l0_4 s1 (fun x646 => L (f62_0_c l0_4 s1 x646)) x646 := by kernel_rfl
def f62_0 (c : Orc) (lf : Nat) (l0_4 : List T) (s1 : ByteArray) : Nat → Int → Option (List T)
 | 0 => fun _ => none
 | n + 1 => fun x646 => f62_0_s c lf l0_4 s1 (f62_0 c lf l0_4 s1 n) x646
theorem f62_0_u (c : Orc) (lf : Nat) (l0_4 : List T) (s1 : ByteArray) (n : Nat) (x646 : Int) : f62_0 c lf l0_4 s1 (n + 1) x646 = f62_0_s c lf l0_4 s1 (f62_0 c lf l0_4 s1 n) x646 := rfl
theorem f62_0_eq (c : Orc) (lf : Nat) (l0_4 : List T) (s1 : ByteArray) (n : Nat) (x646 : Int) :
 lpK c env lf 6 fi62 7 2 [] [1, 8, 9, 10] (x62_2_0) n (f62_0_c l0_4 s1 x646) = f62_0 c lf l0_4 s1 n x646 := by
 induction n generalizing x646 with
 | zero => rfl
 | succ n ih =>
  refine (f62_0_round c lf l0_4 s1 _ x646).trans ?_
  have e : (fun x646 => lpK c env lf 6 fi62 7 2 [] [1, 8, 9, 10] (x62_2_0) n (f62_0_c l0_4 s1 x646)) = f62_0 c lf l0_4 s1 n := by funext x646; exact ih x646
  show f62_0_s c lf l0_4 s1 (fun x646 => lpK c env lf 6 fi62 7 2 [] [1, 8, 9, 10] (x62_2_0) n (f62_0_c l0_4 s1 x646)) x646 = _
  rw [e]; rfl
def f62_t (c : Orc) (lf : Nat) (lp0 : List T → ByteArray → Int → Option (List T)) (n0_0 : Int) (n0_1 : Int) (n0_2 : Int) (l0_3 : List T) (l0_4 : List T) (l0_5 : List T) (s1 : ByteArray) : Option (List T) :=
 (lp0 l0_4 s1 0).bind fun r647 =>
 bif asI (nth r647 0) == 0 then
  some [T.i .i64 (asI (nth r647 1))]
 else
  some [T.i .i64 0]
def f62 (c : Orc) (lf : Nat) (n0_0 n0_1 n0_2 : Int) (l0_3 l0_4 l0_5 : List T) (s1 : ByteArray) : Option (List T) := f62_t c lf (fun (l0_4 : List T) (s1 : ByteArray) (x646 : Int) => f62_0 c lf l0_4 s1 lf x646) n0_0 n0_1 n0_2 l0_3 l0_4 l0_5 s1
theorem f62_raw (c : Orc) (lf : Nat) (n0_0 n0_1 n0_2 : Int) (l0_3 l0_4 l0_5 : List T) (s1 : ByteArray) : funK c env lf 6 fi62 [.st [.i .i64 n0_0, .i .i64 n0_1, .i .i64 n0_2, .sl l0_3, .sl l0_4, .sl l0_5], .s s1] = f62_t c lf (fun (l0_4 : List T) (s1 : ByteArray) (x646 : Int) => lpK c env lf 6 fi62 7 2 [] [1, 8, 9, 10] (x62_2_0) lf (f62_0_c l0_4 s1 x646)) n0_0 n0_1 n0_2 l0_3 l0_4 l0_5 s1 := by kernel_rfl
theorem f62_eq (c : Orc) (lf : Nat) (n0_0 n0_1 n0_2 : Int) (l0_3 l0_4 l0_5 : List T) (s1 : ByteArray) : funK c env lf 6 fi62 [.st [.i .i64 n0_0, .i .i64 n0_1, .i .i64 n0_2, .sl l0_3, .sl l0_4, .sl l0_5], .s s1] = f62 c lf n0_0 n0_1 n0_2 l0_3 l0_4 l0_5 s1 := by
 refine (f62_raw c lf n0_0 n0_1 n0_2 l0_3 l0_4 l0_5 s1).trans ?_
 have e0 : (fun (l0_4 : List T) (s1 : ByteArray) (x646 : Int) => lpK c env lf 6 fi62 7 2 [] [1, 8, 9, 10] (x62_2_0) lf (f62_0_c l0_4 s1 x646)) = (fun (l0_4 : List T) (s1 : ByteArray) (x646 : Int) => f62_0 c lf l0_4 s1 lf x646) := by funext l0_4 s1 x646; exact f62_0_eq c lf l0_4 s1 lf x646
 rw [e0]; rfl
def f33_0_s (c : Orc) (lf : Nat) (l0_0 : List T) (n0_1 : Int) (r656 : List T) (L : Int → Int → Option (List T)) (x659 : Int) (x660 : Int) : Option (List T) :=
 bif iLt x660 ((asL (nth r656 0)).length : Int) then
  bif inR x660 ((asL (nth r656 0)).length) then
  (c 23 [T.st [T.sl l0_0, T.i .i64 n0_1], T.i .i64 x659]).bind fun r661 =>
  bif !(asB (nth r661 1)) then
   some [T.i .i64 0, T.i .i64 0, T.i .i64 2]
  else
   bif (asI (T.cell (nth r661 0) 1)) != 2 then
    some [T.i .i64 0, T.i .i64 0, T.i .i64 3]
   else
    (c 62 [T.st [T.i .i64 (asI (T.cell (nth r661 0) 0)), T.i .i64 (asI (T.cell (nth r661 0) 1)), T.i .i64 (asI (T.cell (nth r661 0) 2)), T.sl (asL (T.cell (nth r661 0) 3)), T.sl (asL (T.cell (nth r661 0) 4)), T.sl (asL (T.cell (nth r661 0) 5))], T.s (asS ((asL (nth r656 0)).getD x660.toNat T.u))]).bind fun r662 =>
    bif (asI (nth r662 0)) == 0 then
     some [T.i .i64 0, T.i .i64 0, T.i .i64 2]
    else
     L (asI (nth r662 0)) (IntKind.wrap .i64 (x660 + 1))
  else none
 else
  some [T.i .i64 1, T.i .i64 x659]
def f33_0_c (l0_0 : List T) (n0_1 : Int) (r656 : List T) (x659 x660 : Int) : CSt := ⟨[.bp 3 0, .i .i64 x659, .rf 4 [] 0 none, .i .i64 ((asL (nth r656 0)).length : Int), .i .i64 x660], [.dead, .dead, .dead, .box [.ro 0 true [.i .i64, .i .i64, .i .i64, .sl false [.i .u8], .sl true [.s, .i .i64], .sl true [.s, .s]] l0_0, .i .i64 n0_1], .row false [.s] (asL (nth r656 0)) 0 false]⟩
theorem f33_0_round (c : Orc) (lf : Nat) (l0_0 : List T) (n0_1 : Int) (r656 : List T) (L : CSt → Option (List T)) (x659 : Int) (x660 : Int) :
 qa8 c env lf 6 fi33 3 6 [] [2, 8, 20, 21, 22] (x33_6_0) L (f33_0_c l0_0 n0_1 r656 x659 x660) = f33_0_s c lf l0_0 n0_1 r656 (fun x659 x660 => L (f33_0_c l0_0 n0_1 r656 x659 x660)) x659 x660 := by kernel_rfl
def f33_0 (c : Orc) (lf : Nat) (l0_0 : List T) (n0_1 : Int) (r656 : List T) : Nat → Int → Int → Option (List T)
 | 0 => fun _ _ => none
 | n + 1 => fun x659 x660 => f33_0_s c lf l0_0 n0_1 r656 (f33_0 c lf l0_0 n0_1 r656 n) x659 x660
theorem f33_0_u (c : Orc) (lf : Nat) (l0_0 : List T) (n0_1 : Int) (r656 : List T) (n : Nat) (x659 x660 : Int) : f33_0 c lf l0_0 n0_1 r656 (n + 1) x659 x660 = f33_0_s c lf l0_0 n0_1 r656 (f33_0 c lf l0_0 n0_1 r656 n) x659 x660 := rfl
theorem f33_0_eq (c : Orc) (lf : Nat) (l0_0 : List T) (n0_1 : Int) (r656 : List T) (n : Nat) (x659 x660 : Int) :
 lpK c env lf 6 fi33 3 6 [] [2, 8, 20, 21, 22] (x33_6_0) n (f33_0_c l0_0 n0_1 r656 x659 x660) = f33_0 c lf l0_0 n0_1 r656 n x659 x660 := by
 induction n generalizing x659 x660 with
 | zero => rfl
 | succ n ih =>
  refine (f33_0_round c lf l0_0 n0_1 r656 _ x659 x660).trans ?_
  have e : (fun x659 x660 => lpK c env lf 6 fi33 3 6 [] [2, 8, 20, 21, 22] (x33_6_0) n (f33_0_c l0_0 n0_1 r656 x659 x660)) = f33_0 c lf l0_0 n0_1 r656 n := by funext x659 x660; exact ih x659 x660
  show f33_0_s c lf l0_0 n0_1 r656 (fun x659 x660 => lpK c env lf 6 fi33 3 6 [] [2, 8, 20, 21, 22] (x33_6_0) n (f33_0_c l0_0 n0_1 r656 x659 x660)) x659 x660 = _
  rw [e]; rfl
def f33_t (c : Orc) (lf : Nat) (lp0 : List T → Int → List T → Int → Int → Option (List T)) (l0_0 : List T) (n0_1 : Int) (s1 : ByteArray) : Option (List T) :=
 (c 61 [T.s s1]).bind fun r656 =>
 bif !(asB (nth r656 1)) then
  some [T.i .i64 0, T.i .i64 1]
 else
  (lp0 l0_0 n0_1 r656 1 0).bind fun r663 =>
  bif asI (nth r663 0) == 0 then
   some [T.i .i64 (asI (nth r663 1)), T.i .i64 (asI (nth r663 2))]
  else
   some [T.i .i64 (asI (nth r663 1)), T.i .i64 0]
def f33 (c : Orc) (lf : Nat) (l0_0 : List T) (n0_1 : Int) (s1 : ByteArray) : Option (List T) := f33_t c lf (fun (l0_0 : List T) (n0_1 : Int) (r656 : List T) (x659 x660 : Int) => f33_0 c lf l0_0 n0_1 r656 lf x659 x660) l0_0 n0_1 s1
theorem f33_raw (c : Orc) (lf : Nat) (l0_0 : List T) (n0_1 : Int) (s1 : ByteArray) : funK c env lf 6 fi33 [.st [.sl l0_0, .i .i64 n0_1], .s s1] = f33_t c lf (fun (l0_0 : List T) (n0_1 : Int) (r656 : List T) (x659 x660 : Int) => lpK c env lf 6 fi33 3 6 [] [2, 8, 20, 21, 22] (x33_6_0) lf (f33_0_c l0_0 n0_1 r656 x659 x660)) l0_0 n0_1 s1 := by kernel_rfl
theorem f33_eq (c : Orc) (lf : Nat) (l0_0 : List T) (n0_1 : Int) (s1 : ByteArray) : funK c env lf 6 fi33 [.st [.sl l0_0, .i .i64 n0_1], .s s1] = f33 c lf l0_0 n0_1 s1 := by
 refine (f33_raw c lf l0_0 n0_1 s1).trans ?_
 have e0 : (fun (l0_0 : List T) (n0_1 : Int) (r656 : List T) (x659 x660 : Int) => lpK c env lf 6 fi33 3 6 [] [2, 8, 20, 21, 22] (x33_6_0) lf (f33_0_c l0_0 n0_1 r656 x659 x660)) = (fun (l0_0 : List T) (n0_1 : Int) (r656 : List T) (x659 x660 : Int) => f33_0 c lf l0_0 n0_1 r656 lf x659 x660) := by funext l0_0 n0_1 r656 x659 x660; exact f33_0_eq c lf l0_0 n0_1 r656 lf x659 x660
 rw [e0]; rfl
def f32_t (c : Orc) (lf : Nat) (l0_0 : List T) (n0_1 : Int) (s1 : ByteArray) : Option (List T) :=
 (c 33 [T.st [T.sl l0_0, T.i .i64 n0_1], T.s s1]).bind fun r664 =>
 bif (asI (nth r664 1)) != 0 then
  some [T.st [T.i .i64 0, T.i .i64 0, T.i .i64 0, T.sl [], T.sl [], T.sl []], T.i .i64 (asI (nth r664 1))]
 else
  (c 23 [T.st [T.sl l0_0, T.i .i64 n0_1], T.i .i64 (asI (nth r664 0))]).bind fun r665 =>
  bif !(asB (nth r665 1)) then
   some [T.st [T.i .i64 0, T.i .i64 0, T.i .i64 0, T.sl [], T.sl [], T.sl []], T.i .i64 2]
  else
   some [T.st [T.i .i64 (asI (T.cell (nth r665 0) 0)), T.i .i64 (asI (T.cell (nth r665 0) 1)), T.i .i64 (asI (T.cell (nth r665 0) 2)), T.sl (asL (T.cell (nth r665 0) 3)), T.sl (asL (T.cell (nth r665 0) 4)), T.sl (asL (T.cell (nth r665 0) 5))], T.i .i64 0]
def f32 (c : Orc) (lf : Nat) (l0_0 : List T) (n0_1 : Int) (s1 : ByteArray) : Option (List T) := f32_t c lf l0_0 n0_1 s1
theorem f32_eq (c : Orc) (lf : Nat) (l0_0 : List T) (n0_1 : Int) (s1 : ByteArray) : funK c env lf 6 fi32 [.st [.sl l0_0, .i .i64 n0_1], .s s1] = f32 c lf l0_0 n0_1 s1 := by kernel_rfl
def f11_1_s (c : Orc) (lf : Nat) (r696 : List T) (x690 x691 : Int) (x692 : List T) (x693 : Int) (x694 x695 : List T) (L : Int → Option (List T)) (x698 : Int) : Option (List T) :=
 bif iLt x698 (x694.length : Int) then
  bif inR x698 x694.length then
  (c 33 [T.st [T.sl x692, T.i .i64 x693], T.s (asS (T.cell (x694.getD x698.toNat T.u) 0))]).bind fun r699 =>
  bif (asI (nth r699 0)) == (asI (T.cell (nth r696 0) 0)) then
   some [T.i .i64 0, T.s (asS (x695.getD x691.toNat T.u)), T.s (asS (T.cell (x694.getD x698.toNat T.u) 4)), T.i .i64 x690, T.i .i64 x691, T.sl x692, T.i .i64 x693, T.sl x694, T.i .i64 (asI (T.cell (nth r696 0) 0)), T.i .i64 (asI (T.cell (nth r696 0) 1)), T.i .i64 (asI (T.cell (nth r696 0) 2)), T.sl (asL (T.cell (nth r696 0) 3)), T.sl (asL (T.cell (nth r696 0) 4)), T.sl (asL (T.cell (nth r696 0) 5)), T.sl x695]
  else
   L (IntKind.wrap .i64 (x698 + 1))
  else none
 else
  some [T.i .i64 0, T.s (asS (x695.getD x691.toNat T.u)), T.s (asS (x695.getD x691.toNat T.u)), T.i .i64 x690, T.i .i64 x691, T.sl x692, T.i .i64 x693, T.sl x694, T.i .i64 (asI (T.cell (nth r696 0) 0)), T.i .i64 (asI (T.cell (nth r696 0) 1)), T.i .i64 (asI (T.cell (nth r696 0) 2)), T.sl (asL (T.cell (nth r696 0) 3)), T.sl (asL (T.cell (nth r696 0) 4)), T.sl (asL (T.cell (nth r696 0) 5)), T.sl x695]
def f11_1_c (r696 : List T) (x690 x691 : Int) (x692 : List T) (x693 : Int) (x694 x695 : List T) (x698 : Int) : CSt := ⟨[.bp 2 0, .rf 3 [] 0 none, .s (asS (x695.getD x691.toNat T.u)), .bp 4 0, .s (asS (x695.getD x691.toNat T.u)), .rf 8 [] 0 none, .i .i64 x690, .i .i64 x691, .rf 3 [] 0 none, .i .i64 (x694.length : Int), .i .i64 x698], [.dead, .dead, .box [.ro 0 true [.i .i64, .i .i64, .i .i64, .sl false [.i .u8], .sl true [.s, .i .i64], .sl true [.s, .s]] x692, .i .i64 x693], .row true [.s, .i .i64, .sl false [.i .u8], .sl true [.s, .s], .s] x694 0 false, .box [.i .i64 (asI (T.cell (nth r696 0) 0)), .i .i64 (asI (T.cell (nth r696 0) 1)), .i .i64 (asI (T.cell (nth r696 0) 2)), .rf 5 [] 0 none, .rf 6 [] 0 none, .rf 7 [] 0 none], .row false [.i .u8] (asL (T.cell (nth r696 0) 3)) 0 false, .row true [.s, .i .i64] (asL (T.cell (nth r696 0) 4)) 0 false, .row true [.s, .s] (asL (T.cell (nth r696 0) 5)) 0 false, .row false [.s] x695 0 false]⟩
theorem f11_1_round (c : Orc) (lf : Nat) (r696 : List T) (x690 x691 : Int) (x692 : List T) (x693 : Int) (x694 x695 : List T) (L : CSt → Option (List T)) (x698 : Int) :
 qa8 c env lf 6 fi11 2 8 [] [1, 3, 5, 6, 8, 15, 16, 17, 28, 29, 30] (x11_8_0) L (f11_1_c r696 x690 x691 x692 x693 x694 x695 x698) = f11_1_s c lf r696 x690 x691 x692 x693 x694 x695 (fun x698 => L (f11_1_c r696 x690 x691 x692 x693 x694 x695 x698)) x698 := by kernel_rfl
def f11_1 (c : Orc) (lf : Nat) (r696 : List T) (x690 x691 : Int) (x692 : List T) (x693 : Int) (x694 x695 : List T) : Nat → Int → Option (List T)
 | 0 => fun _ => none
 | n + 1 => fun x698 => f11_1_s c lf r696 x690 x691 x692 x693 x694 x695 (f11_1 c lf r696 x690 x691 x692 x693 x694 x695 n) x698
theorem f11_1_u (c : Orc) (lf : Nat) (r696 : List T) (x690 x691 : Int) (x692 : List T) (x693 : Int) (x694 x695 : List T) (n : Nat) (x698 : Int) : f11_1 c lf r696 x690 x691 x692 x693 x694 x695 (n + 1) x698 = f11_1_s c lf r696 x690 x691 x692 x693 x694 x695 (f11_1 c lf r696 x690 x691 x692 x693 x694 x695 n) x698 := rfl
theorem f11_1_eq (c : Orc) (lf : Nat) (r696 : List T) (x690 x691 : Int) (x692 : List T) (x693 : Int) (x694 x695 : List T) (n : Nat) (x698 : Int) :
 lpK c env lf 6 fi11 2 8 [] [1, 3, 5, 6, 8, 15, 16, 17, 28, 29, 30] (x11_8_0) n (f11_1_c r696 x690 x691 x692 x693 x694 x695 x698) = f11_1 c lf r696 x690 x691 x692 x693 x694 x695 n x698 := by
 induction n generalizing x698 with
 | zero => rfl
 | succ n ih =>
  refine (f11_1_round c lf r696 x690 x691 x692 x693 x694 x695 _ x698).trans ?_
  have e : (fun x698 => lpK c env lf 6 fi11 2 8 [] [1, 3, 5, 6, 8, 15, 16, 17, 28, 29, 30] (x11_8_0) n (f11_1_c r696 x690 x691 x692 x693 x694 x695 x698)) = f11_1 c lf r696 x690 x691 x692 x693 x694 x695 n := by funext x698; exact ih x698
  show f11_1_s c lf r696 x690 x691 x692 x693 x694 x695 (fun x698 => lpK c env lf 6 fi11 2 8 [] [1, 3, 5, 6, 8, 15, 16, 17, 28, 29, 30] (x11_8_0) n (f11_1_c r696 x690 x691 x692 x693 x694 x695 x698)) x698 = _
  rw [e]; rfl
def f11_0_s (c : Orc) (lf : Nat) (L : Int → Int → List T → Int → List T → List T → Option (List T)) (lp0 : List T → Int → Int → List T → Int → List T → List T → Int → Option (List T)) (x690 : Int) (x691 : Int) (x692 : List T) (x693 : Int) (x694 : List T) (x695 : List T) : Option (List T) :=
 bif iLt x691 x690 then
  bif inR x691 x695.length then
  (c 32 [T.st [T.sl x692, T.i .i64 x693], T.s (asS (x695.getD x691.toNat T.u))]).bind fun r696 =>
  (lp0 r696 x690 x691 x692 x693 x694 x695 0).bind fun r700 =>
  bif nLe ((asL (nth r700 7)).length + ([T.st [T.s (asS (nth r700 1)), T.i .i64 (asI (nth r700 9)), T.sl (asL (nth r700 11)), T.sl (asL (nth r700 13)), T.s (asS (nth r700 2))]] : List T).length) LIM then
  L (asI (nth r700 3)) (IntKind.wrap .i64 ((asI (nth r700 4)) + 1)) (asL (nth r700 5)) (asI (nth r700 6)) ((asL (nth r700 7)) ++ ([T.st [T.s (asS (nth r700 1)), T.i .i64 (asI (nth r700 9)), T.sl (asL (nth r700 11)), T.sl (asL (nth r700 13)), T.s (asS (nth r700 2))]] : List T)) (asL (nth r700 14))
  else none
  else none
 else
  some [T.i .i64 0, T.sl x694]
def f11_0_c (x690 x691 : Int) (x692 : List T) (x693 : Int) (x694 x695 : List T) : CSt := ⟨[.bp 2 0, .rf 3 [] 0 none, .rf 4 [] 0 none, .i .i64 x690, .i .i64 x691], [.dead, .dead, .box [.ro 0 true [.i .i64, .i .i64, .i .i64, .sl false [.i .u8], .sl true [.s, .i .i64], .sl true [.s, .s]] x692, .i .i64 x693], .row true [.s, .i .i64, .sl false [.i .u8], .sl true [.s, .s], .s] x694 0 false, .row false [.s] x695 0 false]⟩
theorem f11_0_round (c : Orc) (lf : Nat) (L : CSt → Option (List T)) (x690 : Int) (x691 : Int) (x692 : List T) (x693 : Int) (x694 : List T) (x695 : List T) :
 qa8 c env lf 6 fi11 2 3 [] [1, 3, 15, 16, 17] (x11_3_0) L (f11_0_c x690 x691 x692 x693 x694 x695) = f11_0_s c lf (fun x690 x691 x692 x693 x694 x695 => L (f11_0_c x690 x691 x692 x693 x694 x695)) (fun (r696 : List T) (x690 x691 : Int) (x692 : List T) (x693 : Int) (x694 x695 : List T) (x698 : Int) => lpK c env lf 6 fi11 2 8 [] [1, 3, 5, 6, 8, 15, 16, 17, 28, 29, 30] (x11_8_0) lf (f11_1_c r696 x690 x691 x692 x693 x694 x695 x698)) x690 x691 x692 x693 x694 x695 := by kernel_rfl
def f11_0 (c : Orc) (lf : Nat) : Nat → Int → Int → List T → Int → List T → List T → Option (List T)
 | 0 => fun _ _ _ _ _ _ => none
 | n + 1 => fun x690 x691 x692 x693 x694 x695 => f11_0_s c lf (f11_0 c lf n) (fun (r696 : List T) (x690 x691 : Int) (x692 : List T) (x693 : Int) (x694 x695 : List T) (x698 : Int) => f11_1 c lf r696 x690 x691 x692 x693 x694 x695 lf x698) x690 x691 x692 x693 x694 x695
theorem f11_0_u (c : Orc) (lf n : Nat) (x690 x691 : Int) (x692 : List T) (x693 : Int) (x694 x695 : List T) : f11_0 c lf (n + 1) x690 x691 x692 x693 x694 x695 = f11_0_s c lf (f11_0 c lf n) (fun (r696 : List T) (x690 x691 : Int) (x692 : List T) (x693 : Int) (x694 x695 : List T) (x698 : Int) => f11_1 c lf r696 x690 x691 x692 x693 x694 x695 lf x698) x690 x691 x692 x693 x694 x695 := rfl
end Go.Proofs.YtncfoonahkieoaaGreatDoor.T
