/- What functions of the law FnExactEngNew come to, in trees; no condition. -/
import Derived.Test.YtcippopaecnjhaaGreatRows
import Derived.Test.YtcippopaecnjhaaGreatV3
import Derived.KernelRfl
set_option linter.unusedVariables false
set_option linter.constructorNameAsVariable false
set_option linter.unusedSimpArgs false
set_option linter.unnecessarySimpa false
namespace Go.Proofs.YtcippopaecnjhaaGreat.T
open Go Go.Proofs.YtcippopaecnjhaaGreatV
def tyTab : List (Nat × Ti) := [
 (3, ⟨false, [.i .i64], .o⟩),
 (4, ⟨false, [.b], .o⟩),
 (5, ⟨false, [.i .u8], .o⟩),
 (9, ⟨false, [.s], .o⟩),
 (22, ⟨false, [.sl true [.i .i64, .i .i64, .i .i64]], .sl 67⟩),
 (24, ⟨false, [.sl true [.i .i64, .s, .b, .i .i64, .sl true [.i .i64, .i .i64, .i .i64, .sl false [.i .u8], .sl true [.s, .i .i64], .sl true [.s, .s]], .i .i64]], .sl 98⟩),
 (26, ⟨true, [.sl true [.i .i64, .s, .b, .i .i64, .sl true [.i .i64, .i .i64, .i .i64, .sl false [.i .u8], .sl true [.s, .i .i64], .sl true [.s, .s]], .i .i64], .i .i64], .st [(0, 24), (1, 3)]⟩),
 (27, ⟨false, [.sl true [.i .i64, .s, .b, .i .i64, .i .i64]], .sl 135⟩),
 (29, ⟨true, [.i .i64, .sl true [.i .i64, .s, .b, .i .i64, .i .i64]], .st [(0, 3), (1, 27)]⟩),
 (30, ⟨false, [.sl true [.i .i64, .sl true [.i .i64, .i .i64]]], .sl 138⟩),
 (32, ⟨true, [.sl true [.i .i64, .s, .b, .i .i64, .sl true [.i .i64, .i .i64, .i .i64, .sl false [.i .u8], .sl true [.s, .i .i64], .sl true [.s, .s]], .i .i64], .i .i64, .i .i64, .sl true [.i .i64, .s, .b, .i .i64, .i .i64], .sl true [.i .i64, .sl true [.i .i64, .i .i64]], .i .i64, .i .i64], .st [(0, 26), (2, 29), (4, 30), (5, 3), (6, 3)]⟩),
 (33, ⟨false, [.sl true [.sl true [.b, .sl false [.i .u8]], .i .i64, .b]], .sl 119⟩),
 (35, ⟨true, [.sl true [.sl true [.b, .sl false [.i .u8]], .i .i64, .b]], .st [(0, 33)]⟩),
 (36, ⟨false, [.sl true [.i .i64, .i .i64, .i .i64]], .sl 65⟩),
 (38, ⟨true, [.sl true [.sl true [.b, .sl false [.i .u8]], .i .i64, .b], .i .i64, .sl true [.i .i64, .i .i64, .i .i64], .b], .st [(0, 35), (1, 3), (2, 36), (3, 4)]⟩),
 (40, ⟨true, [.sl true [.sl true [.b, .sl false [.i .u8]], .i .i64, .b], .i .i64, .sl true [.i .i64, .i .i64, .i .i64], .b, .i .i64], .st [(0, 38), (4, 3)]⟩),
 (42, ⟨true, [.sl true [.i .i64, .s, .b, .i .i64, .sl true [.i .i64, .i .i64, .i .i64, .sl false [.i .u8], .sl true [.s, .i .i64], .sl true [.s, .s]], .i .i64], .i .i64, .sl true [.i .i64, .s, .b, .i .i64, .sl true [.i .i64, .i .i64, .i .i64, .sl false [.i .u8], .sl true [.s, .i .i64], .sl true [.s, .s]], .i .i64], .i .i64, .i .i64, .sl true [.i .i64, .s, .b, .i .i64, .i .i64], .sl true [.i .i64, .sl true [.i .i64, .i .i64]], .i .i64, .i .i64, .sl true [.sl true [.b, .sl false [.i .u8]], .i .i64, .b], .i .i64, .sl true [.i .i64, .i .i64, .i .i64], .b, .i .i64], .st [(0, 26), (2, 32), (9, 40)]⟩),
 (50, ⟨false, [.sl false [.i .u8]], .sl 5⟩),
 (65, ⟨true, [.i .i64, .i .i64, .i .i64], .st [(0, 3), (1, 3), (2, 3)]⟩),
 (67, ⟨true, [.i .i64, .i .i64, .i .i64], .st [(0, 3), (1, 3), (2, 3)]⟩),
 (80, ⟨true, [.i .i64, .i .i64, .sl false [.i .u8]], .st [(0, 3), (1, 3), (2, 50)]⟩),
 (81, ⟨false, [.o], .o⟩),
 (94, ⟨false, [.sl true [.i .i64, .i .i64, .i .i64, .sl false [.i .u8], .sl true [.s, .i .i64], .sl true [.s, .s]]], .sl 153⟩),
 (96, ⟨true, [.sl true [.i .i64, .i .i64, .i .i64, .sl false [.i .u8], .sl true [.s, .i .i64], .sl true [.s, .s]], .i .i64], .st [(0, 94), (1, 3)]⟩),
 (98, ⟨true, [.i .i64, .s, .b, .i .i64, .sl true [.i .i64, .i .i64, .i .i64, .sl false [.i .u8], .sl true [.s, .i .i64], .sl true [.s, .s]], .i .i64], .st [(0, 3), (1, 9), (2, 4), (3, 3), (4, 96)]⟩),
 (100, ⟨false, [.o], .o⟩),
 (117, ⟨false, [.sl true [.b, .sl false [.i .u8]]], .sl 144⟩),
 (119, ⟨true, [.sl true [.b, .sl false [.i .u8]], .i .i64, .b], .st [(0, 117), (1, 3), (2, 4)]⟩),
 (135, ⟨true, [.i .i64, .s, .b, .i .i64, .i .i64], .st [(0, 3), (1, 9), (2, 4), (3, 3), (4, 3)]⟩),
 (136, ⟨false, [.sl true [.i .i64, .i .i64]], .sl 172⟩),
 (138, ⟨true, [.i .i64, .sl true [.i .i64, .i .i64]], .st [(0, 3), (1, 136)]⟩),
 (144, ⟨true, [.b, .sl false [.i .u8]], .st [(0, 4), (1, 50)]⟩),
 (150, ⟨false, [.sl true [.s, .i .i64]], .sl 160⟩),
 (151, ⟨false, [.sl true [.s, .s]], .sl 162⟩),
 (153, ⟨true, [.i .i64, .i .i64, .i .i64, .sl false [.i .u8], .sl true [.s, .i .i64], .sl true [.s, .s]], .st [(0, 3), (1, 3), (2, 3), (3, 50), (4, 150), (5, 151)]⟩),
 (160, ⟨true, [.s, .i .i64], .st [(0, 9), (1, 3)]⟩),
 (162, ⟨true, [.s, .s], .st [(0, 9), (1, 9)]⟩),
 (172, ⟨true, [.i .i64, .i .i64], .st [(0, 3), (1, 3)]⟩),
 (186, ⟨false, [.o], .o⟩),
 (188, ⟨true, [.sl false [.i .u8], .i .i64, .b], .st [(0, 50), (1, 3), (2, 4)]⟩),
 (199, ⟨false, [.i .u64], .o⟩),
 (225, ⟨false, [.i .u32], .o⟩),
 (232, ⟨false, [.o], .o⟩),
 (234, ⟨true, [.sl false [.i .u8], .i .i64, .b], .st [(0, 50), (1, 3), (2, 4)]⟩)]
noncomputable def fi5 : Fi := ⟨Tryz.f5, [], false, [.ro (.sl true [.i .i64, .i .i64, .i .i64]), .v (.i .i64)], [.v (.i .i64)]⟩
noncomputable def fi27 : Fi := ⟨Tryz.f27, [], false, [.ag [.v (.i .i64), .v (.i .i64), .v (.i .i64)]], [.ag [.v (.i .i64), .v (.i .i64), .v (.i .i64)]]⟩
def x7_3_0 : List (Ex × List Nat × CSt) := [((.ex 0), [3], ⟨[.rf 1 [] 0 none], [.dead, .row true [.i .i64, .i .i64, .i .i64] [] 0 false]⟩)]
noncomputable def fi7 : Fi := ⟨Tryz.f7, [⟨3, [0, 3, 4], [], [(⟨[.ro 0 true [.i .i64, .i .i64, .i .i64] [], .rf 1 [] 0 none, .i .i64 0], [.dead, .row true [.i .i64, .i .i64, .i .i64] [] 0 false]⟩, x7_3_0)]⟩], false, [.ro (.sl true [.i .i64, .i .i64, .i .i64])], [.ow (.sl true [.i .i64, .i .i64, .i .i64])]⟩
noncomputable def fi23 : Fi := ⟨Tryz.f23, [], false, [], [.ag [.ow (.sl true [.i .i64, .s, .b, .i .i64, .sl true [.i .i64, .i .i64, .i .i64, .sl false [.i .u8], .sl true [.s, .i .i64], .sl true [.s, .s]], .i .i64]), .v (.i .i64)]]⟩
noncomputable def fi24 : Fi := ⟨Tryz.f24, [], false, [], [.ag [.ow (.sl true [.i .i64, .s, .b, .i .i64, .sl true [.i .i64, .i .i64, .i .i64, .sl false [.i .u8], .sl true [.s, .i .i64], .sl true [.s, .s]], .i .i64]), .v (.i .i64), .v (.i .i64), .ow (.sl true [.i .i64, .s, .b, .i .i64, .i .i64]), .ow (.sl true [.i .i64, .sl true [.i .i64, .i .i64]]), .v (.i .i64), .v (.i .i64)]]⟩
noncomputable def fi109 : Fi := ⟨Tryz.f109, [], false, [.v (.i .i64), .v (.i .i64), .v (.i .i64)], [.v (.b)]⟩
def x64_3_0 : List (Ex × List Nat × CSt) := [((.ex 0), [2, 3], ⟨[.bp 1 0, .bp 3 0], [.dead, .box [.rf 2 [] 0 none], .row true [.sl true [.b, .sl false [.i .u8]], .i .i64, .b] [] 0 false, .box [.rf 4 [] 0 none], .row true [.sl true [.b, .sl false [.i .u8]], .i .i64, .b] [] 0 false]⟩)]
noncomputable def fi64 : Fi := ⟨Tryz.f64, [⟨3, [0, 2, 3, 4], [], [(⟨[.i .i64 0, .bp 1 0, .bp 3 0, .i .i64 0], [.dead, .box [.rf 2 [] 0 none], .row true [.sl true [.b, .sl false [.i .u8]], .i .i64, .b] [] 0 false, .box [.rf 4 [] 0 none], .row true [.sl true [.b, .sl false [.i .u8]], .i .i64, .b] [] 0 false]⟩, x64_3_0)]⟩], false, [.v (.i .i64)], [.ag [.ow (.sl true [.sl true [.b, .sl false [.i .u8]], .i .i64, .b])]]⟩
def x167_4_0 : List (Ex × List Nat × CSt) := [(.ret, [2], ⟨[.b false], [.dead, .dead, .dead]⟩), ((.ex 0), [], ⟨[], [.dead, .dead, .dead]⟩)]
noncomputable def fi167 : Fi := ⟨Tryz.f167, [⟨4, [1, 3], [], [(⟨[.bp 3 0, .i .i64 0], [.dead, .dead, .dead, .box [.ro 0 true [.b, .sl false [.i .u8]] [], .i .i64 0, .b false]]⟩, x167_4_0)]⟩], false, [.ag [.ro (.sl true [.b, .sl false [.i .u8]]), .v (.i .i64), .v (.b)]], [.v (.b)]⟩
def x110_2_0 : List (Ex × List Nat × CSt) := [(.ret, [2], ⟨[.b false], [.dead]⟩), ((.ex 0), [1], ⟨[.bp 1 0], [.dead, .box [.ro 0 true [.sl true [.b, .sl false [.i .u8]], .i .i64, .b] []]]⟩)]
noncomputable def fi110 : Fi := ⟨Tryz.f110, [⟨2, [1, 3], [], [(⟨[.bp 1 0, .i .i64 0], [.dead, .box [.ro 0 true [.sl true [.b, .sl false [.i .u8]], .i .i64, .b] []]]⟩, x110_2_0)]⟩], false, [.ag [.ro (.sl true [.sl true [.b, .sl false [.i .u8]], .i .i64, .b])]], [.v (.b)]⟩
def x111_2_0 : List (Ex × List Nat × CSt) := [(.ret, [2], ⟨[.b false], [.dead]⟩), ((.ex 0), [0], ⟨[.ro 0 true [.i .i64, .i .i64, .i .i64] []], [.dead]⟩)]
noncomputable def fi111 : Fi := ⟨Tryz.f111, [⟨2, [0, 3], [], [(⟨[.ro 0 true [.i .i64, .i .i64, .i .i64] [], .i .i64 0], [.dead]⟩, x111_2_0)]⟩], false, [.ro (.sl true [.i .i64, .i .i64, .i .i64])], [.v (.b)]⟩
noncomputable def fi65 : Fi := ⟨Tryz.f65, [], false, [.ag [.ro (.sl true [.sl true [.b, .sl false [.i .u8]], .i .i64, .b]), .v (.i .i64), .ro (.sl true [.i .i64, .i .i64, .i .i64]), .v (.b)]], [.v (.b)]⟩
noncomputable def fi25 : Fi := ⟨Tryz.f25, [], false, [.v (.i .i64), .ro (.sl true [.i .i64, .i .i64, .i .i64])], [.ag [.ow (.sl true [.sl true [.b, .sl false [.i .u8]], .i .i64, .b]), .v (.i .i64), .ow (.sl true [.i .i64, .i .i64, .i .i64]), .v (.b)]]⟩
def x66_4_0 : List (Ex × List Nat × CSt) := [(.ret, [2], ⟨[.b false], [.dead, .dead]⟩), ((.ex 0), [], ⟨[], [.dead, .dead]⟩)]
noncomputable def fi66 : Fi := ⟨Tryz.f66, [⟨4, [1, 3], [], [(⟨[.bp 2 0, .i .i64 0], [.dead, .dead, .box [.ro 0 true [.i .i64, .s, .b, .i .i64, .sl true [.i .i64, .i .i64, .i .i64, .sl false [.i .u8], .sl true [.s, .i .i64], .sl true [.s, .s]], .i .i64] [], .i .i64 0]]⟩, x66_4_0)]⟩], false, [.ag [.ro (.sl true [.i .i64, .s, .b, .i .i64, .sl true [.i .i64, .i .i64, .i .i64, .sl false [.i .u8], .sl true [.s, .i .i64], .sl true [.s, .s]], .i .i64]), .v (.i .i64)]], [.v (.b)]⟩
def x239_3_0 : List (Ex × List Nat × CSt) := [(.ret, [4, 5, 6], ⟨[.i .i64 0, .i .i64 0, .b false], [.dead, .dead]⟩), ((.ex 0), [], ⟨[], [.dead, .dead]⟩)]
noncomputable def fi239 : Fi := ⟨Tryz.f239, [⟨3, [0, 1, 7, 8], [], [(⟨[.ro 0 false [.i .u8] [], .i .i64 0, .i .i64 0, .i .i64 0], [.dead, .dead]⟩, x239_3_0)]⟩], false, [.ro (.sl false [.i .u8]), .v (.i .i64)], [.v (.i .i64), .v (.i .i64), .v (.b)]⟩
noncomputable def fi209 : Fi := ⟨Tryz.f209, [], false, [.bx [.ro (.sl false [.i .u8]), .v (.i .i64), .v (.b)]], [.v (.i .i64)]⟩
noncomputable def fi240 : Fi := ⟨Tryz.f240, [], false, [.ro (.sl false [.i .u8]), .v (.i .i64)], [.v (.s), .v (.i .i64), .v (.b)]⟩
noncomputable def fi210 : Fi := ⟨Tryz.f210, [], false, [.bx [.ro (.sl false [.i .u8]), .v (.i .i64), .v (.b)]], [.v (.s)]⟩
def x211_3_0 : List (Ex × List Nat × CSt) := [((.ex 0), [3], ⟨[.i .i64 0], [.dead]⟩)]
def x211_7_0 : List (Ex × List Nat × CSt) := [((.ex 2), [0, 3, 4], ⟨[.ro 0 false [.i .u8] [], .i .i64 0, .i .i64 0], [.dead]⟩)]
noncomputable def fi211 : Fi := ⟨Tryz.f211, [⟨3, [0, 3, 4], [], [(⟨[.ro 0 false [.i .u8] [], .i .i64 0, .i .i64 0], [.dead]⟩, x211_3_0)]⟩, ⟨7, [0, 3, 4, 5], [], [(⟨[.ro 0 false [.i .u8] [], .i .i64 0, .i .i64 0, .i .i64 0], [.dead]⟩, x211_7_0)]⟩], false, [.ro (.sl false [.i .u8])], [.v (.i .i64)]⟩
noncomputable def fi212 : Fi := ⟨Tryz.f212, [], false, [.ag [.v (.i .i64), .v (.i .i64), .ro (.sl false [.i .u8])]], [.v (.b)]⟩
def x172_6_0 : List (Ex × List Nat × CSt) := [((.ex 0), [0, 2, 4, 5], ⟨[.ro 0 false [.i .u8] [], .bp 1 0, .i .i64 0, .i .i64 0], [.dead, .box [.i .i64 0, .i .i64 0, .rf 2 [] 0 none], .row false [.i .u8] [] 0 false]⟩)]
noncomputable def fi172 : Fi := ⟨Tryz.f172, [⟨6, [0, 2, 4, 5, 6], [], [(⟨[.ro 0 false [.i .u8] [], .bp 1 0, .i .i64 0, .i .i64 0, .i .i64 0], [.dead, .box [.i .i64 0, .i .i64 0, .rf 2 [] 0 none], .row false [.i .u8] [] 0 false]⟩, x172_6_0)]⟩], false, [.ro (.sl false [.i .u8])], [.ag [.v (.i .i64), .v (.i .i64), .ow (.sl false [.i .u8])], .v (.b)]⟩
def x116_3_0 : List (Ex × List Nat × CSt) := [((.ex 0), [3], ⟨[.i .i64 0], [.dead]⟩)]
def x116_6_0 : List (Ex × List Nat × CSt) := [((.ex 2), [1, 3, 4], ⟨[.bp 1 0, .i .i64 0, .i .i64 0], [.dead, .box [.ro 0 true [.sl true [.b, .sl false [.i .u8]], .i .i64, .b] []]]⟩)]
noncomputable def fi116 : Fi := ⟨Tryz.f116, [⟨3, [1, 3, 4], [], [(⟨[.bp 1 0, .i .i64 0, .i .i64 0], [.dead, .box [.ro 0 true [.sl true [.b, .sl false [.i .u8]], .i .i64, .b] []]]⟩, x116_3_0)]⟩, ⟨6, [1, 3, 4, 5], [], [(⟨[.bp 1 0, .i .i64 0, .i .i64 0, .i .i64 0], [.dead, .box [.ro 0 true [.sl true [.b, .sl false [.i .u8]], .i .i64, .b] []]]⟩, x116_6_0)]⟩], false, [.ag [.ro (.sl true [.sl true [.b, .sl false [.i .u8]], .i .i64, .b])]], [.v (.i .i64)]⟩
noncomputable def fi67 : Fi := ⟨Tryz.f67, [], false, [.ag [.ro (.sl true [.sl true [.b, .sl false [.i .u8]], .i .i64, .b]), .v (.i .i64), .ro (.sl true [.i .i64, .i .i64, .i .i64]), .v (.b), .v (.i .i64)]], [.v (.b)]⟩
def x173_4_0 : List (Ex × List Nat × CSt) := [(.ret, [4], ⟨[.b false], [.dead, .dead, .dead, .dead]⟩), ((.ex 0), [], ⟨[], [.dead, .dead, .dead, .dead]⟩)]
noncomputable def fi173 : Fi := ⟨Tryz.f173, [⟨4, [2, 3, 5], [], [(⟨[.bp 4 0, .bp 5 0, .i .i64 0], [.dead, .dead, .dead, .dead, .box [.ro 0 true [.i .i64, .s, .b, .i .i64, .sl true [.i .i64, .i .i64, .i .i64, .sl false [.i .u8], .sl true [.s, .i .i64], .sl true [.s, .s]], .i .i64] [], .i .i64 0], .box [.ro 0 true [.i .i64, .s, .b, .i .i64, .sl true [.i .i64, .i .i64, .i .i64, .sl false [.i .u8], .sl true [.s, .i .i64], .sl true [.s, .s]], .i .i64] [], .i .i64 0]]⟩, x173_4_0)]⟩], false, [.ag [.ro (.sl true [.i .i64, .s, .b, .i .i64, .sl true [.i .i64, .i .i64, .i .i64, .sl false [.i .u8], .sl true [.s, .i .i64], .sl true [.s, .s]], .i .i64]), .v (.i .i64)], .ag [.ro (.sl true [.i .i64, .s, .b, .i .i64, .sl true [.i .i64, .i .i64, .i .i64, .sl false [.i .u8], .sl true [.s, .i .i64], .sl true [.s, .s]], .i .i64]), .v (.i .i64)]], [.v (.b)]⟩
noncomputable def fi117 : Fi := ⟨Tryz.f117, [], false, [.ag [.ro (.sl true [.i .i64, .s, .b, .i .i64, .sl true [.i .i64, .i .i64, .i .i64, .sl false [.i .u8], .sl true [.s, .i .i64], .sl true [.s, .s]], .i .i64]), .v (.i .i64), .v (.i .i64), .ro (.sl true [.i .i64, .s, .b, .i .i64, .i .i64]), .ro (.sl true [.i .i64, .sl true [.i .i64, .i .i64]]), .v (.i .i64), .v (.i .i64)]], [.v (.b)]⟩
noncomputable def fi68 : Fi := ⟨Tryz.f68, [⟨6, [2, 3, 5], [], []⟩], false, [.ag [.ro (.sl true [.sl true [.b, .sl false [.i .u8]], .i .i64, .b]), .v (.i .i64), .ro (.sl true [.i .i64, .i .i64, .i .i64]), .v (.b), .v (.i .i64)], .ag [.ro (.sl true [.i .i64, .s, .b, .i .i64, .sl true [.i .i64, .i .i64, .i .i64, .sl false [.i .u8], .sl true [.s, .i .i64], .sl true [.s, .s]], .i .i64]), .v (.i .i64), .v (.i .i64), .ro (.sl true [.i .i64, .s, .b, .i .i64, .i .i64]), .ro (.sl true [.i .i64, .sl true [.i .i64, .i .i64]]), .v (.i .i64), .v (.i .i64)]], [.v (.b)]⟩
noncomputable def fi26 : Fi := ⟨Tryz.f26, [], false, [.ag [.ro (.sl true [.i .i64, .s, .b, .i .i64, .sl true [.i .i64, .i .i64, .i .i64, .sl false [.i .u8], .sl true [.s, .i .i64], .sl true [.s, .s]], .i .i64]), .v (.i .i64), .ro (.sl true [.i .i64, .s, .b, .i .i64, .sl true [.i .i64, .i .i64, .i .i64, .sl false [.i .u8], .sl true [.s, .i .i64], .sl true [.s, .s]], .i .i64]), .v (.i .i64), .v (.i .i64), .ro (.sl true [.i .i64, .s, .b, .i .i64, .i .i64]), .ro (.sl true [.i .i64, .sl true [.i .i64, .i .i64]]), .v (.i .i64), .v (.i .i64), .ro (.sl true [.sl true [.b, .sl false [.i .u8]], .i .i64, .b]), .v (.i .i64), .ro (.sl true [.i .i64, .i .i64, .i .i64]), .v (.b), .v (.i .i64)]], [.v (.b)]⟩
noncomputable def fi6 : Fi := ⟨Tryz.f6, [], false, [.v (.i .i64), .ro (.sl true [.i .i64, .i .i64, .i .i64])], [.ag [.ow (.sl true [.i .i64, .s, .b, .i .i64, .sl true [.i .i64, .i .i64, .i .i64, .sl false [.i .u8], .sl true [.s, .i .i64], .sl true [.s, .s]], .i .i64]), .v (.i .i64), .ow (.sl true [.i .i64, .s, .b, .i .i64, .sl true [.i .i64, .i .i64, .i .i64, .sl false [.i .u8], .sl true [.s, .i .i64], .sl true [.s, .s]], .i .i64]), .v (.i .i64), .v (.i .i64), .ow (.sl true [.i .i64, .s, .b, .i .i64, .i .i64]), .ow (.sl true [.i .i64, .sl true [.i .i64, .i .i64]]), .v (.i .i64), .v (.i .i64), .ow (.sl true [.sl true [.b, .sl false [.i .u8]], .i .i64, .b]), .v (.i .i64), .ow (.sl true [.i .i64, .i .i64, .i .i64]), .v (.b), .v (.i .i64)]]⟩
noncomputable def fi21 : Fi := ⟨Tryz.f21, [], false, [], [.ag [.ow (.sl true [.i .i64, .s, .b, .i .i64, .sl true [.i .i64, .i .i64, .i .i64, .sl false [.i .u8], .sl true [.s, .i .i64], .sl true [.s, .s]], .i .i64]), .v (.i .i64)]]⟩
noncomputable def fi28 : Fi := ⟨Tryz.f28, [], false, [], [.ag [.ow (.sl true [.i .i64, .s, .b, .i .i64, .sl true [.i .i64, .i .i64, .i .i64, .sl false [.i .u8], .sl true [.s, .i .i64], .sl true [.s, .s]], .i .i64]), .v (.i .i64), .v (.i .i64), .ow (.sl true [.i .i64, .s, .b, .i .i64, .i .i64]), .ow (.sl true [.i .i64, .sl true [.i .i64, .i .i64]]), .v (.i .i64), .v (.i .i64)]]⟩
noncomputable def fi58 : Fi := ⟨Tryz.f58, [], false, [.v (.i .i64), .v (.i .i64), .v (.i .i64)], [.v (.b)]⟩
def x40_5_0 : List (Ex × List Nat × CSt) := [((.ex 0), [2, 3], ⟨[.bp 1 0, .bp 3 0], [.dead, .box [.rf 2 [] 0 none], .row true [.sl true [.b, .sl false [.i .u8]], .i .i64, .b] [] 0 false, .box [.rf 4 [] 0 none], .row true [.sl true [.b, .sl false [.i .u8]], .i .i64, .b] [] 0 false]⟩)]
noncomputable def fi40 : Fi := ⟨Tryz.f40, [⟨5, [2, 3, 9, 10], [], [(⟨[.bp 1 0, .bp 3 0, .i .i64 0, .i .i64 0], [.dead, .box [.rf 2 [] 0 none], .row true [.sl true [.b, .sl false [.i .u8]], .i .i64, .b] [] 0 false, .box [.rf 4 [] 0 none], .row true [.sl true [.b, .sl false [.i .u8]], .i .i64, .b] [] 0 false]⟩, x40_5_0)]⟩], false, [.v (.i .i64)], [.ag [.ow (.sl true [.sl true [.b, .sl false [.i .u8]], .i .i64, .b])]]⟩
noncomputable def fi41 : Fi := ⟨Tryz.f41, [], false, [.ro (.sl true [.i .i64, .i .i64, .i .i64])], [.ow (.sl true [.i .i64, .i .i64, .i .i64])]⟩
def x83_2_0 : List (Ex × List Nat × CSt) := [(.ret, [2], ⟨[.b false], [.dead]⟩), ((.ex 0), [1], ⟨[.bp 1 0], [.dead, .box [.ro 0 true [.sl true [.b, .sl false [.i .u8]], .i .i64, .b] []]]⟩)]
def x83_7_0 : List (Ex × List Nat × CSt) := [(.ret, [2], ⟨[.b false], [.dead]⟩), ((.ex 2), [1, 8, 9, 10], ⟨[.bp 1 0, .ro 0 true [.sl true [.b, .sl false [.i .u8]], .i .i64, .b] [], .i .i64 0, .i .i64 0], [.dead, .box [.ro 0 true [.sl true [.b, .sl false [.i .u8]], .i .i64, .b] []]]⟩)]
noncomputable def fi83 : Fi := ⟨Tryz.f83, [⟨2, [1, 8, 9, 10], [], [(⟨[.bp 1 0, .ro 0 true [.sl true [.b, .sl false [.i .u8]], .i .i64, .b] [], .i .i64 0, .i .i64 0], [.dead, .box [.ro 0 true [.sl true [.b, .sl false [.i .u8]], .i .i64, .b] []]]⟩, x83_2_0)]⟩, ⟨7, [1, 4, 8, 9, 10, 25, 26, 27], [], [(⟨[.bp 1 0, .bp 2 0, .ro 0 true [.sl true [.b, .sl false [.i .u8]], .i .i64, .b] [], .i .i64 0, .i .i64 0, .ro 0 true [.b, .sl false [.i .u8]] [], .i .i64 0, .i .i64 0], [.dead, .box [.ro 0 true [.sl true [.b, .sl false [.i .u8]], .i .i64, .b] []], .box [.ro 0 true [.b, .sl false [.i .u8]] [], .i .i64 0, .b false]]⟩, x83_7_0)]⟩], false, [.ag [.ro (.sl true [.sl true [.b, .sl false [.i .u8]], .i .i64, .b])]], [.v (.b)]⟩
def x42_2_0 : List (Ex × List Nat × CSt) := [(.ret, [2], ⟨[.b false], [.dead, .dead, .dead, .dead]⟩), ((.ex 0), [1], ⟨[.bp 4 0], [.dead, .dead, .dead, .dead, .box [.ro 0 true [.sl true [.b, .sl false [.i .u8]], .i .i64, .b] [], .i .i64 0, .ro 0 true [.i .i64, .i .i64, .i .i64] [], .b false]]⟩)]
noncomputable def fi42 : Fi := ⟨Tryz.f42, [⟨2, [1, 6, 7, 8], [], [(⟨[.bp 4 0, .ro 0 true [.i .i64, .i .i64, .i .i64] [], .i .i64 0, .i .i64 0], [.dead, .dead, .dead, .dead, .box [.ro 0 true [.sl true [.b, .sl false [.i .u8]], .i .i64, .b] [], .i .i64 0, .ro 0 true [.i .i64, .i .i64, .i .i64] [], .b false]]⟩, x42_2_0)]⟩], false, [.ag [.ro (.sl true [.sl true [.b, .sl false [.i .u8]], .i .i64, .b]), .v (.i .i64), .ro (.sl true [.i .i64, .i .i64, .i .i64]), .v (.b)]], [.v (.b)]⟩
noncomputable def fi15 : Fi := ⟨Tryz.f15, [], false, [.v (.i .i64), .ro (.sl true [.i .i64, .i .i64, .i .i64])], [.ag [.ow (.sl true [.sl true [.b, .sl false [.i .u8]], .i .i64, .b]), .v (.i .i64), .ow (.sl true [.i .i64, .i .i64, .i .i64]), .v (.b)]]⟩
def x22_4_0 : List (Ex × List Nat × CSt) := [(.ret, [2], ⟨[.b false], [.dead, .dead]⟩), ((.ex 0), [], ⟨[], [.dead, .dead]⟩)]
noncomputable def fi22 : Fi := ⟨Tryz.f22, [⟨4, [1, 16, 17, 18], [], [(⟨[.bp 2 0, .ro 0 true [.i .i64, .s, .b, .i .i64, .sl true [.i .i64, .i .i64, .i .i64, .sl false [.i .u8], .sl true [.s, .i .i64], .sl true [.s, .s]], .i .i64] [], .i .i64 0, .i .i64 0], [.dead, .dead, .box [.ro 0 true [.i .i64, .s, .b, .i .i64, .sl true [.i .i64, .i .i64, .i .i64, .sl false [.i .u8], .sl true [.s, .i .i64], .sl true [.s, .s]], .i .i64] [], .i .i64 0]]⟩, x22_4_0)]⟩], false, [.ag [.ro (.sl true [.i .i64, .s, .b, .i .i64, .sl true [.i .i64, .i .i64, .i .i64, .sl false [.i .u8], .sl true [.s, .i .i64], .sl true [.s, .s]], .i .i64]), .v (.i .i64)]], [.v (.b)]⟩
noncomputable def fi123 : Fi := ⟨Tryz.f123, [], true, [], []⟩
noncomputable def fi95 : Fi := ⟨Tryz.f95, [], false, [.ag [.ro (.sl true [.sl true [.b, .sl false [.i .u8]], .i .i64, .b])], .v (.i .i64)], [.v (.b)]⟩
noncomputable def fi54 : Fi := ⟨Tryz.f54, [], false, [.ro (.sl false [.i .u8])], [.ow (.sl false [.i .u8])]⟩
noncomputable def fi144 : Fi := ⟨Tryz.f144, [], false, [.ag [.ro (.sl true [.sl true [.b, .sl false [.i .u8]], .i .i64, .b])], .v (.i .i64), .v (.i .i64)], [.ow (.sl false [.i .u8]), .v (.b)]⟩
def x157_3_0 : List (Ex × List Nat × CSt) := [((.ex 0), [3], ⟨[.i .u32 0], [.dead]⟩)]
def x157_7_0 : List (Ex × List Nat × CSt) := [((.ex 2), [3, 7, 8, 9], ⟨[.i .u32 0, .ro 0 false [.i .u8] [], .i .i64 0, .i .i64 0], [.dead]⟩)]
noncomputable def fi157 : Fi := ⟨Tryz.f157, [⟨3, [3, 7, 8, 9], [], [(⟨[.i .u32 0, .ro 0 false [.i .u8] [], .i .i64 0, .i .i64 0], [.dead]⟩, x157_3_0)]⟩, ⟨7, [3, 7, 8, 9, 17], [], [(⟨[.i .u32 0, .ro 0 false [.i .u8] [], .i .i64 0, .i .i64 0, .i .i64 0], [.dead]⟩, x157_7_0)]⟩], false, [.ro (.sl false [.i .u8])], [.v (.i .i64)]⟩
noncomputable def fi99 : Fi := ⟨Tryz.f99, [], false, [.ro (.sl false [.i .u8])], [.ow (.sl false [.i .u8])]⟩
noncomputable def fi195 : Fi := ⟨Tryz.f195, [], false, [.ro (.sl false [.i .u8])], [.ro (.sl false [.i .u8]), .v (.b)]⟩
def x91_6_0 : List (Ex × List Nat × CSt) := [((.ex 0), [], ⟨[], [.dead, .dead]⟩), (.ret, [4, 5, 6], ⟨[.i .i64 0, .i .i64 0, .b false], [.dead, .dead]⟩)]
noncomputable def fi91 : Fi := ⟨Tryz.f91, [⟨6, [0, 1, 7, 8, 9], [], [(⟨[.ro 0 false [.i .u8] [], .i .i64 0, .i .i64 0, .i .i64 0, .i .i64 0], [.dead, .dead]⟩, x91_6_0)]⟩], false, [.ro (.sl false [.i .u8]), .v (.i .i64)], [.v (.i .i64), .v (.i .i64), .v (.b)]⟩
noncomputable def fi148 : Fi := ⟨Tryz.f148, [], false, [.bx [.ro (.sl false [.i .u8]), .v (.i .i64), .v (.b)]], [.v (.i .i64)]⟩
noncomputable def fi198 : Fi := ⟨Tryz.f198, [], false, [.ro (.sl false [.i .u8]), .v (.i .i64)], [.v (.s), .v (.i .i64), .v (.b)]⟩
noncomputable def fi150 : Fi := ⟨Tryz.f150, [], false, [.bx [.ro (.sl false [.i .u8]), .v (.i .i64), .v (.b)]], [.v (.s)]⟩
noncomputable def fi152 : Fi := ⟨Tryz.f152, [], false, [.bx [.ro (.sl false [.i .u8]), .v (.i .i64), .v (.b)]], [.v (.b)]⟩
noncomputable def fi49 : Fi := ⟨Tryz.f49, [], false, [.ag [.v (.i .i64), .v (.i .i64), .ro (.sl false [.i .u8])]], [.v (.b)]⟩
noncomputable def fi145 : Fi := ⟨Tryz.f145, [], false, [.ro (.sl false [.i .u8])], [.ag [.v (.i .i64), .v (.i .i64), .ow (.sl false [.i .u8])], .v (.b)]⟩
noncomputable def fi85 : Fi := ⟨Tryz.f85, [], false, [.ag [.ro (.sl true [.sl true [.b, .sl false [.i .u8]], .i .i64, .b]), .v (.i .i64), .ro (.sl true [.i .i64, .i .i64, .i .i64]), .v (.b), .v (.i .i64)], .v (.i .i64)], [.ag [.v (.i .i64), .v (.i .i64), .ow (.sl false [.i .u8])], .v (.b)]⟩
def x44_2_0 : List (Ex × List Nat × CSt) := [((.ex 0), [], ⟨[], [.box [.b false], .box [.ro 0 true [.sl true [.b, .sl false [.i .u8]], .i .i64, .b] [], .i .i64 0, .ro 0 true [.i .i64, .i .i64, .i .i64] [], .b false, .i .i64 0]]⟩)]
noncomputable def fi44 : Fi := ⟨Tryz.f44, [⟨2, [1, 2, 12, 13], [], [(⟨[.fn 123 [.bp 0 0, .bp 1 0], .bp 2 0, .i .i64 0, .i .i64 0], [.box [.b false], .box [.ro 0 true [.sl true [.b, .sl false [.i .u8]], .i .i64, .b] [], .i .i64 0, .ro 0 true [.i .i64, .i .i64, .i .i64] [], .b false, .i .i64 0], .box [.ro 0 true [.sl true [.b, .sl false [.i .u8]], .i .i64, .b] [], .i .i64 0, .ro 0 true [.i .i64, .i .i64, .i .i64] [], .b false, .i .i64 0]]⟩, x44_2_0)]⟩], true, [], []⟩
noncomputable def fi69 : Fi := ⟨Tryz.f69, [], false, [.ag [.ro (.sl true [.sl true [.b, .sl false [.i .u8]], .i .i64, .b]), .v (.i .i64), .ro (.sl true [.i .i64, .i .i64, .i .i64]), .v (.b), .v (.i .i64)]], [.v (.b)]⟩
def x55_4_0 : List (Ex × List Nat × CSt) := [(.ret, [6], ⟨[.b false], []⟩), ((.ex 0), [], ⟨[], []⟩)]
noncomputable def fi55 : Fi := ⟨Tryz.f55, [⟨4, [1, 2, 15, 16, 17], [], [(⟨[.ro 0 true [.i .i64, .s, .b, .i .i64, .sl true [.i .i64, .i .i64, .i .i64, .sl false [.i .u8], .sl true [.s, .i .i64], .sl true [.s, .s]], .i .i64] [], .fn 56 [], .ro 0 true [.i .i64, .s, .b, .i .i64, .sl true [.i .i64, .i .i64, .i .i64, .sl false [.i .u8], .sl true [.s, .i .i64], .sl true [.s, .s]], .i .i64] [], .i .i64 0, .i .i64 0], []⟩, x55_4_0)]⟩], true, [], []⟩
noncomputable def fi56 : Fi := ⟨Tryz.f56, [], false, [.ag [.v (.i .i64), .v (.s), .v (.b), .v (.i .i64), .ro (.sl true [.i .i64, .i .i64, .i .i64, .sl false [.i .u8], .sl true [.s, .i .i64], .sl true [.s, .s]]), .v (.i .i64)], .ag [.v (.i .i64), .v (.s), .v (.b), .v (.i .i64), .ro (.sl true [.i .i64, .i .i64, .i .i64, .sl false [.i .u8], .sl true [.s, .i .i64], .sl true [.s, .s]]), .v (.i .i64)]], [.v (.b)]⟩
noncomputable def fi20 : Fi := ⟨Tryz.f20, [], false, [.ag [.ro (.sl true [.i .i64, .s, .b, .i .i64, .sl true [.i .i64, .i .i64, .i .i64, .sl false [.i .u8], .sl true [.s, .i .i64], .sl true [.s, .s]], .i .i64]), .v (.i .i64)], .ag [.ro (.sl true [.i .i64, .s, .b, .i .i64, .sl true [.i .i64, .i .i64, .i .i64, .sl false [.i .u8], .sl true [.s, .i .i64], .sl true [.s, .s]], .i .i64]), .v (.i .i64)]], [.v (.b)]⟩
noncomputable def fi124 : Fi := ⟨Tryz.f124, [], false, [.ag [.ro (.sl true [.i .i64, .s, .b, .i .i64, .sl true [.i .i64, .i .i64, .i .i64, .sl false [.i .u8], .sl true [.s, .i .i64], .sl true [.s, .s]], .i .i64]), .v (.i .i64), .v (.i .i64), .ro (.sl true [.i .i64, .s, .b, .i .i64, .i .i64]), .ro (.sl true [.i .i64, .sl true [.i .i64, .i .i64]]), .v (.i .i64), .v (.i .i64)]], [.v (.b)]⟩
noncomputable def fi70 : Fi := ⟨Tryz.f70, [⟨9, [2, 3, 72, 73, 74], [], []⟩, ⟨16, [2, 3, 9, 72, 73, 74, 145, 146, 147], [], []⟩], false, [.ag [.ro (.sl true [.sl true [.b, .sl false [.i .u8]], .i .i64, .b]), .v (.i .i64), .ro (.sl true [.i .i64, .i .i64, .i .i64]), .v (.b), .v (.i .i64)], .ag [.ro (.sl true [.i .i64, .s, .b, .i .i64, .sl true [.i .i64, .i .i64, .i .i64, .sl false [.i .u8], .sl true [.s, .i .i64], .sl true [.s, .s]], .i .i64]), .v (.i .i64), .v (.i .i64), .ro (.sl true [.i .i64, .s, .b, .i .i64, .i .i64]), .ro (.sl true [.i .i64, .sl true [.i .i64, .i .i64]]), .v (.i .i64), .v (.i .i64)]], [.v (.b)]⟩
noncomputable def fi29 : Fi := ⟨Tryz.f29, [], false, [.ag [.ro (.sl true [.i .i64, .s, .b, .i .i64, .sl true [.i .i64, .i .i64, .i .i64, .sl false [.i .u8], .sl true [.s, .i .i64], .sl true [.s, .s]], .i .i64]), .v (.i .i64), .ro (.sl true [.i .i64, .s, .b, .i .i64, .sl true [.i .i64, .i .i64, .i .i64, .sl false [.i .u8], .sl true [.s, .i .i64], .sl true [.s, .s]], .i .i64]), .v (.i .i64), .v (.i .i64), .ro (.sl true [.i .i64, .s, .b, .i .i64, .i .i64]), .ro (.sl true [.i .i64, .sl true [.i .i64, .i .i64]]), .v (.i .i64), .v (.i .i64), .ro (.sl true [.sl true [.b, .sl false [.i .u8]], .i .i64, .b]), .v (.i .i64), .ro (.sl true [.i .i64, .i .i64, .i .i64]), .v (.b), .v (.i .i64)]], [.v (.b)]⟩
noncomputable def fi8 : Fi := ⟨Tryz.f8, [], false, [.v (.i .i64), .ro (.sl true [.i .i64, .i .i64, .i .i64])], [.ag [.ow (.sl true [.i .i64, .s, .b, .i .i64, .sl true [.i .i64, .i .i64, .i .i64, .sl false [.i .u8], .sl true [.s, .i .i64], .sl true [.s, .s]], .i .i64]), .v (.i .i64), .ow (.sl true [.i .i64, .s, .b, .i .i64, .sl true [.i .i64, .i .i64, .i .i64, .sl false [.i .u8], .sl true [.s, .i .i64], .sl true [.s, .s]], .i .i64]), .v (.i .i64), .v (.i .i64), .ow (.sl true [.i .i64, .s, .b, .i .i64, .i .i64]), .ow (.sl true [.i .i64, .sl true [.i .i64, .i .i64]]), .v (.i .i64), .v (.i .i64), .ow (.sl true [.sl true [.b, .sl false [.i .u8]], .i .i64, .b]), .v (.i .i64), .ow (.sl true [.i .i64, .i .i64, .i .i64]), .v (.b), .v (.i .i64)]]⟩
def x252_4_0 : List (Ex × List Nat × CSt) := [(.ret, [4], ⟨[.b false], [.dead, .dead]⟩), ((.ex 0), [], ⟨[], [.dead, .dead]⟩)]
noncomputable def fi252 : Fi := ⟨Tryz.f252, [⟨4, [0, 1, 5], [], [(⟨[.ro 0 false [.i .u8] [], .ro 0 false [.i .u8] [], .i .i64 0], [.dead, .dead]⟩, x252_4_0)]⟩], false, [.ro (.sl false [.i .u8]), .ro (.sl false [.i .u8])], [.v (.b)]⟩
noncomputable def fi257 : Fi := ⟨Tryz.f257, [], false, [.ag [.v (.s), .v (.i .i64)], .ag [.v (.s), .v (.i .i64)]], [.v (.b)]⟩
def x253_4_0 : List (Ex × List Nat × CSt) := [(.ret, [4], ⟨[.b false], [.dead, .dead]⟩), ((.ex 0), [], ⟨[], [.dead, .dead]⟩)]
noncomputable def fi253 : Fi := ⟨Tryz.f253, [⟨4, [0, 1, 5], [], [(⟨[.ro 0 true [.s, .i .i64] [], .ro 0 true [.s, .i .i64] [], .i .i64 0], [.dead, .dead]⟩, x253_4_0)]⟩], false, [.ro (.sl true [.s, .i .i64]), .ro (.sl true [.s, .i .i64])], [.v (.b)]⟩
noncomputable def fi258 : Fi := ⟨Tryz.f258, [], false, [.ag [.v (.s), .v (.s)], .ag [.v (.s), .v (.s)]], [.v (.b)]⟩
def x254_4_0 : List (Ex × List Nat × CSt) := [(.ret, [4], ⟨[.b false], [.dead, .dead]⟩), ((.ex 0), [], ⟨[], [.dead, .dead]⟩)]
noncomputable def fi254 : Fi := ⟨Tryz.f254, [⟨4, [0, 1, 5], [], [(⟨[.ro 0 true [.s, .s] [], .ro 0 true [.s, .s] [], .i .i64 0], [.dead, .dead]⟩, x254_4_0)]⟩], false, [.ro (.sl true [.s, .s]), .ro (.sl true [.s, .s])], [.v (.b)]⟩
noncomputable def fi242 : Fi := ⟨Tryz.f242, [], false, [.ag [.v (.i .i64), .v (.i .i64), .v (.i .i64), .ro (.sl false [.i .u8]), .ro (.sl true [.s, .i .i64]), .ro (.sl true [.s, .s])], .ag [.v (.i .i64), .v (.i .i64), .v (.i .i64), .ro (.sl false [.i .u8]), .ro (.sl true [.s, .i .i64]), .ro (.sl true [.s, .s])]], [.v (.b)]⟩
def x215_4_0 : List (Ex × List Nat × CSt) := [(.ret, [4], ⟨[.b false], [.dead, .dead]⟩), ((.ex 0), [], ⟨[], [.dead, .dead]⟩)]
noncomputable def fi215 : Fi := ⟨Tryz.f215, [⟨4, [0, 1, 5], [], [(⟨[.ro 0 true [.i .i64, .i .i64, .i .i64, .sl false [.i .u8], .sl true [.s, .i .i64], .sl true [.s, .s]] [], .ro 0 true [.i .i64, .i .i64, .i .i64, .sl false [.i .u8], .sl true [.s, .i .i64], .sl true [.s, .s]] [], .i .i64 0], [.dead, .dead]⟩, x215_4_0)]⟩], false, [.ro (.sl true [.i .i64, .i .i64, .i .i64, .sl false [.i .u8], .sl true [.s, .i .i64], .sl true [.s, .s]]), .ro (.sl true [.i .i64, .i .i64, .i .i64, .sl false [.i .u8], .sl true [.s, .i .i64], .sl true [.s, .s]])], [.v (.b)]⟩
noncomputable def fi183 : Fi := ⟨Tryz.f183, [], false, [.ag [.ro (.sl true [.i .i64, .i .i64, .i .i64, .sl false [.i .u8], .sl true [.s, .i .i64], .sl true [.s, .s]]), .v (.i .i64)], .ag [.ro (.sl true [.i .i64, .i .i64, .i .i64, .sl false [.i .u8], .sl true [.s, .i .i64], .sl true [.s, .s]]), .v (.i .i64)]], [.v (.b)]⟩
noncomputable def fi129 : Fi := ⟨Tryz.f129, [], false, [.ag [.v (.i .i64), .v (.s), .v (.b), .v (.i .i64), .ro (.sl true [.i .i64, .i .i64, .i .i64, .sl false [.i .u8], .sl true [.s, .i .i64], .sl true [.s, .s]]), .v (.i .i64)], .ag [.v (.i .i64), .v (.s), .v (.b), .v (.i .i64), .ro (.sl true [.i .i64, .i .i64, .i .i64, .sl false [.i .u8], .sl true [.s, .i .i64], .sl true [.s, .s]]), .v (.i .i64)]], [.v (.b)]⟩
def x71_4_0 : List (Ex × List Nat × CSt) := [(.ret, [4], ⟨[.b false], [.dead, .dead]⟩), ((.ex 0), [], ⟨[], [.dead, .dead]⟩)]
noncomputable def fi71 : Fi := ⟨Tryz.f71, [⟨4, [0, 1, 5], [], [(⟨[.ro 0 true [.i .i64, .s, .b, .i .i64, .sl true [.i .i64, .i .i64, .i .i64, .sl false [.i .u8], .sl true [.s, .i .i64], .sl true [.s, .s]], .i .i64] [], .ro 0 true [.i .i64, .s, .b, .i .i64, .sl true [.i .i64, .i .i64, .i .i64, .sl false [.i .u8], .sl true [.s, .i .i64], .sl true [.s, .s]], .i .i64] [], .i .i64 0], [.dead, .dead]⟩, x71_4_0)]⟩], false, [.ro (.sl true [.i .i64, .s, .b, .i .i64, .sl true [.i .i64, .i .i64, .i .i64, .sl false [.i .u8], .sl true [.s, .i .i64], .sl true [.s, .s]], .i .i64]), .ro (.sl true [.i .i64, .s, .b, .i .i64, .sl true [.i .i64, .i .i64, .i .i64, .sl false [.i .u8], .sl true [.s, .i .i64], .sl true [.s, .s]], .i .i64])], [.v (.b)]⟩
noncomputable def fi30 : Fi := ⟨Tryz.f30, [], false, [.ag [.ro (.sl true [.i .i64, .s, .b, .i .i64, .sl true [.i .i64, .i .i64, .i .i64, .sl false [.i .u8], .sl true [.s, .i .i64], .sl true [.s, .s]], .i .i64]), .v (.i .i64)], .ag [.ro (.sl true [.i .i64, .s, .b, .i .i64, .sl true [.i .i64, .i .i64, .i .i64, .sl false [.i .u8], .sl true [.s, .i .i64], .sl true [.s, .s]], .i .i64]), .v (.i .i64)]], [.v (.b)]⟩
noncomputable def fi184 : Fi := ⟨Tryz.f184, [], false, [.ag [.v (.i .i64), .v (.s), .v (.b), .v (.i .i64), .v (.i .i64)], .ag [.v (.i .i64), .v (.s), .v (.b), .v (.i .i64), .v (.i .i64)]], [.v (.b)]⟩
def x130_4_0 : List (Ex × List Nat × CSt) := [(.ret, [4], ⟨[.b false], [.dead, .dead]⟩), ((.ex 0), [], ⟨[], [.dead, .dead]⟩)]
noncomputable def fi130 : Fi := ⟨Tryz.f130, [⟨4, [0, 1, 5], [], [(⟨[.ro 0 true [.i .i64, .s, .b, .i .i64, .i .i64] [], .ro 0 true [.i .i64, .s, .b, .i .i64, .i .i64] [], .i .i64 0], [.dead, .dead]⟩, x130_4_0)]⟩], false, [.ro (.sl true [.i .i64, .s, .b, .i .i64, .i .i64]), .ro (.sl true [.i .i64, .s, .b, .i .i64, .i .i64])], [.v (.b)]⟩
noncomputable def fi72 : Fi := ⟨Tryz.f72, [], false, [.ag [.v (.i .i64), .ro (.sl true [.i .i64, .s, .b, .i .i64, .i .i64])], .ag [.v (.i .i64), .ro (.sl true [.i .i64, .s, .b, .i .i64, .i .i64])]], [.v (.b)]⟩
noncomputable def fi216 : Fi := ⟨Tryz.f216, [], false, [.ag [.v (.i .i64), .v (.i .i64)], .ag [.v (.i .i64), .v (.i .i64)]], [.v (.b)]⟩
def x185_4_0 : List (Ex × List Nat × CSt) := [(.ret, [4], ⟨[.b false], [.dead, .dead]⟩), ((.ex 0), [], ⟨[], [.dead, .dead]⟩)]
noncomputable def fi185 : Fi := ⟨Tryz.f185, [⟨4, [0, 1, 5], [], [(⟨[.ro 0 true [.i .i64, .i .i64] [], .ro 0 true [.i .i64, .i .i64] [], .i .i64 0], [.dead, .dead]⟩, x185_4_0)]⟩], false, [.ro (.sl true [.i .i64, .i .i64]), .ro (.sl true [.i .i64, .i .i64])], [.v (.b)]⟩
noncomputable def fi131 : Fi := ⟨Tryz.f131, [], false, [.ag [.v (.i .i64), .ro (.sl true [.i .i64, .i .i64])], .ag [.v (.i .i64), .ro (.sl true [.i .i64, .i .i64])]], [.v (.b)]⟩
def x73_4_0 : List (Ex × List Nat × CSt) := [(.ret, [4], ⟨[.b false], [.dead, .dead]⟩), ((.ex 0), [], ⟨[], [.dead, .dead]⟩)]
noncomputable def fi73 : Fi := ⟨Tryz.f73, [⟨4, [0, 1, 5], [], [(⟨[.ro 0 true [.i .i64, .sl true [.i .i64, .i .i64]] [], .ro 0 true [.i .i64, .sl true [.i .i64, .i .i64]] [], .i .i64 0], [.dead, .dead]⟩, x73_4_0)]⟩], false, [.ro (.sl true [.i .i64, .sl true [.i .i64, .i .i64]]), .ro (.sl true [.i .i64, .sl true [.i .i64, .i .i64]])], [.v (.b)]⟩
noncomputable def fi31 : Fi := ⟨Tryz.f31, [], false, [.ag [.ro (.sl true [.i .i64, .s, .b, .i .i64, .sl true [.i .i64, .i .i64, .i .i64, .sl false [.i .u8], .sl true [.s, .i .i64], .sl true [.s, .s]], .i .i64]), .v (.i .i64), .v (.i .i64), .ro (.sl true [.i .i64, .s, .b, .i .i64, .i .i64]), .ro (.sl true [.i .i64, .sl true [.i .i64, .i .i64]]), .v (.i .i64), .v (.i .i64)], .ag [.ro (.sl true [.i .i64, .s, .b, .i .i64, .sl true [.i .i64, .i .i64, .i .i64, .sl false [.i .u8], .sl true [.s, .i .i64], .sl true [.s, .s]], .i .i64]), .v (.i .i64), .v (.i .i64), .ro (.sl true [.i .i64, .s, .b, .i .i64, .i .i64]), .ro (.sl true [.i .i64, .sl true [.i .i64, .i .i64]]), .v (.i .i64), .v (.i .i64)]], [.v (.b)]⟩
noncomputable def fi255 : Fi := ⟨Tryz.f255, [], false, [.ag [.v (.b), .ro (.sl false [.i .u8])], .ag [.v (.b), .ro (.sl false [.i .u8])]], [.v (.b)]⟩
def x243_4_0 : List (Ex × List Nat × CSt) := [(.ret, [4], ⟨[.b false], [.dead, .dead]⟩), ((.ex 0), [], ⟨[], [.dead, .dead]⟩)]
noncomputable def fi243 : Fi := ⟨Tryz.f243, [⟨4, [0, 1, 5], [], [(⟨[.ro 0 true [.b, .sl false [.i .u8]] [], .ro 0 true [.b, .sl false [.i .u8]] [], .i .i64 0], [.dead, .dead]⟩, x243_4_0)]⟩], false, [.ro (.sl true [.b, .sl false [.i .u8]]), .ro (.sl true [.b, .sl false [.i .u8]])], [.v (.b)]⟩
noncomputable def fi217 : Fi := ⟨Tryz.f217, [], false, [.ag [.ro (.sl true [.b, .sl false [.i .u8]]), .v (.i .i64), .v (.b)], .ag [.ro (.sl true [.b, .sl false [.i .u8]]), .v (.i .i64), .v (.b)]], [.v (.b)]⟩
def x186_4_0 : List (Ex × List Nat × CSt) := [(.ret, [4], ⟨[.b false], [.dead, .dead]⟩), ((.ex 0), [], ⟨[], [.dead, .dead]⟩)]
noncomputable def fi186 : Fi := ⟨Tryz.f186, [⟨4, [0, 1, 5], [], [(⟨[.ro 0 true [.sl true [.b, .sl false [.i .u8]], .i .i64, .b] [], .ro 0 true [.sl true [.b, .sl false [.i .u8]], .i .i64, .b] [], .i .i64 0], [.dead, .dead]⟩, x186_4_0)]⟩], false, [.ro (.sl true [.sl true [.b, .sl false [.i .u8]], .i .i64, .b]), .ro (.sl true [.sl true [.b, .sl false [.i .u8]], .i .i64, .b])], [.v (.b)]⟩
noncomputable def fi132 : Fi := ⟨Tryz.f132, [], false, [.ag [.ro (.sl true [.sl true [.b, .sl false [.i .u8]], .i .i64, .b])], .ag [.ro (.sl true [.sl true [.b, .sl false [.i .u8]], .i .i64, .b])]], [.v (.b)]⟩
noncomputable def fi33 : Fi := ⟨Tryz.f33, [], false, [.ag [.v (.i .i64), .v (.i .i64), .v (.i .i64)], .ag [.v (.i .i64), .v (.i .i64), .v (.i .i64)]], [.v (.b)]⟩
def x10_4_0 : List (Ex × List Nat × CSt) := [(.ret, [4], ⟨[.b false], [.dead, .dead]⟩), ((.ex 0), [], ⟨[], [.dead, .dead]⟩)]
noncomputable def fi10 : Fi := ⟨Tryz.f10, [⟨4, [0, 1, 5], [], [(⟨[.ro 0 true [.i .i64, .i .i64, .i .i64] [], .ro 0 true [.i .i64, .i .i64, .i .i64] [], .i .i64 0], [.dead, .dead]⟩, x10_4_0)]⟩], false, [.ro (.sl true [.i .i64, .i .i64, .i .i64]), .ro (.sl true [.i .i64, .i .i64, .i .i64])], [.v (.b)]⟩
noncomputable def fi74 : Fi := ⟨Tryz.f74, [], false, [.ag [.ro (.sl true [.sl true [.b, .sl false [.i .u8]], .i .i64, .b]), .v (.i .i64), .ro (.sl true [.i .i64, .i .i64, .i .i64]), .v (.b)], .ag [.ro (.sl true [.sl true [.b, .sl false [.i .u8]], .i .i64, .b]), .v (.i .i64), .ro (.sl true [.i .i64, .i .i64, .i .i64]), .v (.b)]], [.v (.b)]⟩
noncomputable def fi32 : Fi := ⟨Tryz.f32, [], false, [.ag [.ro (.sl true [.sl true [.b, .sl false [.i .u8]], .i .i64, .b]), .v (.i .i64), .ro (.sl true [.i .i64, .i .i64, .i .i64]), .v (.b), .v (.i .i64)], .ag [.ro (.sl true [.sl true [.b, .sl false [.i .u8]], .i .i64, .b]), .v (.i .i64), .ro (.sl true [.i .i64, .i .i64, .i .i64]), .v (.b), .v (.i .i64)]], [.v (.b)]⟩
noncomputable def fi9 : Fi := ⟨Tryz.f9, [], false, [.ag [.ro (.sl true [.i .i64, .s, .b, .i .i64, .sl true [.i .i64, .i .i64, .i .i64, .sl false [.i .u8], .sl true [.s, .i .i64], .sl true [.s, .s]], .i .i64]), .v (.i .i64), .ro (.sl true [.i .i64, .s, .b, .i .i64, .sl true [.i .i64, .i .i64, .i .i64, .sl false [.i .u8], .sl true [.s, .i .i64], .sl true [.s, .s]], .i .i64]), .v (.i .i64), .v (.i .i64), .ro (.sl true [.i .i64, .s, .b, .i .i64, .i .i64]), .ro (.sl true [.i .i64, .sl true [.i .i64, .i .i64]]), .v (.i .i64), .v (.i .i64), .ro (.sl true [.sl true [.b, .sl false [.i .u8]], .i .i64, .b]), .v (.i .i64), .ro (.sl true [.i .i64, .i .i64, .i .i64]), .v (.b), .v (.i .i64)], .ag [.ro (.sl true [.i .i64, .s, .b, .i .i64, .sl true [.i .i64, .i .i64, .i .i64, .sl false [.i .u8], .sl true [.s, .i .i64], .sl true [.s, .s]], .i .i64]), .v (.i .i64), .ro (.sl true [.i .i64, .s, .b, .i .i64, .sl true [.i .i64, .i .i64, .i .i64, .sl false [.i .u8], .sl true [.s, .i .i64], .sl true [.s, .s]], .i .i64]), .v (.i .i64), .v (.i .i64), .ro (.sl true [.i .i64, .s, .b, .i .i64, .i .i64]), .ro (.sl true [.i .i64, .sl true [.i .i64, .i .i64]]), .v (.i .i64), .v (.i .i64), .ro (.sl true [.sl true [.b, .sl false [.i .u8]], .i .i64, .b]), .v (.i .i64), .ro (.sl true [.i .i64, .i .i64, .i .i64]), .v (.b), .v (.i .i64)]], [.v (.b)]⟩
def x11_2_0 : List (Ex × List Nat × CSt) := [((.ex 0), [1], ⟨[.i .i64 0], [.row true [.i .i64, .i .i64, .i .i64] [] 0 false, .dead]⟩)]
noncomputable def fi11 : Fi := ⟨Tryz.f11, [⟨2, [0, 1, 5], [], [(⟨[.rf 0 [] 0 none, .i .i64 0, .i .i64 0], [.row true [.i .i64, .i .i64, .i .i64] [] 0 false, .dead]⟩, x11_2_0)]⟩], false, [.ow (.sl true [.i .i64, .i .i64, .i .i64]), .v (.i .i64)], [.v (.i .i64)]⟩
def x133_4_0 : List (Ex × List Nat × CSt) := [((.ex 0), [3], ⟨[.s (⟨#[]⟩ : ByteArray)], [.dead]⟩)]
noncomputable def fi133 : Fi := ⟨Tryz.f133, [⟨4, [0, 3], [], [(⟨[.i .i64 0, .s (⟨#[]⟩ : ByteArray)], [.dead]⟩, x133_4_0)]⟩], false, [.v (.i .i64)], [.v (.s)]⟩
def x187_2_0 : List (Ex × List Nat × CSt) := [((.ex 0), [1], ⟨[.i .i64 0], [.row false [.i .u8] [] 0 false, .dead]⟩)]
noncomputable def fi187 : Fi := ⟨Tryz.f187, [⟨2, [0, 1, 5], [], [(⟨[.rf 0 [] 0 none, .i .i64 0, .i .i64 0], [.row false [.i .u8] [] 0 false, .dead]⟩, x187_2_0)]⟩], false, [.ow (.sl false [.i .u8]), .v (.i .i64)], [.v (.i .i64)]⟩
def x188_2_0 : List (Ex × List Nat × CSt) := [((.ex 0), [1], ⟨[.i .i64 0], [.row true [.s, .i .i64] [] 0 false, .dead]⟩)]
noncomputable def fi188 : Fi := ⟨Tryz.f188, [⟨2, [0, 1, 5], [], [(⟨[.rf 0 [] 0 none, .i .i64 0, .i .i64 0], [.row true [.s, .i .i64] [] 0 false, .dead]⟩, x188_2_0)]⟩], false, [.ow (.sl true [.s, .i .i64]), .v (.i .i64)], [.v (.i .i64)]⟩
def x189_2_0 : List (Ex × List Nat × CSt) := [((.ex 0), [1], ⟨[.i .i64 0], [.row true [.s, .s] [] 0 false, .dead]⟩)]
noncomputable def fi189 : Fi := ⟨Tryz.f189, [⟨2, [0, 1, 5], [], [(⟨[.rf 0 [] 0 none, .i .i64 0, .i .i64 0], [.row true [.s, .s] [] 0 false, .dead]⟩, x189_2_0)]⟩], false, [.ow (.sl true [.s, .s]), .v (.i .i64)], [.v (.i .i64)]⟩
def x134_2_0 : List (Ex × List Nat × CSt) := [((.ex 0), [1], ⟨[.i .i64 0], [.row true [.i .i64, .i .i64, .i .i64, .sl false [.i .u8], .sl true [.s, .i .i64], .sl true [.s, .s]] [] 0 false, .dead]⟩)]
noncomputable def fi134 : Fi := ⟨Tryz.f134, [⟨2, [0, 1, 5], [], [(⟨[.rf 0 [] 0 none, .i .i64 0, .i .i64 0], [.row true [.i .i64, .i .i64, .i .i64, .sl false [.i .u8], .sl true [.s, .i .i64], .sl true [.s, .s]] [] 0 false, .dead]⟩, x134_2_0)]⟩], false, [.ow (.sl true [.i .i64, .i .i64, .i .i64, .sl false [.i .u8], .sl true [.s, .i .i64], .sl true [.s, .s]]), .v (.i .i64)], [.v (.i .i64)]⟩
def x75_2_0 : List (Ex × List Nat × CSt) := [((.ex 0), [1], ⟨[.i .i64 0], [.row true [.i .i64, .s, .b, .i .i64, .sl true [.i .i64, .i .i64, .i .i64, .sl false [.i .u8], .sl true [.s, .i .i64], .sl true [.s, .s]], .i .i64] [] 0 false, .dead]⟩)]
noncomputable def fi75 : Fi := ⟨Tryz.f75, [⟨2, [0, 1, 5], [], [(⟨[.rf 0 [] 0 none, .i .i64 0, .i .i64 0], [.row true [.i .i64, .s, .b, .i .i64, .sl true [.i .i64, .i .i64, .i .i64, .sl false [.i .u8], .sl true [.s, .i .i64], .sl true [.s, .s]], .i .i64] [] 0 false, .dead]⟩, x75_2_0)]⟩], false, [.ow (.sl true [.i .i64, .s, .b, .i .i64, .sl true [.i .i64, .i .i64, .i .i64, .sl false [.i .u8], .sl true [.s, .i .i64], .sl true [.s, .s]], .i .i64]), .v (.i .i64)], [.v (.i .i64)]⟩
noncomputable def fi34 : Fi := ⟨Tryz.f34, [], false, [.ag [.ow (.sl true [.i .i64, .s, .b, .i .i64, .sl true [.i .i64, .i .i64, .i .i64, .sl false [.i .u8], .sl true [.s, .i .i64], .sl true [.s, .s]], .i .i64]), .v (.i .i64)], .v (.i .i64)], [.v (.i .i64)]⟩
def x135_2_0 : List (Ex × List Nat × CSt) := [((.ex 0), [1], ⟨[.i .i64 0], [.row true [.i .i64, .s, .b, .i .i64, .i .i64] [] 0 false, .dead]⟩)]
noncomputable def fi135 : Fi := ⟨Tryz.f135, [⟨2, [0, 1, 5], [], [(⟨[.rf 0 [] 0 none, .i .i64 0, .i .i64 0], [.row true [.i .i64, .s, .b, .i .i64, .i .i64] [] 0 false, .dead]⟩, x135_2_0)]⟩], false, [.ow (.sl true [.i .i64, .s, .b, .i .i64, .i .i64]), .v (.i .i64)], [.v (.i .i64)]⟩
noncomputable def fi76 : Fi := ⟨Tryz.f76, [], false, [.ag [.v (.i .i64), .ow (.sl true [.i .i64, .s, .b, .i .i64, .i .i64])], .v (.i .i64)], [.v (.i .i64)]⟩
def x136_2_0 : List (Ex × List Nat × CSt) := [((.ex 0), [1], ⟨[.i .i64 0], [.row true [.i .i64, .i .i64] [] 0 false, .dead]⟩)]
noncomputable def fi136 : Fi := ⟨Tryz.f136, [⟨2, [0, 1, 5], [], [(⟨[.rf 0 [] 0 none, .i .i64 0, .i .i64 0], [.row true [.i .i64, .i .i64] [] 0 false, .dead]⟩, x136_2_0)]⟩], false, [.ow (.sl true [.i .i64, .i .i64]), .v (.i .i64)], [.v (.i .i64)]⟩
def x77_2_0 : List (Ex × List Nat × CSt) := [((.ex 0), [1], ⟨[.i .i64 0], [.row true [.i .i64, .sl true [.i .i64, .i .i64]] [] 0 false, .dead]⟩)]
noncomputable def fi77 : Fi := ⟨Tryz.f77, [⟨2, [0, 1, 5], [], [(⟨[.rf 0 [] 0 none, .i .i64 0, .i .i64 0], [.row true [.i .i64, .sl true [.i .i64, .i .i64]] [] 0 false, .dead]⟩, x77_2_0)]⟩], false, [.ow (.sl true [.i .i64, .sl true [.i .i64, .i .i64]]), .v (.i .i64)], [.v (.i .i64)]⟩
noncomputable def fi35 : Fi := ⟨Tryz.f35, [], false, [.ag [.ow (.sl true [.i .i64, .s, .b, .i .i64, .sl true [.i .i64, .i .i64, .i .i64, .sl false [.i .u8], .sl true [.s, .i .i64], .sl true [.s, .s]], .i .i64]), .v (.i .i64), .v (.i .i64), .ow (.sl true [.i .i64, .s, .b, .i .i64, .i .i64]), .ow (.sl true [.i .i64, .sl true [.i .i64, .i .i64]]), .v (.i .i64), .v (.i .i64)], .v (.i .i64)], [.v (.i .i64)]⟩
def x218_2_0 : List (Ex × List Nat × CSt) := [((.ex 0), [1], ⟨[.i .i64 0], [.row true [.b, .sl false [.i .u8]] [] 0 false, .dead]⟩)]
noncomputable def fi218 : Fi := ⟨Tryz.f218, [⟨2, [0, 1, 5], [], [(⟨[.rf 0 [] 0 none, .i .i64 0, .i .i64 0], [.row true [.b, .sl false [.i .u8]] [] 0 false, .dead]⟩, x218_2_0)]⟩], false, [.ow (.sl true [.b, .sl false [.i .u8]]), .v (.i .i64)], [.v (.i .i64)]⟩
def x190_2_0 : List (Ex × List Nat × CSt) := [((.ex 0), [1], ⟨[.i .i64 0], [.row true [.sl true [.b, .sl false [.i .u8]], .i .i64, .b] [] 0 false, .dead]⟩)]
noncomputable def fi190 : Fi := ⟨Tryz.f190, [⟨2, [0, 1, 5], [], [(⟨[.rf 0 [] 0 none, .i .i64 0, .i .i64 0], [.row true [.sl true [.b, .sl false [.i .u8]], .i .i64, .b] [] 0 false, .dead]⟩, x190_2_0)]⟩], false, [.ow (.sl true [.sl true [.b, .sl false [.i .u8]], .i .i64, .b]), .v (.i .i64)], [.v (.i .i64)]⟩
noncomputable def fi137 : Fi := ⟨Tryz.f137, [], false, [.ag [.ow (.sl true [.sl true [.b, .sl false [.i .u8]], .i .i64, .b])], .v (.i .i64)], [.v (.i .i64)]⟩
noncomputable def fi78 : Fi := ⟨Tryz.f78, [], false, [.ag [.ow (.sl true [.sl true [.b, .sl false [.i .u8]], .i .i64, .b]), .v (.i .i64), .ow (.sl true [.i .i64, .i .i64, .i .i64]), .v (.b)], .v (.i .i64)], [.v (.i .i64)]⟩
noncomputable def fi36 : Fi := ⟨Tryz.f36, [], false, [.ag [.ow (.sl true [.sl true [.b, .sl false [.i .u8]], .i .i64, .b]), .v (.i .i64), .ow (.sl true [.i .i64, .i .i64, .i .i64]), .v (.b), .v (.i .i64)], .v (.i .i64)], [.v (.i .i64)]⟩
noncomputable def fi12 : Fi := ⟨Tryz.f12, [], false, [.ag [.ow (.sl true [.i .i64, .s, .b, .i .i64, .sl true [.i .i64, .i .i64, .i .i64, .sl false [.i .u8], .sl true [.s, .i .i64], .sl true [.s, .s]], .i .i64]), .v (.i .i64), .ow (.sl true [.i .i64, .s, .b, .i .i64, .sl true [.i .i64, .i .i64, .i .i64, .sl false [.i .u8], .sl true [.s, .i .i64], .sl true [.s, .s]], .i .i64]), .v (.i .i64), .v (.i .i64), .ow (.sl true [.i .i64, .s, .b, .i .i64, .i .i64]), .ow (.sl true [.i .i64, .sl true [.i .i64, .i .i64]]), .v (.i .i64), .v (.i .i64), .ow (.sl true [.sl true [.b, .sl false [.i .u8]], .i .i64, .b]), .v (.i .i64), .ow (.sl true [.i .i64, .i .i64, .i .i64]), .v (.b), .v (.i .i64)], .v (.i .i64)], [.v (.i .i64)]⟩
def x191_2_0 : List (Ex × List Nat × CSt) := [(.ret, [4], ⟨[.i .i64 0], [.dead, .dead]⟩), ((.ex 0), [1], ⟨[.i .i64 0], [.dead, .dead]⟩)]
noncomputable def fi191 : Fi := ⟨Tryz.f191, [⟨2, [0, 1, 5], [], [(⟨[.ro 0 false [.i .u8] [], .i .i64 0, .i .i64 0], [.dead, .dead]⟩, x191_2_0)]⟩], false, [.ro (.sl false [.i .u8]), .v (.i .i64)], [.v (.i .i64)]⟩
def x192_2_0 : List (Ex × List Nat × CSt) := [(.ret, [4], ⟨[.i .i64 0], [.dead, .dead]⟩), ((.ex 0), [1], ⟨[.i .i64 0], [.dead, .dead]⟩)]
noncomputable def fi192 : Fi := ⟨Tryz.f192, [⟨2, [0, 1, 5], [], [(⟨[.ro 0 true [.s, .i .i64] [], .i .i64 0, .i .i64 0], [.dead, .dead]⟩, x192_2_0)]⟩], false, [.ro (.sl true [.s, .i .i64]), .v (.i .i64)], [.v (.i .i64)]⟩
def x193_2_0 : List (Ex × List Nat × CSt) := [(.ret, [4], ⟨[.i .i64 0], [.dead, .dead]⟩), ((.ex 0), [1], ⟨[.i .i64 0], [.dead, .dead]⟩)]
noncomputable def fi193 : Fi := ⟨Tryz.f193, [⟨2, [0, 1, 5], [], [(⟨[.ro 0 true [.s, .s] [], .i .i64 0, .i .i64 0], [.dead, .dead]⟩, x193_2_0)]⟩], false, [.ro (.sl true [.s, .s]), .v (.i .i64)], [.v (.i .i64)]⟩
def x138_2_0 : List (Ex × List Nat × CSt) := [(.ret, [4], ⟨[.i .i64 0], [.dead, .dead]⟩), ((.ex 0), [1], ⟨[.i .i64 0], [.dead, .dead]⟩)]
noncomputable def fi138 : Fi := ⟨Tryz.f138, [⟨2, [0, 1, 5], [], [(⟨[.ro 0 true [.i .i64, .i .i64, .i .i64, .sl false [.i .u8], .sl true [.s, .i .i64], .sl true [.s, .s]] [], .i .i64 0, .i .i64 0], [.dead, .dead]⟩, x138_2_0)]⟩], false, [.ro (.sl true [.i .i64, .i .i64, .i .i64, .sl false [.i .u8], .sl true [.s, .i .i64], .sl true [.s, .s]]), .v (.i .i64)], [.v (.i .i64)]⟩
def x79_2_0 : List (Ex × List Nat × CSt) := [(.ret, [4], ⟨[.i .i64 0], [.dead, .dead]⟩), ((.ex 0), [1], ⟨[.i .i64 0], [.dead, .dead]⟩)]
noncomputable def fi79 : Fi := ⟨Tryz.f79, [⟨2, [0, 1, 5], [], [(⟨[.ro 0 true [.i .i64, .s, .b, .i .i64, .sl true [.i .i64, .i .i64, .i .i64, .sl false [.i .u8], .sl true [.s, .i .i64], .sl true [.s, .s]], .i .i64] [], .i .i64 0, .i .i64 0], [.dead, .dead]⟩, x79_2_0)]⟩], false, [.ro (.sl true [.i .i64, .s, .b, .i .i64, .sl true [.i .i64, .i .i64, .i .i64, .sl false [.i .u8], .sl true [.s, .i .i64], .sl true [.s, .s]], .i .i64]), .v (.i .i64)], [.v (.i .i64)]⟩
noncomputable def fi37 : Fi := ⟨Tryz.f37, [], false, [.ag [.ro (.sl true [.i .i64, .s, .b, .i .i64, .sl true [.i .i64, .i .i64, .i .i64, .sl false [.i .u8], .sl true [.s, .i .i64], .sl true [.s, .s]], .i .i64]), .v (.i .i64)], .v (.i .i64)], [.v (.i .i64)]⟩
def x139_2_0 : List (Ex × List Nat × CSt) := [(.ret, [4], ⟨[.i .i64 0], [.dead, .dead]⟩), ((.ex 0), [1], ⟨[.i .i64 0], [.dead, .dead]⟩)]
noncomputable def fi139 : Fi := ⟨Tryz.f139, [⟨2, [0, 1, 5], [], [(⟨[.ro 0 true [.i .i64, .s, .b, .i .i64, .i .i64] [], .i .i64 0, .i .i64 0], [.dead, .dead]⟩, x139_2_0)]⟩], false, [.ro (.sl true [.i .i64, .s, .b, .i .i64, .i .i64]), .v (.i .i64)], [.v (.i .i64)]⟩
noncomputable def fi80 : Fi := ⟨Tryz.f80, [], false, [.ag [.v (.i .i64), .ro (.sl true [.i .i64, .s, .b, .i .i64, .i .i64])], .v (.i .i64)], [.v (.i .i64)]⟩
def x140_2_0 : List (Ex × List Nat × CSt) := [(.ret, [4], ⟨[.i .i64 0], [.dead, .dead]⟩), ((.ex 0), [1], ⟨[.i .i64 0], [.dead, .dead]⟩)]
noncomputable def fi140 : Fi := ⟨Tryz.f140, [⟨2, [0, 1, 5], [], [(⟨[.ro 0 true [.i .i64, .i .i64] [], .i .i64 0, .i .i64 0], [.dead, .dead]⟩, x140_2_0)]⟩], false, [.ro (.sl true [.i .i64, .i .i64]), .v (.i .i64)], [.v (.i .i64)]⟩
def x81_2_0 : List (Ex × List Nat × CSt) := [(.ret, [4], ⟨[.i .i64 0], [.dead, .dead]⟩), ((.ex 0), [1], ⟨[.i .i64 0], [.dead, .dead]⟩)]
noncomputable def fi81 : Fi := ⟨Tryz.f81, [⟨2, [0, 1, 5], [], [(⟨[.ro 0 true [.i .i64, .sl true [.i .i64, .i .i64]] [], .i .i64 0, .i .i64 0], [.dead, .dead]⟩, x81_2_0)]⟩], false, [.ro (.sl true [.i .i64, .sl true [.i .i64, .i .i64]]), .v (.i .i64)], [.v (.i .i64)]⟩
noncomputable def fi38 : Fi := ⟨Tryz.f38, [], false, [.ag [.ro (.sl true [.i .i64, .s, .b, .i .i64, .sl true [.i .i64, .i .i64, .i .i64, .sl false [.i .u8], .sl true [.s, .i .i64], .sl true [.s, .s]], .i .i64]), .v (.i .i64), .v (.i .i64), .ro (.sl true [.i .i64, .s, .b, .i .i64, .i .i64]), .ro (.sl true [.i .i64, .sl true [.i .i64, .i .i64]]), .v (.i .i64), .v (.i .i64)], .v (.i .i64)], [.v (.i .i64)]⟩
def x219_2_0 : List (Ex × List Nat × CSt) := [(.ret, [4], ⟨[.i .i64 0], [.dead, .dead]⟩), ((.ex 0), [1], ⟨[.i .i64 0], [.dead, .dead]⟩)]
noncomputable def fi219 : Fi := ⟨Tryz.f219, [⟨2, [0, 1, 5], [], [(⟨[.ro 0 true [.b, .sl false [.i .u8]] [], .i .i64 0, .i .i64 0], [.dead, .dead]⟩, x219_2_0)]⟩], false, [.ro (.sl true [.b, .sl false [.i .u8]]), .v (.i .i64)], [.v (.i .i64)]⟩
def x194_2_0 : List (Ex × List Nat × CSt) := [(.ret, [4], ⟨[.i .i64 0], [.dead, .dead]⟩), ((.ex 0), [1], ⟨[.i .i64 0], [.dead, .dead]⟩)]
noncomputable def fi194 : Fi := ⟨Tryz.f194, [⟨2, [0, 1, 5], [], [(⟨[.ro 0 true [.sl true [.b, .sl false [.i .u8]], .i .i64, .b] [], .i .i64 0, .i .i64 0], [.dead, .dead]⟩, x194_2_0)]⟩], false, [.ro (.sl true [.sl true [.b, .sl false [.i .u8]], .i .i64, .b]), .v (.i .i64)], [.v (.i .i64)]⟩
noncomputable def fi141 : Fi := ⟨Tryz.f141, [], false, [.ag [.ro (.sl true [.sl true [.b, .sl false [.i .u8]], .i .i64, .b])], .v (.i .i64)], [.v (.i .i64)]⟩
def x142_2_0 : List (Ex × List Nat × CSt) := [(.ret, [4], ⟨[.i .i64 0], [.dead, .dead]⟩), ((.ex 0), [1], ⟨[.i .i64 0], [.dead, .dead]⟩)]
noncomputable def fi142 : Fi := ⟨Tryz.f142, [⟨2, [0, 1, 5], [], [(⟨[.ro 0 true [.i .i64, .i .i64, .i .i64] [], .i .i64 0, .i .i64 0], [.dead, .dead]⟩, x142_2_0)]⟩], false, [.ro (.sl true [.i .i64, .i .i64, .i .i64]), .v (.i .i64)], [.v (.i .i64)]⟩
noncomputable def fi82 : Fi := ⟨Tryz.f82, [], false, [.ag [.ro (.sl true [.sl true [.b, .sl false [.i .u8]], .i .i64, .b]), .v (.i .i64), .ro (.sl true [.i .i64, .i .i64, .i .i64]), .v (.b)], .v (.i .i64)], [.v (.i .i64)]⟩
noncomputable def fi39 : Fi := ⟨Tryz.f39, [], false, [.ag [.ro (.sl true [.sl true [.b, .sl false [.i .u8]], .i .i64, .b]), .v (.i .i64), .ro (.sl true [.i .i64, .i .i64, .i .i64]), .v (.b), .v (.i .i64)], .v (.i .i64)], [.v (.i .i64)]⟩
noncomputable def fi13 : Fi := ⟨Tryz.f13, [], false, [.ag [.ro (.sl true [.i .i64, .s, .b, .i .i64, .sl true [.i .i64, .i .i64, .i .i64, .sl false [.i .u8], .sl true [.s, .i .i64], .sl true [.s, .s]], .i .i64]), .v (.i .i64), .ro (.sl true [.i .i64, .s, .b, .i .i64, .sl true [.i .i64, .i .i64, .i .i64, .sl false [.i .u8], .sl true [.s, .i .i64], .sl true [.s, .s]], .i .i64]), .v (.i .i64), .v (.i .i64), .ro (.sl true [.i .i64, .s, .b, .i .i64, .i .i64]), .ro (.sl true [.i .i64, .sl true [.i .i64, .i .i64]]), .v (.i .i64), .v (.i .i64), .ro (.sl true [.sl true [.b, .sl false [.i .u8]], .i .i64, .b]), .v (.i .i64), .ro (.sl true [.i .i64, .i .i64, .i .i64]), .v (.b), .v (.i .i64)], .v (.i .i64)], [.v (.i .i64)]⟩
noncomputable def fi3 : Fi := ⟨Tryz.f3, [], false, [.v (.i .i64), .ro (.sl true [.i .i64, .i .i64, .i .i64])], [.v (.b)]⟩
noncomputable def fiTab : List (Nat × Fi) := [(5, fi5), (27, fi27), (7, fi7), (23, fi23), (24, fi24), (109, fi109), (64, fi64), (167, fi167), (110, fi110), (111, fi111), (65, fi65), (25, fi25), (66, fi66), (239, fi239), (209, fi209), (240, fi240), (210, fi210), (211, fi211), (212, fi212), (172, fi172), (116, fi116), (67, fi67), (173, fi173), (117, fi117), (68, fi68), (26, fi26), (6, fi6), (21, fi21), (28, fi28), (58, fi58), (40, fi40), (41, fi41), (83, fi83), (42, fi42), (15, fi15), (22, fi22), (123, fi123), (95, fi95), (54, fi54), (144, fi144), (157, fi157), (99, fi99), (195, fi195), (91, fi91), (148, fi148), (198, fi198), (150, fi150), (152, fi152), (49, fi49), (145, fi145), (85, fi85), (44, fi44), (69, fi69), (55, fi55), (56, fi56), (20, fi20), (124, fi124), (70, fi70), (29, fi29), (8, fi8), (252, fi252), (257, fi257), (253, fi253), (258, fi258), (254, fi254), (242, fi242), (215, fi215), (183, fi183), (129, fi129), (71, fi71), (30, fi30), (184, fi184), (130, fi130), (72, fi72), (216, fi216), (185, fi185), (131, fi131), (73, fi73), (31, fi31), (255, fi255), (243, fi243), (217, fi217), (186, fi186), (132, fi132), (33, fi33), (10, fi10), (74, fi74), (32, fi32), (9, fi9), (11, fi11), (133, fi133), (187, fi187), (188, fi188), (189, fi189), (134, fi134), (75, fi75), (34, fi34), (135, fi135), (76, fi76), (136, fi136), (77, fi77), (35, fi35), (218, fi218), (190, fi190), (137, fi137), (78, fi78), (36, fi36), (12, fi12), (191, fi191), (192, fi192), (193, fi193), (138, fi138), (79, fi79), (37, fi37), (139, fi139), (80, fi80), (140, fi140), (81, fi81), (38, fi38), (219, fi219), (194, fi194), (141, fi141), (142, fi142), (82, fi82), (39, fi39), (13, fi13), (3, fi3)]
def X : Nat → Option (List T → Option (List T)) := lookN [(41, cloneF), (54, cloneF)]
noncomputable def env : Env := ⟨lookN fiTab, lookN tyTab⟩
def f5_t (c : Orc) (lf : Nat) (l0 : List T) (n1 : Int) : Option (List T) :=
 bif iLt (IntKind.wrap .i64 (n1 - (l0.length : Int))) 0 then
  some [T.i .i64 (-1)]
 else
  some [T.i .i64 (IntKind.wrap .i64 (n1 - (l0.length : Int)))]
def f5 (c : Orc) (lf : Nat) (l0 : List T) (n1 : Int) : Option (List T) := f5_t c lf l0 n1
theorem f5_eq (c : Orc) (lf : Nat) (l0 : List T) (n1 : Int) : funK c env lf 6 fi5 [.sl l0, .i .i64 n1] = f5 c lf l0 n1 := by kernel_rfl
def f27_t (c : Orc) (lf : Nat) (n0_0 n0_1 n0_2 : Int) : Option (List T) :=
 some [T.st [T.i .i64 n0_0, T.i .i64 n0_1, T.i .i64 n0_2]]
def f27 (c : Orc) (lf : Nat) (n0_0 n0_1 n0_2 : Int) : Option (List T) := f27_t c lf n0_0 n0_1 n0_2
theorem f27_eq (c : Orc) (lf : Nat) (n0_0 n0_1 n0_2 : Int) : funK c env lf 6 fi27 [.st [.i .i64 n0_0, .i .i64 n0_1, .i .i64 n0_2]] = f27 c lf n0_0 n0_1 n0_2 := by kernel_rfl
def f7_0_s (c : Orc) (lf : Nat) (l0 : List T) (L : Int → List T → Option (List T)) (x7 : Int) (x8 : List T) : Option (List T) :=
 bif iLt x7 (l0.length : Int) then
  bif inR x7 l0.length then
  (c 27 [T.st [T.i .i64 (asI (T.cell (l0.getD x7.toNat T.u) 0)), T.i .i64 (asI (T.cell (l0.getD x7.toNat T.u) 1)), T.i .i64 (asI (T.cell (l0.getD x7.toNat T.u) 2))]]).bind fun r9 =>
  bif inR x7 x8.length then
  L (IntKind.wrap .i64 (x7 + 1)) (x8.set x7.toNat (T.st [T.i .i64 (asI (T.cell (nth r9 0) 0)), T.i .i64 (asI (T.cell (nth r9 0) 1)), T.i .i64 (asI (T.cell (nth r9 0) 2))]))
  else none
  else none
 else
  some [T.i .i64 0, T.sl x8]
def f7_0_c (l0 : List T) (x7 : Int) (x8 : List T) : CSt := ⟨[.ro 0 true [.i .i64, .i .i64, .i .i64] l0, .rf 1 [] 0 none, .i .i64 x7], [.dead, .row true [.i .i64, .i .i64, .i .i64] x8 0 false]⟩
theorem f7_0_round (c : Orc) (lf : Nat) (l0 : List T) (L : CSt → Option (List T)) (x7 : Int) (x8 : List T) :
 roundK c env lf 6 fi7 1 3 [] [0, 3, 4] (x7_3_0) L (f7_0_c l0 x7 x8) = f7_0_s c lf l0 (fun x7 x8 => L (f7_0_c l0 x7 x8)) x7 x8 := by kernel_rfl
def f7_0 (c : Orc) (lf : Nat) (l0 : List T) : Nat → Int → List T → Option (List T)
 | 0 => fun _ _ => none
 | n + 1 => fun x7 x8 => f7_0_s c lf l0 (f7_0 c lf l0 n) x7 x8
theorem f7_0_eq (c : Orc) (lf : Nat) (l0 : List T) (n : Nat) (x7 : Int) (x8 : List T) :
 lpK c env lf 6 fi7 1 3 [] [0, 3, 4] (x7_3_0) n (f7_0_c l0 x7 x8) = f7_0 c lf l0 n x7 x8 := by
 induction n generalizing x7 x8 with
 | zero => rfl
 | succ n ih =>
  refine (f7_0_round c lf l0 _ x7 x8).trans ?_
  have e : (fun x7 x8 => lpK c env lf 6 fi7 1 3 [] [0, 3, 4] (x7_3_0) n (f7_0_c l0 x7 x8)) = f7_0 c lf l0 n := by funext x7 x8; exact ih x7 x8
  show f7_0_s c lf l0 (fun x7 x8 => lpK c env lf 6 fi7 1 3 [] [0, 3, 4] (x7_3_0) n (f7_0_c l0 x7 x8)) x7 x8 = _
  rw [e]; rfl
def f7_t (c : Orc) (lf : Nat) (lp0 : List T → Int → List T → Option (List T)) (l0 : List T) : Option (List T) :=
 bif iLe 0 (l0.length : Int) && iLe (l0.length : Int) (LIM : Int) && ((l0.length : Int) == (l0.length : Int)) then
 (lp0 l0 0 (List.replicate (l0.length : Int).toNat (T.st [T.i .i64 0, T.i .i64 0, T.i .i64 0]))).bind fun r10 =>
 some [T.sl (asL (nth r10 1))]
 else none
def f7 (c : Orc) (lf : Nat) (l0 : List T) : Option (List T) := f7_t c lf (fun (l0 : List T) (x7 : Int) (x8 : List T) => f7_0 c lf l0 lf x7 x8) l0
theorem f7_raw (c : Orc) (lf : Nat) (l0 : List T) : funK c env lf 6 fi7 [.sl l0] = f7_t c lf (fun (l0 : List T) (x7 : Int) (x8 : List T) => lpK c env lf 6 fi7 1 3 [] [0, 3, 4] (x7_3_0) lf (f7_0_c l0 x7 x8)) l0 := by kernel_rfl
theorem f7_eq (c : Orc) (lf : Nat) (l0 : List T) : funK c env lf 6 fi7 [.sl l0] = f7 c lf l0 := by
 refine (f7_raw c lf l0).trans ?_
 have e0 : (fun (l0 : List T) (x7 : Int) (x8 : List T) => lpK c env lf 6 fi7 1 3 [] [0, 3, 4] (x7_3_0) lf (f7_0_c l0 x7 x8)) = (fun (l0 : List T) (x7 : Int) (x8 : List T) => f7_0 c lf l0 lf x7 x8) := by funext l0 x7 x8; exact f7_0_eq c lf l0 lf x7 x8
 rw [e0]; rfl
def f23_t (c : Orc) (lf : Nat) : Option (List T) :=
 some [T.st [T.sl [], T.i .i64 1]]
def f23 (c : Orc) (lf : Nat) : Option (List T) := f23_t c lf
theorem f23_eq (c : Orc) (lf : Nat) : funK c env lf 6 fi23 [] = f23 c lf := by kernel_rfl
def f24_t (c : Orc) (lf : Nat) : Option (List T) :=
 (c 23 []).bind fun r11 =>
 some [T.st [T.sl (asL (T.cell (nth r11 0) 0)), T.i .i64 (asI (T.cell (nth r11 0) 1)), T.i .i64 1, T.sl [], T.sl [], T.i .i64 (-1), T.i .i64 (-1)]]
def f24 (c : Orc) (lf : Nat) : Option (List T) := f24_t c lf
theorem f24_eq (c : Orc) (lf : Nat) : funK c env lf 6 fi24 [] = f24 c lf := by kernel_rfl
def f109_t (c : Orc) (lf : Nat) (n0 n1 n2 : Int) : Option (List T) :=
 bif iLe n1 n0 then
  some [T.b (iLe n0 n2)]
 else
  some [T.b false]
def f109 (c : Orc) (lf : Nat) (n0 n1 n2 : Int) : Option (List T) := f109_t c lf n0 n1 n2
theorem f109_eq (c : Orc) (lf : Nat) (n0 n1 n2 : Int) : funK c env lf 6 fi109 [.i .i64 n0, .i .i64 n1, .i .i64 n2] = f109 c lf n0 n1 n2 := by kernel_rfl
def f64_0_s (c : Orc) (lf : Nat) (n0 : Int) (L : Int → List T → Option (List T)) (x18 : Int) (x19 : List T) : Option (List T) :=
 bif iLt x18 n0 then
  (c 109 [T.i .i64 n0, T.i .i64 3, T.i .i64 24]).bind fun r20 =>
  bif asB (nth r20 0) then
   bif nLe (x19.length + ([T.st [T.sl ([T.st [T.b false, T.sl []], T.st [T.b false, T.sl []], T.st [T.b false, T.sl []], T.st [T.b false, T.sl []], T.st [T.b false, T.sl []], T.st [T.b false, T.sl []], T.st [T.b false, T.sl []], T.st [T.b false, T.sl []]] : List T), T.i .i64 0, T.b false]] : List T).length) LIM then
   L (IntKind.wrap .i64 (x18 + 1)) (x19 ++ ([T.st [T.sl ([T.st [T.b false, T.sl []], T.st [T.b false, T.sl []], T.st [T.b false, T.sl []], T.st [T.b false, T.sl []], T.st [T.b false, T.sl []], T.st [T.b false, T.sl []], T.st [T.b false, T.sl []], T.st [T.b false, T.sl []]] : List T), T.i .i64 0, T.b false]] : List T))
   else none
  else
   some [T.i .i64 0, T.sl ([] : List T), T.sl x19]
 else
  some [T.i .i64 0, T.sl ([] : List T), T.sl x19]
def f64_0_c (n0 x18 : Int) (x19 : List T) : CSt := ⟨[.i .i64 n0, .bp 1 0, .bp 3 0, .i .i64 x18], [.dead, .box [.rf 2 [] 0 none], .row true [.sl true [.b, .sl false [.i .u8]], .i .i64, .b] ([] : List T) 0 false, .box [.rf 4 [] 0 none], .row true [.sl true [.b, .sl false [.i .u8]], .i .i64, .b] x19 0 false]⟩
theorem f64_0_round (c : Orc) (lf : Nat) (n0 : Int) (L : CSt → Option (List T)) (x18 : Int) (x19 : List T) :
 roundK c env lf 6 fi64 1 3 [] [0, 2, 3, 4] (x64_3_0) L (f64_0_c n0 x18 x19) = f64_0_s c lf n0 (fun x18 x19 => L (f64_0_c n0 x18 x19)) x18 x19 := by kernel_rfl
def f64_0 (c : Orc) (lf : Nat) (n0 : Int) : Nat → Int → List T → Option (List T)
 | 0 => fun _ _ => none
 | n + 1 => fun x18 x19 => f64_0_s c lf n0 (f64_0 c lf n0 n) x18 x19
theorem f64_0_u (c : Orc) (lf : Nat) (n0 : Int) (n : Nat) (x18 : Int) (x19 : List T) : f64_0 c lf n0 (n + 1) x18 x19 = f64_0_s c lf n0 (f64_0 c lf n0 n) x18 x19 := rfl
theorem f64_0_eq (c : Orc) (lf : Nat) (n0 : Int) (n : Nat) (x18 : Int) (x19 : List T) :
 lpK c env lf 6 fi64 1 3 [] [0, 2, 3, 4] (x64_3_0) n (f64_0_c n0 x18 x19) = f64_0 c lf n0 n x18 x19 := by
 induction n generalizing x18 x19 with
 | zero => rfl
 | succ n ih =>
  refine (f64_0_round c lf n0 _ x18 x19).trans ?_
  have e : (fun x18 x19 => lpK c env lf 6 fi64 1 3 [] [0, 2, 3, 4] (x64_3_0) n (f64_0_c n0 x18 x19)) = f64_0 c lf n0 n := by funext x18 x19; exact ih x18 x19
  show f64_0_s c lf n0 (fun x18 x19 => lpK c env lf 6 fi64 1 3 [] [0, 2, 3, 4] (x64_3_0) n (f64_0_c n0 x18 x19)) x18 x19 = _
  rw [e]; rfl
def f64_t (c : Orc) (lf : Nat) (lp0 : Int → Int → List T → Option (List T)) (n0 : Int) : Option (List T) :=
 (lp0 n0 0 ([] : List T)).bind fun r21 =>
 some [T.st [T.sl (asL (nth r21 2))]]
def f64 (c : Orc) (lf : Nat) (n0 : Int) : Option (List T) := f64_t c lf (fun (n0 x18 : Int) (x19 : List T) => f64_0 c lf n0 lf x18 x19) n0
theorem f64_raw (c : Orc) (lf : Nat) (n0 : Int) : funK c env lf 6 fi64 [.i .i64 n0] = f64_t c lf (fun (n0 x18 : Int) (x19 : List T) => lpK c env lf 6 fi64 1 3 [] [0, 2, 3, 4] (x64_3_0) lf (f64_0_c n0 x18 x19)) n0 := by kernel_rfl
theorem f64_eq (c : Orc) (lf : Nat) (n0 : Int) : funK c env lf 6 fi64 [.i .i64 n0] = f64 c lf n0 := by
 refine (f64_raw c lf n0).trans ?_
 have e0 : (fun (n0 x18 : Int) (x19 : List T) => lpK c env lf 6 fi64 1 3 [] [0, 2, 3, 4] (x64_3_0) lf (f64_0_c n0 x18 x19)) = (fun (n0 x18 : Int) (x19 : List T) => f64_0 c lf n0 lf x18 x19) := by funext n0 x18 x19; exact f64_0_eq c lf n0 lf x18 x19
 rw [e0]; rfl
def f167_0_s (c : Orc) (lf : Nat) (b0_2 : Bool) (l0_0 : List T) (n0_1 : Int) (L : Int → Option (List T)) (x26 : Int) : Option (List T) :=
 bif iLt x26 (l0_0.length : Int) then
  bif inR x26 l0_0.length then
  bif iLt 400 ((asL (T.cell (l0_0.getD x26.toNat T.u) 1)).length : Int) then
   some [T.i .i64 0, T.b false]
  else
   bif !(asB (T.cell (l0_0.getD x26.toNat T.u) 0)) then
    bif iLt 0 ((asL (T.cell (l0_0.getD x26.toNat T.u) 1)).length : Int) then
     some [T.i .i64 0, T.b false]
    else
     bif iLt 0 x26 then
      bif asB (T.cell (l0_0.getD x26.toNat T.u) 0) then
       bif inR (IntKind.wrap .i64 (x26 - 1)) l0_0.length then
       bif !(asB (T.cell (l0_0.getD ((IntKind.wrap .i64 (x26 - 1)).toNat) T.u) 0)) then
        some [T.i .i64 0, T.b false]
       else
        L (IntKind.wrap .i64 (x26 + 1))
       else none
      else
       L (IntKind.wrap .i64 (x26 + 1))
     else
      L (IntKind.wrap .i64 (x26 + 1))
   else
    bif iLt 0 x26 then
     bif asB (T.cell (l0_0.getD x26.toNat T.u) 0) then
      bif inR (IntKind.wrap .i64 (x26 - 1)) l0_0.length then
      bif !(asB (T.cell (l0_0.getD ((IntKind.wrap .i64 (x26 - 1)).toNat) T.u) 0)) then
       some [T.i .i64 0, T.b false]
      else
       L (IntKind.wrap .i64 (x26 + 1))
      else none
     else
      L (IntKind.wrap .i64 (x26 + 1))
    else
     L (IntKind.wrap .i64 (x26 + 1))
  else none
 else
  some [T.i .i64 1]
def f167_0_c (b0_2 : Bool) (l0_0 : List T) (n0_1 x26 : Int) : CSt := ⟨[.bp 3 0, .i .i64 x26], [.dead, .dead, .dead, .box [.ro 0 true [.b, .sl false [.i .u8]] l0_0, .i .i64 n0_1, .b b0_2]]⟩
theorem f167_0_round (c : Orc) (lf : Nat) (b0_2 : Bool) (l0_0 : List T) (n0_1 : Int) (L : CSt → Option (List T)) (x26 : Int) :
 roundK c env lf 6 fi167 3 4 [] [1, 3] (x167_4_0) L (f167_0_c b0_2 l0_0 n0_1 x26) = f167_0_s c lf b0_2 l0_0 n0_1 (fun x26 => L (f167_0_c b0_2 l0_0 n0_1 x26)) x26 := by kernel_rfl
def f167_0 (c : Orc) (lf : Nat) (b0_2 : Bool) (l0_0 : List T) (n0_1 : Int) : Nat → Int → Option (List T)
 | 0 => fun _ => none
 | n + 1 => fun x26 => f167_0_s c lf b0_2 l0_0 n0_1 (f167_0 c lf b0_2 l0_0 n0_1 n) x26
theorem f167_0_u (c : Orc) (lf : Nat) (b0_2 : Bool) (l0_0 : List T) (n0_1 : Int) (n : Nat) (x26 : Int) : f167_0 c lf b0_2 l0_0 n0_1 (n + 1) x26 = f167_0_s c lf b0_2 l0_0 n0_1 (f167_0 c lf b0_2 l0_0 n0_1 n) x26 := rfl
theorem f167_0_eq (c : Orc) (lf : Nat) (b0_2 : Bool) (l0_0 : List T) (n0_1 : Int) (n : Nat) (x26 : Int) :
 lpK c env lf 6 fi167 3 4 [] [1, 3] (x167_4_0) n (f167_0_c b0_2 l0_0 n0_1 x26) = f167_0 c lf b0_2 l0_0 n0_1 n x26 := by
 induction n generalizing x26 with
 | zero => rfl
 | succ n ih =>
  refine (f167_0_round c lf b0_2 l0_0 n0_1 _ x26).trans ?_
  have e : (fun x26 => lpK c env lf 6 fi167 3 4 [] [1, 3] (x167_4_0) n (f167_0_c b0_2 l0_0 n0_1 x26)) = f167_0 c lf b0_2 l0_0 n0_1 n := by funext x26; exact ih x26
  show f167_0_s c lf b0_2 l0_0 n0_1 (fun x26 => lpK c env lf 6 fi167 3 4 [] [1, 3] (x167_4_0) n (f167_0_c b0_2 l0_0 n0_1 x26)) x26 = _
  rw [e]; rfl
def f167_t (c : Orc) (lf : Nat) (lp0 : Bool → List T → Int → Int → Option (List T)) (l0_0 : List T) (n0_1 : Int) (b0_2 : Bool) : Option (List T) :=
 bif (l0_0.length : Int) != 8 then
  some [T.b false]
 else
  (c 109 [T.i .i64 n0_1, T.i .i64 0, T.i .i64 100000]).bind fun r25 =>
  bif !(asB (nth r25 0)) then
   some [T.b false]
  else
   (lp0 b0_2 l0_0 n0_1 0).bind fun r27 =>
   bif asI (nth r27 0) == 0 then
    some [T.b (asB (nth r27 1))]
   else
    some [T.b true]
def f167 (c : Orc) (lf : Nat) (l0_0 : List T) (n0_1 : Int) (b0_2 : Bool) : Option (List T) := f167_t c lf (fun (b0_2 : Bool) (l0_0 : List T) (n0_1 x26 : Int) => f167_0 c lf b0_2 l0_0 n0_1 lf x26) l0_0 n0_1 b0_2
theorem f167_raw (c : Orc) (lf : Nat) (l0_0 : List T) (n0_1 : Int) (b0_2 : Bool) : funK c env lf 6 fi167 [.st [.sl l0_0, .i .i64 n0_1, .b b0_2]] = f167_t c lf (fun (b0_2 : Bool) (l0_0 : List T) (n0_1 x26 : Int) => lpK c env lf 6 fi167 3 4 [] [1, 3] (x167_4_0) lf (f167_0_c b0_2 l0_0 n0_1 x26)) l0_0 n0_1 b0_2 := by kernel_rfl
theorem f167_eq (c : Orc) (lf : Nat) (l0_0 : List T) (n0_1 : Int) (b0_2 : Bool) : funK c env lf 6 fi167 [.st [.sl l0_0, .i .i64 n0_1, .b b0_2]] = f167 c lf l0_0 n0_1 b0_2 := by
 refine (f167_raw c lf l0_0 n0_1 b0_2).trans ?_
 have e0 : (fun (b0_2 : Bool) (l0_0 : List T) (n0_1 x26 : Int) => lpK c env lf 6 fi167 3 4 [] [1, 3] (x167_4_0) lf (f167_0_c b0_2 l0_0 n0_1 x26)) = (fun (b0_2 : Bool) (l0_0 : List T) (n0_1 x26 : Int) => f167_0 c lf b0_2 l0_0 n0_1 lf x26) := by funext b0_2 l0_0 n0_1 x26; exact f167_0_eq c lf b0_2 l0_0 n0_1 lf x26
 rw [e0]; rfl
def f110_0_s (c : Orc) (lf : Nat) (l0_0 : List T) (L : Int → Option (List T)) (x34 : Int) : Option (List T) :=
 bif iLt x34 (l0_0.length : Int) then
  bif inR x34 l0_0.length then
  (c 167 [T.st [T.sl (asL (T.cell (l0_0.getD x34.toNat T.u) 0)), T.i .i64 (asI (T.cell (l0_0.getD x34.toNat T.u) 1)), T.b (asB (T.cell (l0_0.getD x34.toNat T.u) 2))]]).bind fun r35 =>
  bif !(asB (nth r35 0)) then
   some [T.i .i64 0, T.b false]
  else
   L (IntKind.wrap .i64 (x34 + 1))
  else none
 else
  some [T.i .i64 1, T.sl l0_0]
def f110_0_c (l0_0 : List T) (x34 : Int) : CSt := ⟨[.bp 1 0, .i .i64 x34], [.dead, .box [.ro 0 true [.sl true [.b, .sl false [.i .u8]], .i .i64, .b] l0_0]]⟩
theorem f110_0_round (c : Orc) (lf : Nat) (l0_0 : List T) (L : CSt → Option (List T)) (x34 : Int) :
 roundK c env lf 6 fi110 1 2 [] [1, 3] (x110_2_0) L (f110_0_c l0_0 x34) = f110_0_s c lf l0_0 (fun x34 => L (f110_0_c l0_0 x34)) x34 := by kernel_rfl
def f110_0 (c : Orc) (lf : Nat) (l0_0 : List T) : Nat → Int → Option (List T)
 | 0 => fun _ => none
 | n + 1 => fun x34 => f110_0_s c lf l0_0 (f110_0 c lf l0_0 n) x34
theorem f110_0_u (c : Orc) (lf : Nat) (l0_0 : List T) (n : Nat) (x34 : Int) : f110_0 c lf l0_0 (n + 1) x34 = f110_0_s c lf l0_0 (f110_0 c lf l0_0 n) x34 := rfl
theorem f110_0_eq (c : Orc) (lf : Nat) (l0_0 : List T) (n : Nat) (x34 : Int) :
 lpK c env lf 6 fi110 1 2 [] [1, 3] (x110_2_0) n (f110_0_c l0_0 x34) = f110_0 c lf l0_0 n x34 := by
 induction n generalizing x34 with
 | zero => rfl
 | succ n ih =>
  refine (f110_0_round c lf l0_0 _ x34).trans ?_
  have e : (fun x34 => lpK c env lf 6 fi110 1 2 [] [1, 3] (x110_2_0) n (f110_0_c l0_0 x34)) = f110_0 c lf l0_0 n := by funext x34; exact ih x34
  show f110_0_s c lf l0_0 (fun x34 => lpK c env lf 6 fi110 1 2 [] [1, 3] (x110_2_0) n (f110_0_c l0_0 x34)) x34 = _
  rw [e]; rfl
def f110_t (c : Orc) (lf : Nat) (lp0 : List T → Int → Option (List T)) (l0_0 : List T) : Option (List T) :=
 (lp0 l0_0 0).bind fun r36 =>
 bif asI (nth r36 0) == 0 then
  some [T.b (asB (nth r36 1))]
 else
  (c 109 [T.i .i64 ((asL (nth r36 1)).length : Int), T.i .i64 3, T.i .i64 24]).bind fun r37 =>
  some [T.b (asB (nth r37 0))]
def f110 (c : Orc) (lf : Nat) (l0_0 : List T) : Option (List T) := f110_t c lf (fun (l0_0 : List T) (x34 : Int) => f110_0 c lf l0_0 lf x34) l0_0
theorem f110_raw (c : Orc) (lf : Nat) (l0_0 : List T) : funK c env lf 6 fi110 [.st [.sl l0_0]] = f110_t c lf (fun (l0_0 : List T) (x34 : Int) => lpK c env lf 6 fi110 1 2 [] [1, 3] (x110_2_0) lf (f110_0_c l0_0 x34)) l0_0 := by kernel_rfl
theorem f110_eq (c : Orc) (lf : Nat) (l0_0 : List T) : funK c env lf 6 fi110 [.st [.sl l0_0]] = f110 c lf l0_0 := by
 refine (f110_raw c lf l0_0).trans ?_
 have e0 : (fun (l0_0 : List T) (x34 : Int) => lpK c env lf 6 fi110 1 2 [] [1, 3] (x110_2_0) lf (f110_0_c l0_0 x34)) = (fun (l0_0 : List T) (x34 : Int) => f110_0 c lf l0_0 lf x34) := by funext l0_0 x34; exact f110_0_eq c lf l0_0 lf x34
 rw [e0]; rfl
def f111_0_s (c : Orc) (lf : Nat) (l0 : List T) (L : Int → Option (List T)) (x49 : Int) : Option (List T) :=
 bif iLt x49 (l0.length : Int) then
  bif inR x49 l0.length then
  (c 109 [T.i .i64 (asI (T.cell (l0.getD x49.toNat T.u) 0)), T.i .i64 0, T.i .i64 100000]).bind fun r50 =>
  bif !(asB (nth r50 0)) then
   some [T.i .i64 0, T.b false]
  else
   bif inR x49 l0.length then
   (c 109 [T.i .i64 (asI (T.cell (l0.getD x49.toNat T.u) 1)), T.i .i64 1, T.i .i64 2]).bind fun r51 =>
   bif !(asB (nth r51 0)) then
    some [T.i .i64 0, T.b false]
   else
    bif inR x49 l0.length then
    (c 109 [T.i .i64 (asI (T.cell (l0.getD x49.toNat T.u) 2)), T.i .i64 0, T.i .i64 400]).bind fun r52 =>
    bif !(asB (nth r52 0)) then
     some [T.i .i64 0, T.b false]
    else
     bif iLt 0 x49 then
      bif inR (IntKind.wrap .i64 (x49 - 1)) l0.length then
      bif inR x49 l0.length then
      bif iLe (asI (T.cell (l0.getD x49.toNat T.u) 0)) (asI (T.cell (l0.getD ((IntKind.wrap .i64 (x49 - 1)).toNat) T.u) 0)) then
       some [T.i .i64 0, T.b false]
      else
       L (IntKind.wrap .i64 (x49 + 1))
      else none
      else none
     else
      L (IntKind.wrap .i64 (x49 + 1))
    else none
   else none
  else none
 else
  some [T.i .i64 1, T.sl l0]
def f111_0_c (l0 : List T) (x49 : Int) : CSt := ⟨[.ro 0 true [.i .i64, .i .i64, .i .i64] l0, .i .i64 x49], [.dead]⟩
theorem f111_0_round (c : Orc) (lf : Nat) (l0 : List T) (L : CSt → Option (List T)) (x49 : Int) :
 roundK c env lf 6 fi111 1 2 [] [0, 3] (x111_2_0) L (f111_0_c l0 x49) = f111_0_s c lf l0 (fun x49 => L (f111_0_c l0 x49)) x49 := by kernel_rfl
def f111_0 (c : Orc) (lf : Nat) (l0 : List T) : Nat → Int → Option (List T)
 | 0 => fun _ => none
 | n + 1 => fun x49 => f111_0_s c lf l0 (f111_0 c lf l0 n) x49
theorem f111_0_u (c : Orc) (lf : Nat) (l0 : List T) (n : Nat) (x49 : Int) : f111_0 c lf l0 (n + 1) x49 = f111_0_s c lf l0 (f111_0 c lf l0 n) x49 := rfl
theorem f111_0_eq (c : Orc) (lf : Nat) (l0 : List T) (n : Nat) (x49 : Int) :
 lpK c env lf 6 fi111 1 2 [] [0, 3] (x111_2_0) n (f111_0_c l0 x49) = f111_0 c lf l0 n x49 := by
 induction n generalizing x49 with
 | zero => rfl
 | succ n ih =>
  refine (f111_0_round c lf l0 _ x49).trans ?_
  have e : (fun x49 => lpK c env lf 6 fi111 1 2 [] [0, 3] (x111_2_0) n (f111_0_c l0 x49)) = f111_0 c lf l0 n := by funext x49; exact ih x49
  show f111_0_s c lf l0 (fun x49 => lpK c env lf 6 fi111 1 2 [] [0, 3] (x111_2_0) n (f111_0_c l0 x49)) x49 = _
  rw [e]; rfl
def f111_t (c : Orc) (lf : Nat) (lp0 : List T → Int → Option (List T)) (l0 : List T) : Option (List T) :=
 (lp0 l0 0).bind fun r53 =>
 bif asI (nth r53 0) == 0 then
  some [T.b (asB (nth r53 1))]
 else
  some [T.b (iLe ((asL (nth r53 1)).length : Int) 20)]
def f111 (c : Orc) (lf : Nat) (l0 : List T) : Option (List T) := f111_t c lf (fun (l0 : List T) (x49 : Int) => f111_0 c lf l0 lf x49) l0
theorem f111_raw (c : Orc) (lf : Nat) (l0 : List T) : funK c env lf 6 fi111 [.sl l0] = f111_t c lf (fun (l0 : List T) (x49 : Int) => lpK c env lf 6 fi111 1 2 [] [0, 3] (x111_2_0) lf (f111_0_c l0 x49)) l0 := by kernel_rfl
theorem f111_eq (c : Orc) (lf : Nat) (l0 : List T) : funK c env lf 6 fi111 [.sl l0] = f111 c lf l0 := by
 refine (f111_raw c lf l0).trans ?_
 have e0 : (fun (l0 : List T) (x49 : Int) => lpK c env lf 6 fi111 1 2 [] [0, 3] (x111_2_0) lf (f111_0_c l0 x49)) = (fun (l0 : List T) (x49 : Int) => f111_0 c lf l0 lf x49) := by funext l0 x49; exact f111_0_eq c lf l0 lf x49
 rw [e0]; rfl
def f65_t (c : Orc) (lf : Nat) (l0_0 : List T) (n0_1 : Int) (l0_2 : List T) (b0_3 : Bool) : Option (List T) :=
 (c 110 [T.st [T.sl l0_0]]).bind fun r54 =>
 bif asB (nth r54 0) then
  (c 109 [T.i .i64 n0_1, T.i .i64 0, T.i .i64 100000]).bind fun r55 =>
  bif asB (nth r55 0) then
   (c 111 [T.sl l0_2]).bind fun r56 =>
   some [T.b (asB (nth r56 0))]
  else
   some [T.b false]
 else
  some [T.b false]
def f65 (c : Orc) (lf : Nat) (l0_0 : List T) (n0_1 : Int) (l0_2 : List T) (b0_3 : Bool) : Option (List T) := f65_t c lf l0_0 n0_1 l0_2 b0_3
theorem f65_eq (c : Orc) (lf : Nat) (l0_0 : List T) (n0_1 : Int) (l0_2 : List T) (b0_3 : Bool) : funK c env lf 6 fi65 [.st [.sl l0_0, .i .i64 n0_1, .sl l0_2, .b b0_3]] = f65 c lf l0_0 n0_1 l0_2 b0_3 := by kernel_rfl
def f25_t (c : Orc) (lf : Nat) (n0 : Int) (l1 : List T) : Option (List T) :=
 (c 64 [T.i .i64 n0]).bind fun r57 =>
 bif nLe (([] : List T).length + l1.length) LIM then
 (c 65 [T.st [T.sl (asL (T.cell (nth r57 0) 0)), T.i .i64 0, T.sl (([] : List T) ++ l1), T.b false]]).bind fun r58 =>
 bif !(asB (nth r58 0)) then
  some [T.st [T.sl [], T.i .i64 0, T.sl [], T.b false]]
 else
  some [T.st [T.sl (asL (T.cell (nth r57 0) 0)), T.i .i64 0, T.sl (([] : List T) ++ l1), T.b false]]
 else none
def f25 (c : Orc) (lf : Nat) (n0 : Int) (l1 : List T) : Option (List T) := f25_t c lf n0 l1
theorem f25_eq (c : Orc) (lf : Nat) (n0 : Int) (l1 : List T) : funK c env lf 6 fi25 [.i .i64 n0, .sl l1] = f25 c lf n0 l1 := by kernel_rfl
def f66_0_s (c : Orc) (lf : Nat) (l0_0 : List T) (n0_1 : Int) (L : Unit → Option (List T)) : Option (List T) :=
 bif iLt 0 (l0_0.length : Int) then
  bif inR 0 l0_0.length then
  bif iLt (asI (T.cell (l0_0.getD 0 T.u) 0)) 1 then
   some [T.i .i64 0, T.b false]
  else
   bif iLe n0_1 (asI (T.cell (l0_0.getD 0 T.u) 0)) then
   some [T.i .i64 0, T.b false]
   else none
  else none
 else
  some [T.i .i64 1]
def f66_0_c (l0_0 : List T) (n0_1 : Int) : CSt := ⟨[.bp 2 0, .i .i64 0], [.dead, .dead, .box [.ro 0 true [.i .i64, .s, .b, .i .i64, .sl true [.i .i64, .i .i64, .i .i64, .sl false [.i .u8], .sl true [.s, .i .i64], .sl true [.s, .s]], .i .i64] l0_0, .i .i64 n0_1]]⟩
theorem f66_0_round (c : Orc) (lf : Nat) (l0_0 : List T) (n0_1 : Int) (L : CSt → Option (List T)) :
 roundK c env lf 6 fi66 2 4 [] [1, 3] (x66_4_0) L (f66_0_c l0_0 n0_1) = f66_0_s c lf l0_0 n0_1 (fun _ => L (f66_0_c l0_0 n0_1)) := by kernel_rfl
def f66_0 (c : Orc) (lf : Nat) (l0_0 : List T) (n0_1 : Int) : Nat → Unit → Option (List T)
 | 0 => fun _ => none
 | n + 1 => fun _ => f66_0_s c lf l0_0 n0_1 (f66_0 c lf l0_0 n0_1 n)
theorem f66_0_eq (c : Orc) (lf : Nat) (l0_0 : List T) (n0_1 : Int) (n : Nat) :
 lpK c env lf 6 fi66 2 4 [] [1, 3] (x66_4_0) n (f66_0_c l0_0 n0_1) = f66_0 c lf l0_0 n0_1 n () := by
 induction n with
 | zero => rfl
 | succ n ih =>
  refine (f66_0_round c lf l0_0 n0_1 _).trans ?_
  have e : (fun (_ : Unit) => lpK c env lf 6 fi66 2 4 [] [1, 3] (x66_4_0) n (f66_0_c l0_0 n0_1)) = f66_0 c lf l0_0 n0_1 n := by funext _; exact ih
  show f66_0_s c lf l0_0 n0_1 (fun _ => lpK c env lf 6 fi66 2 4 [] [1, 3] (x66_4_0) n (f66_0_c l0_0 n0_1)) = _
  rw [e]; rfl
def f66_t (c : Orc) (lf : Nat) (lp0 : List T → Int → Option (List T)) (l0_0 : List T) (n0_1 : Int) : Option (List T) :=
 bif iLt 6 (l0_0.length : Int) then
  some [T.b false]
 else
  (c 109 [T.i .i64 n0_1, T.i .i64 1, T.i .i64 99]).bind fun r61 =>
  bif !(asB (nth r61 0)) then
   some [T.b false]
  else
   (lp0 l0_0 n0_1).bind fun r62 =>
   bif asI (nth r62 0) == 0 then
    some [T.b (asB (nth r62 1))]
   else
    some [T.b true]
def f66 (c : Orc) (lf : Nat) (l0_0 : List T) (n0_1 : Int) : Option (List T) := f66_t c lf (fun (l0_0 : List T) (n0_1 : Int) => f66_0 c lf l0_0 n0_1 lf ()) l0_0 n0_1
theorem f66_raw (c : Orc) (lf : Nat) (l0_0 : List T) (n0_1 : Int) : funK c env lf 6 fi66 [.st [.sl l0_0, .i .i64 n0_1]] = f66_t c lf (fun (l0_0 : List T) (n0_1 : Int) => lpK c env lf 6 fi66 2 4 [] [1, 3] (x66_4_0) lf (f66_0_c l0_0 n0_1)) l0_0 n0_1 := by kernel_rfl
theorem f66_eq (c : Orc) (lf : Nat) (l0_0 : List T) (n0_1 : Int) : funK c env lf 6 fi66 [.st [.sl l0_0, .i .i64 n0_1]] = f66 c lf l0_0 n0_1 := by
 refine (f66_raw c lf l0_0 n0_1).trans ?_
 have e0 : (fun (l0_0 : List T) (n0_1 : Int) => lpK c env lf 6 fi66 2 4 [] [1, 3] (x66_4_0) lf (f66_0_c l0_0 n0_1)) = (fun (l0_0 : List T) (n0_1 : Int) => f66_0 c lf l0_0 n0_1 lf ()) := by funext l0_0 n0_1; exact f66_0_eq c lf l0_0 n0_1 lf
 rw [e0]; rfl
def f239_0_s (c : Orc) (lf : Nat) (l0 : List T) (n1 : Int) (L : Int → Int → Option (List T)) (x66 x67 : Int) : Option (List T) :=
 bif iLt x67 3 then
  bif iLe 0 n1 then
   bif iLt n1 (l0.length : Int) then
    bif iLt (IntKind.wrap .i64 (n1 + x67)) (l0.length : Int) then
     bif inR (IntKind.wrap .i64 (n1 + x67)) l0.length then
     bif iLe 0 (IntKind.wrap .u64 (IntKind.wrap .i64 (7 * x67))) then
     bif iLt 127 (IntKind.wrap .i64 (asI (l0.getD ((IntKind.wrap .i64 (n1 + x67)).toNat) T.u))) then
      L (intBits .or .i64 x66 (shiftI .shl .i64 (intBits .and .i64 (IntKind.wrap .i64 (asI (l0.getD ((IntKind.wrap .i64 (n1 + x67)).toNat) T.u))) 127) (IntKind.wrap .u64 (IntKind.wrap .i64 (7 * x67))))) (IntKind.wrap .i64 (x67 + 1))
     else
      bif iLt 0 x67 then
       bif (IntKind.wrap .i64 (asI (l0.getD ((IntKind.wrap .i64 (n1 + x67)).toNat) T.u))) == 0 then
        some [T.i .i64 0, T.i .i64 0, T.i .i64 0, T.b false]
       else
        bif iLt 1000000 (intBits .or .i64 x66 (shiftI .shl .i64 (intBits .and .i64 (IntKind.wrap .i64 (asI (l0.getD ((IntKind.wrap .i64 (n1 + x67)).toNat) T.u))) 127) (IntKind.wrap .u64 (IntKind.wrap .i64 (7 * x67))))) then
         some [T.i .i64 0, T.i .i64 0, T.i .i64 0, T.b false]
        else
         some [T.i .i64 0, T.i .i64 (intBits .or .i64 x66 (shiftI .shl .i64 (intBits .and .i64 (IntKind.wrap .i64 (asI (l0.getD ((IntKind.wrap .i64 (n1 + x67)).toNat) T.u))) 127) (IntKind.wrap .u64 (IntKind.wrap .i64 (7 * x67))))), T.i .i64 (IntKind.wrap .i64 ((IntKind.wrap .i64 (n1 + x67)) + 1)), T.b true]
      else
       bif iLt 1000000 (intBits .or .i64 x66 (shiftI .shl .i64 (intBits .and .i64 (IntKind.wrap .i64 (asI (l0.getD ((IntKind.wrap .i64 (n1 + x67)).toNat) T.u))) 127) (IntKind.wrap .u64 (IntKind.wrap .i64 (7 * x67))))) then
        some [T.i .i64 0, T.i .i64 0, T.i .i64 0, T.b false]
       else
        some [T.i .i64 0, T.i .i64 (intBits .or .i64 x66 (shiftI .shl .i64 (intBits .and .i64 (IntKind.wrap .i64 (asI (l0.getD ((IntKind.wrap .i64 (n1 + x67)).toNat) T.u))) 127) (IntKind.wrap .u64 (IntKind.wrap .i64 (7 * x67))))), T.i .i64 (IntKind.wrap .i64 ((IntKind.wrap .i64 (n1 + x67)) + 1)), T.b true]
     else none
     else none
    else
     some [T.i .i64 1]
   else
    some [T.i .i64 1]
  else
   some [T.i .i64 1]
 else
  some [T.i .i64 1]
def f239_0_c (l0 : List T) (n1 x66 x67 : Int) : CSt := ⟨[.ro 0 false [.i .u8] l0, .i .i64 n1, .i .i64 x66, .i .i64 x67], [.dead, .dead]⟩
theorem f239_0_round (c : Orc) (lf : Nat) (l0 : List T) (n1 : Int) (L : CSt → Option (List T)) (x66 x67 : Int) :
 roundK c env lf 6 fi239 2 3 [] [0, 1, 7, 8] (x239_3_0) L (f239_0_c l0 n1 x66 x67) = f239_0_s c lf l0 n1 (fun x66 x67 => L (f239_0_c l0 n1 x66 x67)) x66 x67 := by kernel_rfl
def f239_0 (c : Orc) (lf : Nat) (l0 : List T) (n1 : Int) : Nat → Int → Int → Option (List T)
 | 0 => fun _ _ => none
 | n + 1 => fun x66 x67 => f239_0_s c lf l0 n1 (f239_0 c lf l0 n1 n) x66 x67
theorem f239_0_u (c : Orc) (lf : Nat) (l0 : List T) (n1 : Int) (n : Nat) (x66 x67 : Int) : f239_0 c lf l0 n1 (n + 1) x66 x67 = f239_0_s c lf l0 n1 (f239_0 c lf l0 n1 n) x66 x67 := rfl
theorem f239_0_eq (c : Orc) (lf : Nat) (l0 : List T) (n1 : Int) (n : Nat) (x66 x67 : Int) :
 lpK c env lf 6 fi239 2 3 [] [0, 1, 7, 8] (x239_3_0) n (f239_0_c l0 n1 x66 x67) = f239_0 c lf l0 n1 n x66 x67 := by
 induction n generalizing x66 x67 with
 | zero => rfl
 | succ n ih =>
  refine (f239_0_round c lf l0 n1 _ x66 x67).trans ?_
  have e : (fun x66 x67 => lpK c env lf 6 fi239 2 3 [] [0, 1, 7, 8] (x239_3_0) n (f239_0_c l0 n1 x66 x67)) = f239_0 c lf l0 n1 n := by funext x66 x67; exact ih x66 x67
  show f239_0_s c lf l0 n1 (fun x66 x67 => lpK c env lf 6 fi239 2 3 [] [0, 1, 7, 8] (x239_3_0) n (f239_0_c l0 n1 x66 x67)) x66 x67 = _
  rw [e]; rfl
def f239_t (c : Orc) (lf : Nat) (lp0 : List T → Int → Int → Int → Option (List T)) (l0 : List T) (n1 : Int) : Option (List T) :=
 (lp0 l0 n1 0 0).bind fun r68 =>
 bif asI (nth r68 0) == 0 then
  some [T.i .i64 (asI (nth r68 1)), T.i .i64 (asI (nth r68 2)), T.b (asB (nth r68 3))]
 else
  some [T.i .i64 0, T.i .i64 0, T.b false]
def f239 (c : Orc) (lf : Nat) (l0 : List T) (n1 : Int) : Option (List T) := f239_t c lf (fun (l0 : List T) (n1 x66 x67 : Int) => f239_0 c lf l0 n1 lf x66 x67) l0 n1
theorem f239_raw (c : Orc) (lf : Nat) (l0 : List T) (n1 : Int) : funK c env lf 6 fi239 [.sl l0, .i .i64 n1] = f239_t c lf (fun (l0 : List T) (n1 x66 x67 : Int) => lpK c env lf 6 fi239 2 3 [] [0, 1, 7, 8] (x239_3_0) lf (f239_0_c l0 n1 x66 x67)) l0 n1 := by kernel_rfl
theorem f239_eq (c : Orc) (lf : Nat) (l0 : List T) (n1 : Int) : funK c env lf 6 fi239 [.sl l0, .i .i64 n1] = f239 c lf l0 n1 := by
 refine (f239_raw c lf l0 n1).trans ?_
 have e0 : (fun (l0 : List T) (n1 x66 x67 : Int) => lpK c env lf 6 fi239 2 3 [] [0, 1, 7, 8] (x239_3_0) lf (f239_0_c l0 n1 x66 x67)) = (fun (l0 : List T) (n1 x66 x67 : Int) => f239_0 c lf l0 n1 lf x66 x67) := by funext l0 n1 x66 x67; exact f239_0_eq c lf l0 n1 lf x66 x67
 rw [e0]; rfl
def f209_t (c : Orc) (lf : Nat) (l0_0 : List T) (n0_1 : Int) (b0_2 : Bool) : Option (List T) :=
 (c 239 [T.sl l0_0, T.i .i64 n0_1]).bind fun r69 =>
 bif b0_2 then
  some [T.i .i64 0, T.st [T.sl l0_0, T.i .i64 n0_1, T.b true]]
 else
  bif !(asB (nth r69 2)) then
   some [T.i .i64 0, T.st [T.sl l0_0, T.i .i64 n0_1, T.b true]]
  else
   some [T.i .i64 (asI (nth r69 0)), T.st [T.sl l0_0, T.i .i64 (asI (nth r69 1)), T.b b0_2]]
def f209 (c : Orc) (lf : Nat) (l0_0 : List T) (n0_1 : Int) (b0_2 : Bool) : Option (List T) := f209_t c lf l0_0 n0_1 b0_2
theorem f209_eq (c : Orc) (lf : Nat) (l0_0 : List T) (n0_1 : Int) (b0_2 : Bool) : funK c env lf 6 fi209 [.st [.sl l0_0, .i .i64 n0_1, .b b0_2]] = f209 c lf l0_0 n0_1 b0_2 := by kernel_rfl
def f240_t (c : Orc) (lf : Nat) (l0 : List T) (n1 : Int) : Option (List T) :=
 (c 239 [T.sl l0, T.i .i64 n1]).bind fun r70 =>
 bif !(asB (nth r70 2)) then
  some [T.s (⟨#[]⟩ : ByteArray), T.i .i64 0, T.b false]
 else
  bif iLt (IntKind.wrap .i64 ((l0.length : Int) - (asI (nth r70 1)))) (asI (nth r70 0)) then
   some [T.s (⟨#[]⟩ : ByteArray), T.i .i64 0, T.b false]
  else
   bif iLe 0 (asI (nth r70 1)) && iLe (asI (nth r70 1)) (IntKind.wrap .i64 ((asI (nth r70 1)) + (asI (nth r70 0)))) && iLe (IntKind.wrap .i64 ((asI (nth r70 1)) + (asI (nth r70 0)))) (l0.length : Int) then
   some [T.s (bytesOf ((l0.drop ((asI (nth r70 1)).toNat)).take (((IntKind.wrap .i64 ((asI (nth r70 1)) + (asI (nth r70 0)))).toNat) - ((asI (nth r70 1)).toNat)))), T.i .i64 (IntKind.wrap .i64 ((asI (nth r70 1)) + (asI (nth r70 0)))), T.b true]
   else none
def f240 (c : Orc) (lf : Nat) (l0 : List T) (n1 : Int) : Option (List T) := f240_t c lf l0 n1
theorem f240_eq (c : Orc) (lf : Nat) (l0 : List T) (n1 : Int) : funK c env lf 6 fi240 [.sl l0, .i .i64 n1] = f240 c lf l0 n1 := by kernel_rfl
def f210_t (c : Orc) (lf : Nat) (l0_0 : List T) (n0_1 : Int) (b0_2 : Bool) : Option (List T) :=
 (c 240 [T.sl l0_0, T.i .i64 n0_1]).bind fun r71 =>
 bif b0_2 then
  some [T.s (⟨#[]⟩ : ByteArray), T.st [T.sl l0_0, T.i .i64 n0_1, T.b true]]
 else
  bif !(asB (nth r71 2)) then
   some [T.s (⟨#[]⟩ : ByteArray), T.st [T.sl l0_0, T.i .i64 n0_1, T.b true]]
  else
   some [T.s (asS (nth r71 0)), T.st [T.sl l0_0, T.i .i64 (asI (nth r71 1)), T.b b0_2]]
def f210 (c : Orc) (lf : Nat) (l0_0 : List T) (n0_1 : Int) (b0_2 : Bool) : Option (List T) := f210_t c lf l0_0 n0_1 b0_2
theorem f210_eq (c : Orc) (lf : Nat) (l0_0 : List T) (n0_1 : Int) (b0_2 : Bool) : funK c env lf 6 fi210 [.st [.sl l0_0, .i .i64 n0_1, .b b0_2]] = f210 c lf l0_0 n0_1 b0_2 := by kernel_rfl
def f211_1_s (c : Orc) (lf : Nat) (x85 : List T) (x87 : Int) (L : Int → Int → Option (List T)) (x88 x89 : Int) : Option (List T) :=
 bif iLt x89 8 then
  bif (intBits .and .i64 x88 1) == 1 then
   L (intBits .xor .i64 (shiftI .shr .i64 x88 1) 2197175160) (IntKind.wrap .i64 (x89 + 1))
  else
   L (shiftI .shr .i64 x88 1) (IntKind.wrap .i64 (x89 + 1))
 else
  some [T.i .i64 0, T.sl x85, T.i .i64 x88, T.i .i64 x87]
def f211_1_c (x85 : List T) (x87 x88 x89 : Int) : CSt := ⟨[.ro 0 false [.i .u8] x85, .i .i64 x88, .i .i64 x87, .i .i64 x89], [.dead]⟩
theorem f211_1_round (c : Orc) (lf : Nat) (x85 : List T) (x87 : Int) (L : CSt → Option (List T)) (x88 x89 : Int) :
 roundK c env lf 6 fi211 1 7 [] [0, 3, 4, 5] (x211_7_0) L (f211_1_c x85 x87 x88 x89) = f211_1_s c lf x85 x87 (fun x88 x89 => L (f211_1_c x85 x87 x88 x89)) x88 x89 := by kernel_rfl
def f211_1 (c : Orc) (lf : Nat) (x85 : List T) (x87 : Int) : Nat → Int → Int → Option (List T)
 | 0 => fun _ _ => none
 | n + 1 => fun x88 x89 => f211_1_s c lf x85 x87 (f211_1 c lf x85 x87 n) x88 x89
theorem f211_1_u (c : Orc) (lf : Nat) (x85 : List T) (x87 : Int) (n : Nat) (x88 x89 : Int) : f211_1 c lf x85 x87 (n + 1) x88 x89 = f211_1_s c lf x85 x87 (f211_1 c lf x85 x87 n) x88 x89 := rfl
theorem f211_1_eq (c : Orc) (lf : Nat) (x85 : List T) (x87 : Int) (n : Nat) (x88 x89 : Int) :
 lpK c env lf 6 fi211 1 7 [] [0, 3, 4, 5] (x211_7_0) n (f211_1_c x85 x87 x88 x89) = f211_1 c lf x85 x87 n x88 x89 := by
 induction n generalizing x88 x89 with
 | zero => rfl
 | succ n ih =>
  refine (f211_1_round c lf x85 x87 _ x88 x89).trans ?_
  have e : (fun x88 x89 => lpK c env lf 6 fi211 1 7 [] [0, 3, 4, 5] (x211_7_0) n (f211_1_c x85 x87 x88 x89)) = f211_1 c lf x85 x87 n := by funext x88 x89; exact ih x88 x89
  show f211_1_s c lf x85 x87 (fun x88 x89 => lpK c env lf 6 fi211 1 7 [] [0, 3, 4, 5] (x211_7_0) n (f211_1_c x85 x87 x88 x89)) x88 x89 = _
  rw [e]; rfl
def f211_0_s (c : Orc) (lf : Nat) (L : List T → Int → Int → Option (List T)) (lp0 : List T → Int → Int → Int → Option (List T)) (x85 : List T) (x86 x87 : Int) : Option (List T) :=
 bif iLt x87 (x85.length : Int) then
  bif inR x87 x85.length then
  (lp0 x85 x87 (intBits .xor .i64 x86 (IntKind.wrap .i64 (asI (x85.getD x87.toNat T.u)))) 0).bind fun r90 =>
  L (asL (nth r90 1)) (asI (nth r90 2)) (IntKind.wrap .i64 ((asI (nth r90 3)) + 1))
  else none
 else
  some [T.i .i64 0, T.i .i64 x86]
def f211_0_c (x85 : List T) (x86 x87 : Int) : CSt := ⟨[.ro 0 false [.i .u8] x85, .i .i64 x86, .i .i64 x87], [.dead]⟩
theorem f211_0_round (c : Orc) (lf : Nat) (L : CSt → Option (List T)) (x85 : List T) (x86 x87 : Int) :
 roundK c env lf 6 fi211 1 3 [] [0, 3, 4] (x211_3_0) L (f211_0_c x85 x86 x87) = f211_0_s c lf (fun x85 x86 x87 => L (f211_0_c x85 x86 x87)) (fun (x85 : List T) (x87 x88 x89 : Int) => lpK c env lf 6 fi211 1 7 [] [0, 3, 4, 5] (x211_7_0) lf (f211_1_c x85 x87 x88 x89)) x85 x86 x87 := by kernel_rfl
def f211_0 (c : Orc) (lf : Nat) : Nat → List T → Int → Int → Option (List T)
 | 0 => fun _ _ _ => none
 | n + 1 => fun x85 x86 x87 => f211_0_s c lf (f211_0 c lf n) (fun (x85 : List T) (x87 x88 x89 : Int) => f211_1 c lf x85 x87 lf x88 x89) x85 x86 x87
theorem f211_0_u (c : Orc) (lf n : Nat) (x85 : List T) (x86 x87 : Int) : f211_0 c lf (n + 1) x85 x86 x87 = f211_0_s c lf (f211_0 c lf n) (fun (x85 : List T) (x87 x88 x89 : Int) => f211_1 c lf x85 x87 lf x88 x89) x85 x86 x87 := rfl
theorem f211_0_eq (c : Orc) (lf n : Nat) (x85 : List T) (x86 x87 : Int) :
 lpK c env lf 6 fi211 1 3 [] [0, 3, 4] (x211_3_0) n (f211_0_c x85 x86 x87) = f211_0 c lf n x85 x86 x87 := by
 induction n generalizing x85 x86 x87 with
 | zero => rfl
 | succ n ih =>
  refine (f211_0_round c lf _ x85 x86 x87).trans ?_
  have e : (fun x85 x86 x87 => lpK c env lf 6 fi211 1 3 [] [0, 3, 4] (x211_3_0) n (f211_0_c x85 x86 x87)) = f211_0 c lf n := by funext x85 x86 x87; exact ih x85 x86 x87
  have e0 : (fun (x85 : List T) (x87 x88 x89 : Int) => lpK c env lf 6 fi211 1 7 [] [0, 3, 4, 5] (x211_7_0) lf (f211_1_c x85 x87 x88 x89)) = (fun (x85 : List T) (x87 x88 x89 : Int) => f211_1 c lf x85 x87 lf x88 x89) := by funext x85 x87 x88 x89; exact f211_1_eq c lf x85 x87 lf x88 x89
  show f211_0_s c lf (fun x85 x86 x87 => lpK c env lf 6 fi211 1 3 [] [0, 3, 4] (x211_3_0) n (f211_0_c x85 x86 x87)) (fun (x85 : List T) (x87 x88 x89 : Int) => lpK c env lf 6 fi211 1 7 [] [0, 3, 4, 5] (x211_7_0) lf (f211_1_c x85 x87 x88 x89)) x85 x86 x87 = _
  rw [e, e0]; rfl
def f211_t (c : Orc) (lf : Nat) (lp0 : List T → Int → Int → Option (List T)) (l0 : List T) : Option (List T) :=
 (lp0 l0 4294967295 0).bind fun r91 =>
 some [T.i .i64 (intBits .xor .i64 (asI (nth r91 1)) 4294967295)]
def f211 (c : Orc) (lf : Nat) (l0 : List T) : Option (List T) := f211_t c lf (fun (x85 : List T) (x86 x87 : Int) => f211_0 c lf lf x85 x86 x87) l0
theorem f211_raw (c : Orc) (lf : Nat) (l0 : List T) : funK c env lf 6 fi211 [.sl l0] = f211_t c lf (fun (x85 : List T) (x86 x87 : Int) => lpK c env lf 6 fi211 1 3 [] [0, 3, 4] (x211_3_0) lf (f211_0_c x85 x86 x87)) l0 := by kernel_rfl
theorem f211_eq (c : Orc) (lf : Nat) (l0 : List T) : funK c env lf 6 fi211 [.sl l0] = f211 c lf l0 := by
 refine (f211_raw c lf l0).trans ?_
 have e0 : (fun (x85 : List T) (x86 x87 : Int) => lpK c env lf 6 fi211 1 3 [] [0, 3, 4] (x211_3_0) lf (f211_0_c x85 x86 x87)) = (fun (x85 : List T) (x86 x87 : Int) => f211_0 c lf lf x85 x86 x87) := by funext x85 x86 x87; exact f211_0_eq c lf lf x85 x86 x87
 rw [e0]; rfl
def f212_t (c : Orc) (lf : Nat) (n0_0 n0_1 : Int) (l0_2 : List T) : Option (List T) :=
 (c 109 [T.i .i64 n0_0, T.i .i64 1, T.i .i64 4]).bind fun r92 =>
 bif asB (nth r92 0) then
  (c 109 [T.i .i64 n0_1, T.i .i64 0, T.i .i64 1000000]).bind fun r93 =>
  bif asB (nth r93 0) then
   some [T.b (iLe (l0_2.length : Int) 380)]
  else
   some [T.b false]
 else
  some [T.b false]
def f212 (c : Orc) (lf : Nat) (n0_0 n0_1 : Int) (l0_2 : List T) : Option (List T) := f212_t c lf n0_0 n0_1 l0_2
theorem f212_eq (c : Orc) (lf : Nat) (n0_0 n0_1 : Int) (l0_2 : List T) : funK c env lf 6 fi212 [.st [.i .i64 n0_0, .i .i64 n0_1, .sl l0_2]] = f212 c lf n0_0 n0_1 l0_2 := by kernel_rfl
def f172_0_s (c : Orc) (lf : Nat) (l0 : List T) (L : Int → Int → Option (List T)) (x102 x103 : Int) : Option (List T) :=
 bif iLt x103 (l0.length : Int) then
  bif inR x103 l0.length then
  L (intBits .or .i64 (shiftI .shl .i64 x102 8) (IntKind.wrap .i64 (asI (l0.getD x103.toNat T.u)))) (IntKind.wrap .i64 (x103 + 1))
  else none
 else
  some [T.i .i64 0, T.sl l0, T.i .i64 (IntKind.wrap .i64 ((l0.length : Int) - 4)), T.i .i64 x102, T.i .i64 0, T.i .i64 0, T.sl ([] : List T)]
def f172_0_c (l0 : List T) (x102 x103 : Int) : CSt := ⟨[.ro 0 false [.i .u8] l0, .bp 1 0, .i .i64 (IntKind.wrap .i64 ((l0.length : Int) - 4)), .i .i64 x102, .i .i64 x103], [.dead, .box [.i .i64 0, .i .i64 0, .rf 2 [] 0 none], .row false [.i .u8] ([] : List T) 0 false]⟩
theorem f172_0_round (c : Orc) (lf : Nat) (l0 : List T) (L : CSt → Option (List T)) (x102 x103 : Int) :
 roundK c env lf 6 fi172 1 6 [] [0, 2, 4, 5, 6] (x172_6_0) L (f172_0_c l0 x102 x103) = f172_0_s c lf l0 (fun x102 x103 => L (f172_0_c l0 x102 x103)) x102 x103 := by kernel_rfl
def f172_0 (c : Orc) (lf : Nat) (l0 : List T) : Nat → Int → Int → Option (List T)
 | 0 => fun _ _ => none
 | n + 1 => fun x102 x103 => f172_0_s c lf l0 (f172_0 c lf l0 n) x102 x103
theorem f172_0_u (c : Orc) (lf : Nat) (l0 : List T) (n : Nat) (x102 x103 : Int) : f172_0 c lf l0 (n + 1) x102 x103 = f172_0_s c lf l0 (f172_0 c lf l0 n) x102 x103 := rfl
theorem f172_0_eq (c : Orc) (lf : Nat) (l0 : List T) (n : Nat) (x102 x103 : Int) :
 lpK c env lf 6 fi172 1 6 [] [0, 2, 4, 5, 6] (x172_6_0) n (f172_0_c l0 x102 x103) = f172_0 c lf l0 n x102 x103 := by
 induction n generalizing x102 x103 with
 | zero => rfl
 | succ n ih =>
  refine (f172_0_round c lf l0 _ x102 x103).trans ?_
  have e : (fun x102 x103 => lpK c env lf 6 fi172 1 6 [] [0, 2, 4, 5, 6] (x172_6_0) n (f172_0_c l0 x102 x103)) = f172_0 c lf l0 n := by funext x102 x103; exact ih x102 x103
  show f172_0_s c lf l0 (fun x102 x103 => lpK c env lf 6 fi172 1 6 [] [0, 2, 4, 5, 6] (x172_6_0) n (f172_0_c l0 x102 x103)) x102 x103 = _
  rw [e]; rfl
def f172_t (c : Orc) (lf : Nat) (lp0 : List T → Int → Int → Option (List T)) (l0 : List T) : Option (List T) :=
 bif iLt (IntKind.wrap .i64 ((l0.length : Int) - 4)) 0 then
  some [T.st [T.i .i64 0, T.i .i64 0, T.sl []], T.b false]
 else
  (lp0 l0 0 (IntKind.wrap .i64 ((l0.length : Int) - 4))).bind fun r104 =>
  bif iLe 0 (asI (nth r104 2)) && iLe (asI (nth r104 2)) ((asL (nth r104 1)).length : Int) then
  (c 209 [T.st [T.sl ((asL (nth r104 1)).take ((asI (nth r104 2)).toNat)), T.i .i64 0, T.b false]]).bind fun r105 =>
  (c 209 [T.st [T.sl ((asL (nth r104 1)).take ((asI (nth r104 2)).toNat)), T.i .i64 (asI (T.cell (nth r105 1) 1)), T.b (asB (T.cell (nth r105 1) 2))]]).bind fun r106 =>
  (c 210 [T.st [T.sl ((asL (nth r104 1)).take ((asI (nth r104 2)).toNat)), T.i .i64 (asI (T.cell (nth r106 1) 1)), T.b (asB (T.cell (nth r106 1) 2))]]).bind fun r107 =>
  bif nLe (asS (nth r107 0)).size LIM then
  bif asB (T.cell (nth r107 1) 2) then
   some [T.st [T.i .i64 0, T.i .i64 0, T.sl []], T.b false]
  else
   bif (asI (T.cell (nth r107 1) 1)) != (asI (nth r104 2)) then
    some [T.st [T.i .i64 0, T.i .i64 0, T.sl []], T.b false]
   else
    bif iLe 0 (asI (nth r104 2)) && iLe (asI (nth r104 2)) ((asL (nth r104 1)).length : Int) then
    (c 211 [T.sl ((asL (nth r104 1)).take ((asI (nth r104 2)).toNat))]).bind fun r108 =>
    bif (asI (nth r104 3)) != (asI (nth r108 0)) then
     some [T.st [T.i .i64 0, T.i .i64 0, T.sl []], T.b false]
    else
     (c 212 [T.st [T.i .i64 (asI (nth r105 0)), T.i .i64 (asI (nth r106 0)), T.sl (listOf (asS (nth r107 0)))]]).bind fun r109 =>
     bif !(asB (nth r109 0)) then
      some [T.st [T.i .i64 0, T.i .i64 0, T.sl []], T.b false]
     else
      some [T.st [T.i .i64 (asI (nth r105 0)), T.i .i64 (asI (nth r106 0)), T.sl (listOf (asS (nth r107 0)))], T.b true]
    else none
  else none
  else none
def f172 (c : Orc) (lf : Nat) (l0 : List T) : Option (List T) := f172_t c lf (fun (l0 : List T) (x102 x103 : Int) => f172_0 c lf l0 lf x102 x103) l0
theorem f172_raw (c : Orc) (lf : Nat) (l0 : List T) : funK c env lf 6 fi172 [.sl l0] = f172_t c lf (fun (l0 : List T) (x102 x103 : Int) => lpK c env lf 6 fi172 1 6 [] [0, 2, 4, 5, 6] (x172_6_0) lf (f172_0_c l0 x102 x103)) l0 := by kernel_rfl
theorem f172_eq (c : Orc) (lf : Nat) (l0 : List T) : funK c env lf 6 fi172 [.sl l0] = f172 c lf l0 := by
 refine (f172_raw c lf l0).trans ?_
 have e0 : (fun (l0 : List T) (x102 x103 : Int) => lpK c env lf 6 fi172 1 6 [] [0, 2, 4, 5, 6] (x172_6_0) lf (f172_0_c l0 x102 x103)) = (fun (l0 : List T) (x102 x103 : Int) => f172_0 c lf l0 lf x102 x103) := by funext l0 x102 x103; exact f172_0_eq c lf l0 lf x102 x103
 rw [e0]; rfl
def f116_1_s (c : Orc) (lf : Nat) (x130 : Int) (x131 : List T) (L : Int → Int → Option (List T)) (x133 x134 : Int) : Option (List T) :=
 bif inR x130 x131.length then
 bif iLt x134 ((asL (T.cell (x131.getD x130.toNat T.u) 0)).length : Int) then
  bif inR x130 x131.length then
  bif inR x134 ((asL (T.cell (x131.getD x130.toNat T.u) 0)).length) then
  (c 172 [T.sl (asL (T.cell ((asL (T.cell (x131.getD x130.toNat T.u) 0)).getD x134.toNat T.u) 1))]).bind fun r135 =>
  bif asB (nth r135 1) then
   bif iLe x133 (asI (T.cell (nth r135 0) 1)) then
    L (IntKind.wrap .i64 ((asI (T.cell (nth r135 0) 1)) + 1)) (IntKind.wrap .i64 (x134 + 1))
   else
    L x133 (IntKind.wrap .i64 (x134 + 1))
  else
   L x133 (IntKind.wrap .i64 (x134 + 1))
  else none
  else none
 else
  some [T.i .i64 0, T.i .i64 x133, T.i .i64 x130, T.sl x131]
 else none
def f116_1_c (x130 : Int) (x131 : List T) (x133 x134 : Int) : CSt := ⟨[.bp 1 0, .i .i64 x133, .i .i64 x130, .i .i64 x134], [.dead, .box [.ro 0 true [.sl true [.b, .sl false [.i .u8]], .i .i64, .b] x131]]⟩
theorem f116_1_round (c : Orc) (lf : Nat) (x130 : Int) (x131 : List T) (L : CSt → Option (List T)) (x133 x134 : Int) :
 roundK c env lf 6 fi116 1 6 [] [1, 3, 4, 5] (x116_6_0) L (f116_1_c x130 x131 x133 x134) = f116_1_s c lf x130 x131 (fun x133 x134 => L (f116_1_c x130 x131 x133 x134)) x133 x134 := by kernel_rfl
def f116_1 (c : Orc) (lf : Nat) (x130 : Int) (x131 : List T) : Nat → Int → Int → Option (List T)
 | 0 => fun _ _ => none
 | n + 1 => fun x133 x134 => f116_1_s c lf x130 x131 (f116_1 c lf x130 x131 n) x133 x134
theorem f116_1_u (c : Orc) (lf : Nat) (x130 : Int) (x131 : List T) (n : Nat) (x133 x134 : Int) : f116_1 c lf x130 x131 (n + 1) x133 x134 = f116_1_s c lf x130 x131 (f116_1 c lf x130 x131 n) x133 x134 := rfl
theorem f116_1_eq (c : Orc) (lf : Nat) (x130 : Int) (x131 : List T) (n : Nat) (x133 x134 : Int) :
 lpK c env lf 6 fi116 1 6 [] [1, 3, 4, 5] (x116_6_0) n (f116_1_c x130 x131 x133 x134) = f116_1 c lf x130 x131 n x133 x134 := by
 induction n generalizing x133 x134 with
 | zero => rfl
 | succ n ih =>
  refine (f116_1_round c lf x130 x131 _ x133 x134).trans ?_
  have e : (fun x133 x134 => lpK c env lf 6 fi116 1 6 [] [1, 3, 4, 5] (x116_6_0) n (f116_1_c x130 x131 x133 x134)) = f116_1 c lf x130 x131 n := by funext x133 x134; exact ih x133 x134
  show f116_1_s c lf x130 x131 (fun x133 x134 => lpK c env lf 6 fi116 1 6 [] [1, 3, 4, 5] (x116_6_0) n (f116_1_c x130 x131 x133 x134)) x133 x134 = _
  rw [e]; rfl
def f116_0_s (c : Orc) (lf : Nat) (L : Int → Int → List T → Option (List T)) (lp0 : Int → List T → Int → Int → Option (List T)) (x129 x130 : Int) (x131 : List T) : Option (List T) :=
 bif iLt x130 (x131.length : Int) then
  (lp0 x130 x131 x129 0).bind fun r136 =>
  L (asI (nth r136 1)) (IntKind.wrap .i64 ((asI (nth r136 2)) + 1)) (asL (nth r136 3))
 else
  some [T.i .i64 0, T.i .i64 x129]
def f116_0_c (x129 x130 : Int) (x131 : List T) : CSt := ⟨[.bp 1 0, .i .i64 x129, .i .i64 x130], [.dead, .box [.ro 0 true [.sl true [.b, .sl false [.i .u8]], .i .i64, .b] x131]]⟩
theorem f116_0_round (c : Orc) (lf : Nat) (L : CSt → Option (List T)) (x129 x130 : Int) (x131 : List T) :
 roundK c env lf 6 fi116 1 3 [] [1, 3, 4] (x116_3_0) L (f116_0_c x129 x130 x131) = f116_0_s c lf (fun x129 x130 x131 => L (f116_0_c x129 x130 x131)) (fun (x130 : Int) (x131 : List T) (x133 x134 : Int) => lpK c env lf 6 fi116 1 6 [] [1, 3, 4, 5] (x116_6_0) lf (f116_1_c x130 x131 x133 x134)) x129 x130 x131 := by kernel_rfl
def f116_0 (c : Orc) (lf : Nat) : Nat → Int → Int → List T → Option (List T)
 | 0 => fun _ _ _ => none
 | n + 1 => fun x129 x130 x131 => f116_0_s c lf (f116_0 c lf n) (fun (x130 : Int) (x131 : List T) (x133 x134 : Int) => f116_1 c lf x130 x131 lf x133 x134) x129 x130 x131
theorem f116_0_u (c : Orc) (lf n : Nat) (x129 x130 : Int) (x131 : List T) : f116_0 c lf (n + 1) x129 x130 x131 = f116_0_s c lf (f116_0 c lf n) (fun (x130 : Int) (x131 : List T) (x133 x134 : Int) => f116_1 c lf x130 x131 lf x133 x134) x129 x130 x131 := rfl
theorem f116_0_eq (c : Orc) (lf n : Nat) (x129 x130 : Int) (x131 : List T) :
 lpK c env lf 6 fi116 1 3 [] [1, 3, 4] (x116_3_0) n (f116_0_c x129 x130 x131) = f116_0 c lf n x129 x130 x131 := by
 induction n generalizing x129 x130 x131 with
 | zero => rfl
 | succ n ih =>
  refine (f116_0_round c lf _ x129 x130 x131).trans ?_
  have e : (fun x129 x130 x131 => lpK c env lf 6 fi116 1 3 [] [1, 3, 4] (x116_3_0) n (f116_0_c x129 x130 x131)) = f116_0 c lf n := by funext x129 x130 x131; exact ih x129 x130 x131
  have e0 : (fun (x130 : Int) (x131 : List T) (x133 x134 : Int) => lpK c env lf 6 fi116 1 6 [] [1, 3, 4, 5] (x116_6_0) lf (f116_1_c x130 x131 x133 x134)) = (fun (x130 : Int) (x131 : List T) (x133 x134 : Int) => f116_1 c lf x130 x131 lf x133 x134) := by funext x130 x131 x133 x134; exact f116_1_eq c lf x130 x131 lf x133 x134
  show f116_0_s c lf (fun x129 x130 x131 => lpK c env lf 6 fi116 1 3 [] [1, 3, 4] (x116_3_0) n (f116_0_c x129 x130 x131)) (fun (x130 : Int) (x131 : List T) (x133 x134 : Int) => lpK c env lf 6 fi116 1 6 [] [1, 3, 4, 5] (x116_6_0) lf (f116_1_c x130 x131 x133 x134)) x129 x130 x131 = _
  rw [e, e0]; rfl
def f116_t (c : Orc) (lf : Nat) (lp0 : Int → Int → List T → Option (List T)) (l0_0 : List T) : Option (List T) :=
 (lp0 0 0 l0_0).bind fun r137 =>
 some [T.i .i64 (asI (nth r137 1))]
def f116 (c : Orc) (lf : Nat) (l0_0 : List T) : Option (List T) := f116_t c lf (fun (x129 x130 : Int) (x131 : List T) => f116_0 c lf lf x129 x130 x131) l0_0
theorem f116_raw (c : Orc) (lf : Nat) (l0_0 : List T) : funK c env lf 6 fi116 [.st [.sl l0_0]] = f116_t c lf (fun (x129 x130 : Int) (x131 : List T) => lpK c env lf 6 fi116 1 3 [] [1, 3, 4] (x116_3_0) lf (f116_0_c x129 x130 x131)) l0_0 := by kernel_rfl
theorem f116_eq (c : Orc) (lf : Nat) (l0_0 : List T) : funK c env lf 6 fi116 [.st [.sl l0_0]] = f116 c lf l0_0 := by
 refine (f116_raw c lf l0_0).trans ?_
 have e0 : (fun (x129 x130 : Int) (x131 : List T) => lpK c env lf 6 fi116 1 3 [] [1, 3, 4] (x116_3_0) lf (f116_0_c x129 x130 x131)) = (fun (x129 x130 : Int) (x131 : List T) => f116_0 c lf lf x129 x130 x131) := by funext x129 x130 x131; exact f116_0_eq c lf lf x129 x130 x131
 rw [e0]; rfl
def f67_t (c : Orc) (lf : Nat) (l0_0 : List T) (n0_1 : Int) (l0_2 : List T) (b0_3 : Bool) (n0_4 : Int) : Option (List T) :=
 (c 65 [T.st [T.sl l0_0, T.i .i64 n0_1, T.sl l0_2, T.b b0_3]]).bind fun r138 =>
 bif asB (nth r138 0) then
  (c 109 [T.i .i64 n0_4, T.i .i64 0, T.i .i64 1000000]).bind fun r139 =>
  bif asB (nth r139 0) then
   (c 116 [T.st [T.sl l0_0]]).bind fun r140 =>
   some [T.b (iLe (asI (nth r140 0)) n0_4)]
  else
   some [T.b false]
 else
  some [T.b false]
def f67 (c : Orc) (lf : Nat) (l0_0 : List T) (n0_1 : Int) (l0_2 : List T) (b0_3 : Bool) (n0_4 : Int) : Option (List T) := f67_t c lf l0_0 n0_1 l0_2 b0_3 n0_4
theorem f67_eq (c : Orc) (lf : Nat) (l0_0 : List T) (n0_1 : Int) (l0_2 : List T) (b0_3 : Bool) (n0_4 : Int) : funK c env lf 6 fi67 [.st [.sl l0_0, .i .i64 n0_1, .sl l0_2, .b b0_3, .i .i64 n0_4]] = f67 c lf l0_0 n0_1 l0_2 b0_3 n0_4 := by kernel_rfl
def f173_0_s (c : Orc) (lf : Nat) (l0_0 l1_0 : List T) (n0_1 n1_1 : Int) (L : Unit → Option (List T)) : Option (List T) :=
 bif iLt 0 (l0_0.length : Int) then
  bif inR 0 l0_0.length then
  bif inR 0 l1_0.length then
  bif (asI (T.cell (l0_0.getD 0 T.u) 0)) != (asI (T.cell (l1_0.getD 0 T.u) 0)) then
   some [T.i .i64 0, T.b false]
  else
   bif !((asS (T.cell (l0_0.getD 0 T.u) 1)).toList == (asS (T.cell (l1_0.getD 0 T.u) 1)).toList) then
    some [T.i .i64 0, T.b false]
   else
    bif !((asB (T.cell (l0_0.getD 0 T.u) 2)) == (asB (T.cell (l1_0.getD 0 T.u) 2))) then
     some [T.i .i64 0, T.b false]
    else
     bif (asI (T.cell (l0_0.getD 0 T.u) 3)) != (asI (T.cell (l1_0.getD 0 T.u) 3)) then
     some [T.i .i64 0, T.b false]
     else none
  else none
  else none
 else
  some [T.i .i64 1]
def f173_0_c (l0_0 l1_0 : List T) (n0_1 n1_1 : Int) : CSt := ⟨[.bp 4 0, .bp 5 0, .i .i64 0], [.dead, .dead, .dead, .dead, .box [.ro 0 true [.i .i64, .s, .b, .i .i64, .sl true [.i .i64, .i .i64, .i .i64, .sl false [.i .u8], .sl true [.s, .i .i64], .sl true [.s, .s]], .i .i64] l0_0, .i .i64 n0_1], .box [.ro 0 true [.i .i64, .s, .b, .i .i64, .sl true [.i .i64, .i .i64, .i .i64, .sl false [.i .u8], .sl true [.s, .i .i64], .sl true [.s, .s]], .i .i64] l1_0, .i .i64 n1_1]]⟩
theorem f173_0_round (c : Orc) (lf : Nat) (l0_0 l1_0 : List T) (n0_1 n1_1 : Int) (L : CSt → Option (List T)) :
 roundK c env lf 6 fi173 4 4 [] [2, 3, 5] (x173_4_0) L (f173_0_c l0_0 l1_0 n0_1 n1_1) = f173_0_s c lf l0_0 l1_0 n0_1 n1_1 (fun _ => L (f173_0_c l0_0 l1_0 n0_1 n1_1)) := by kernel_rfl
def f173_0 (c : Orc) (lf : Nat) (l0_0 l1_0 : List T) (n0_1 n1_1 : Int) : Nat → Unit → Option (List T)
 | 0 => fun _ => none
 | n + 1 => fun _ => f173_0_s c lf l0_0 l1_0 n0_1 n1_1 (f173_0 c lf l0_0 l1_0 n0_1 n1_1 n)
theorem f173_0_eq (c : Orc) (lf : Nat) (l0_0 l1_0 : List T) (n0_1 n1_1 : Int) (n : Nat) :
 lpK c env lf 6 fi173 4 4 [] [2, 3, 5] (x173_4_0) n (f173_0_c l0_0 l1_0 n0_1 n1_1) = f173_0 c lf l0_0 l1_0 n0_1 n1_1 n () := by
 induction n with
 | zero => rfl
 | succ n ih =>
  refine (f173_0_round c lf l0_0 l1_0 n0_1 n1_1 _).trans ?_
  have e : (fun (_ : Unit) => lpK c env lf 6 fi173 4 4 [] [2, 3, 5] (x173_4_0) n (f173_0_c l0_0 l1_0 n0_1 n1_1)) = f173_0 c lf l0_0 l1_0 n0_1 n1_1 n := by funext _; exact ih
  show f173_0_s c lf l0_0 l1_0 n0_1 n1_1 (fun _ => lpK c env lf 6 fi173 4 4 [] [2, 3, 5] (x173_4_0) n (f173_0_c l0_0 l1_0 n0_1 n1_1)) = _
  rw [e]; rfl
def f173_t (c : Orc) (lf : Nat) (lp0 : List T → List T → Int → Int → Option (List T)) (l0_0 : List T) (n0_1 : Int) (l1_0 : List T) (n1_1 : Int) : Option (List T) :=
 bif n0_1 != n1_1 then
  some [T.b false]
 else
  bif (l0_0.length : Int) != (l1_0.length : Int) then
   some [T.b false]
  else
   (lp0 l0_0 l1_0 n0_1 n1_1).bind fun r142 =>
   bif asI (nth r142 0) == 0 then
    some [T.b (asB (nth r142 1))]
   else
    some [T.b true]
def f173 (c : Orc) (lf : Nat) (l0_0 : List T) (n0_1 : Int) (l1_0 : List T) (n1_1 : Int) : Option (List T) := f173_t c lf (fun (l0_0 l1_0 : List T) (n0_1 n1_1 : Int) => f173_0 c lf l0_0 l1_0 n0_1 n1_1 lf ()) l0_0 n0_1 l1_0 n1_1
theorem f173_raw (c : Orc) (lf : Nat) (l0_0 : List T) (n0_1 : Int) (l1_0 : List T) (n1_1 : Int) : funK c env lf 6 fi173 [.st [.sl l0_0, .i .i64 n0_1], .st [.sl l1_0, .i .i64 n1_1]] = f173_t c lf (fun (l0_0 l1_0 : List T) (n0_1 n1_1 : Int) => lpK c env lf 6 fi173 4 4 [] [2, 3, 5] (x173_4_0) lf (f173_0_c l0_0 l1_0 n0_1 n1_1)) l0_0 n0_1 l1_0 n1_1 := by kernel_rfl
theorem f173_eq (c : Orc) (lf : Nat) (l0_0 : List T) (n0_1 : Int) (l1_0 : List T) (n1_1 : Int) : funK c env lf 6 fi173 [.st [.sl l0_0, .i .i64 n0_1], .st [.sl l1_0, .i .i64 n1_1]] = f173 c lf l0_0 n0_1 l1_0 n1_1 := by
 refine (f173_raw c lf l0_0 n0_1 l1_0 n1_1).trans ?_
 have e0 : (fun (l0_0 l1_0 : List T) (n0_1 n1_1 : Int) => lpK c env lf 6 fi173 4 4 [] [2, 3, 5] (x173_4_0) lf (f173_0_c l0_0 l1_0 n0_1 n1_1)) = (fun (l0_0 l1_0 : List T) (n0_1 n1_1 : Int) => f173_0 c lf l0_0 l1_0 n0_1 n1_1 lf ()) := by funext l0_0 l1_0 n0_1 n1_1; exact f173_0_eq c lf l0_0 l1_0 n0_1 n1_1 lf
 rw [e0]; rfl
def f117_t (c : Orc) (lf : Nat) (l0_0 : List T) (n0_1 n0_2 : Int) (l0_3 l0_4 : List T) (n0_5 n0_6 : Int) : Option (List T) :=
 bif n0_6 == (-1) then
  bif n0_5 == (-1) then
   (c 23 []).bind fun r143 =>
   (c 173 [T.st [T.sl l0_0, T.i .i64 n0_1], T.st [T.sl (asL (T.cell (nth r143 0) 0)), T.i .i64 (asI (T.cell (nth r143 0) 1))]]).bind fun r144 =>
   bif asB (nth r144 0) then
    bif n0_2 == 1 then
     bif (l0_3.length : Int) == 0 then
      some [T.b ((l0_4.length : Int) == 0)]
     else
      some [T.b false]
    else
     some [T.b false]
   else
    some [T.b false]
  else
   some [T.b false]
 else
  some [T.b false]
def f117 (c : Orc) (lf : Nat) (l0_0 : List T) (n0_1 n0_2 : Int) (l0_3 l0_4 : List T) (n0_5 n0_6 : Int) : Option (List T) := f117_t c lf l0_0 n0_1 n0_2 l0_3 l0_4 n0_5 n0_6
theorem f117_eq (c : Orc) (lf : Nat) (l0_0 : List T) (n0_1 n0_2 : Int) (l0_3 l0_4 : List T) (n0_5 n0_6 : Int) : funK c env lf 6 fi117 [.st [.sl l0_0, .i .i64 n0_1, .i .i64 n0_2, .sl l0_3, .sl l0_4, .i .i64 n0_5, .i .i64 n0_6]] = f117 c lf l0_0 n0_1 n0_2 l0_3 l0_4 n0_5 n0_6 := by kernel_rfl
def f68_t (c : Orc) (lf : Nat) (l0_0 : List T) (n0_1 : Int) (l0_2 : List T) (b0_3 : Bool) (n0_4 : Int) (l1_0 : List T) (n1_1 n1_2 : Int) (l1_3 l1_4 : List T) (n1_5 n1_6 : Int) : Option (List T) :=
 (c 117 [T.st [T.sl l1_0, T.i .i64 n1_1, T.i .i64 n1_2, T.sl l1_3, T.sl l1_4, T.i .i64 n1_5, T.i .i64 n1_6]]).bind fun r145 =>
 bif asB (nth r145 0) then
  some [T.b true]
 else
  (c 66 [T.st [T.sl l1_0, T.i .i64 n1_1]]).bind fun r146 =>
  bif !(asB (nth r146 0)) then
  some [T.b false]
  else none
def f68 (c : Orc) (lf : Nat) (l0_0 : List T) (n0_1 : Int) (l0_2 : List T) (b0_3 : Bool) (n0_4 : Int) (l1_0 : List T) (n1_1 n1_2 : Int) (l1_3 l1_4 : List T) (n1_5 n1_6 : Int) : Option (List T) := f68_t c lf l0_0 n0_1 l0_2 b0_3 n0_4 l1_0 n1_1 n1_2 l1_3 l1_4 n1_5 n1_6
theorem f68_eq (c : Orc) (lf : Nat) (l0_0 : List T) (n0_1 : Int) (l0_2 : List T) (b0_3 : Bool) (n0_4 : Int) (l1_0 : List T) (n1_1 n1_2 : Int) (l1_3 l1_4 : List T) (n1_5 n1_6 : Int) : funK c env lf 6 fi68 [.st [.sl l0_0, .i .i64 n0_1, .sl l0_2, .b b0_3, .i .i64 n0_4], .st [.sl l1_0, .i .i64 n1_1, .i .i64 n1_2, .sl l1_3, .sl l1_4, .i .i64 n1_5, .i .i64 n1_6]] = f68 c lf l0_0 n0_1 l0_2 b0_3 n0_4 l1_0 n1_1 n1_2 l1_3 l1_4 n1_5 n1_6 := by kernel_rfl
def f26_t (c : Orc) (lf : Nat) (l0_0 : List T) (n0_1 : Int) (l0_2 : List T) (n0_3 n0_4 : Int) (l0_5 l0_6 : List T) (n0_7 n0_8 : Int) (l0_9 : List T) (n0_10 : Int) (l0_11 : List T) (b0_12 : Bool) (n0_13 : Int) : Option (List T) :=
 (c 66 [T.st [T.sl l0_0, T.i .i64 n0_1]]).bind fun r147 =>
 bif asB (nth r147 0) then
  (c 67 [T.st [T.sl l0_9, T.i .i64 n0_10, T.sl l0_11, T.b b0_12, T.i .i64 n0_13]]).bind fun r148 =>
  bif asB (nth r148 0) then
   (c 68 [T.st [T.sl l0_9, T.i .i64 n0_10, T.sl l0_11, T.b b0_12, T.i .i64 n0_13], T.st [T.sl l0_2, T.i .i64 n0_3, T.i .i64 n0_4, T.sl l0_5, T.sl l0_6, T.i .i64 n0_7, T.i .i64 n0_8]]).bind fun r149 =>
   some [T.b (asB (nth r149 0))]
  else
   some [T.b false]
 else
  some [T.b false]
def f26 (c : Orc) (lf : Nat) (l0_0 : List T) (n0_1 : Int) (l0_2 : List T) (n0_3 n0_4 : Int) (l0_5 l0_6 : List T) (n0_7 n0_8 : Int) (l0_9 : List T) (n0_10 : Int) (l0_11 : List T) (b0_12 : Bool) (n0_13 : Int) : Option (List T) := f26_t c lf l0_0 n0_1 l0_2 n0_3 n0_4 l0_5 l0_6 n0_7 n0_8 l0_9 n0_10 l0_11 b0_12 n0_13
theorem f26_eq (c : Orc) (lf : Nat) (l0_0 : List T) (n0_1 : Int) (l0_2 : List T) (n0_3 n0_4 : Int) (l0_5 l0_6 : List T) (n0_7 n0_8 : Int) (l0_9 : List T) (n0_10 : Int) (l0_11 : List T) (b0_12 : Bool) (n0_13 : Int) : funK c env lf 6 fi26 [.st [.sl l0_0, .i .i64 n0_1, .sl l0_2, .i .i64 n0_3, .i .i64 n0_4, .sl l0_5, .sl l0_6, .i .i64 n0_7, .i .i64 n0_8, .sl l0_9, .i .i64 n0_10, .sl l0_11, .b b0_12, .i .i64 n0_13]] = f26 c lf l0_0 n0_1 l0_2 n0_3 n0_4 l0_5 l0_6 n0_7 n0_8 l0_9 n0_10 l0_11 b0_12 n0_13 := by kernel_rfl
def f6_t (c : Orc) (lf : Nat) (n0 : Int) (l1 : List T) : Option (List T) :=
 (c 23 []).bind fun r150 =>
 (c 24 []).bind fun r151 =>
 (c 25 [T.i .i64 n0, T.sl l1]).bind fun r152 =>
 (c 26 [T.st [T.sl (asL (T.cell (nth r150 0) 0)), T.i .i64 (asI (T.cell (nth r150 0) 1)), T.sl (asL (T.cell (nth r151 0) 0)), T.i .i64 (asI (T.cell (nth r151 0) 1)), T.i .i64 (asI (T.cell (nth r151 0) 2)), T.sl (asL (T.cell (nth r151 0) 3)), T.sl (asL (T.cell (nth r151 0) 4)), T.i .i64 (asI (T.cell (nth r151 0) 5)), T.i .i64 (asI (T.cell (nth r151 0) 6)), T.sl (asL (T.cell (nth r152 0) 0)), T.i .i64 (asI (T.cell (nth r152 0) 1)), T.sl (asL (T.cell (nth r152 0) 2)), T.b (asB (T.cell (nth r152 0) 3)), T.i .i64 0]]).bind fun r153 =>
 bif !(asB (nth r153 0)) then
  some [T.st [T.sl [], T.i .i64 0, T.sl [], T.i .i64 0, T.i .i64 0, T.sl [], T.sl [], T.i .i64 0, T.i .i64 0, T.sl [], T.i .i64 0, T.sl [], T.b false, T.i .i64 0]]
 else
  some [T.st [T.sl (asL (T.cell (nth r150 0) 0)), T.i .i64 (asI (T.cell (nth r150 0) 1)), T.sl (asL (T.cell (nth r151 0) 0)), T.i .i64 (asI (T.cell (nth r151 0) 1)), T.i .i64 (asI (T.cell (nth r151 0) 2)), T.sl (asL (T.cell (nth r151 0) 3)), T.sl (asL (T.cell (nth r151 0) 4)), T.i .i64 (asI (T.cell (nth r151 0) 5)), T.i .i64 (asI (T.cell (nth r151 0) 6)), T.sl (asL (T.cell (nth r152 0) 0)), T.i .i64 (asI (T.cell (nth r152 0) 1)), T.sl (asL (T.cell (nth r152 0) 2)), T.b (asB (T.cell (nth r152 0) 3)), T.i .i64 0]]
def f6 (c : Orc) (lf : Nat) (n0 : Int) (l1 : List T) : Option (List T) := f6_t c lf n0 l1
theorem f6_eq (c : Orc) (lf : Nat) (n0 : Int) (l1 : List T) : funK c env lf 6 fi6 [.i .i64 n0, .sl l1] = f6 c lf n0 l1 := by kernel_rfl
def f21_t (c : Orc) (lf : Nat) : Option (List T) :=
 some [T.st [T.sl [], T.i .i64 1]]
def f21 (c : Orc) (lf : Nat) : Option (List T) := f21_t c lf
theorem f21_eq (c : Orc) (lf : Nat) : funK c env lf 6 fi21 [] = f21 c lf := by kernel_rfl
def f28_t (c : Orc) (lf : Nat) : Option (List T) :=
 (c 21 []).bind fun r154 =>
 some [T.st [T.sl (asL (T.cell (nth r154 0) 0)), T.i .i64 (asI (T.cell (nth r154 0) 1)), T.i .i64 1, T.sl [], T.sl [], T.i .i64 (-1), T.i .i64 (-1)]]
def f28 (c : Orc) (lf : Nat) : Option (List T) := f28_t c lf
theorem f28_eq (c : Orc) (lf : Nat) : funK c env lf 6 fi28 [] = f28 c lf := by kernel_rfl
def f58_t (c : Orc) (lf : Nat) (n0 n1 n2 : Int) : Option (List T) :=
 bif iLe n1 n0 then
  some [T.b (iLe n0 n2)]
 else
  some [T.b false]
def f58 (c : Orc) (lf : Nat) (n0 n1 n2 : Int) : Option (List T) := f58_t c lf n0 n1 n2
theorem f58_eq (c : Orc) (lf : Nat) (n0 n1 n2 : Int) : funK c env lf 6 fi58 [.i .i64 n0, .i .i64 n1, .i .i64 n2] = f58 c lf n0 n1 n2 := by kernel_rfl
def f40_0_s (c : Orc) (lf : Nat) (n0 : Int) (L : Int → List T → Option (List T)) (x160 : Int) (x161 : List T) : Option (List T) :=
 bif iLt x160 n0 then
  bif nLe (x161.length + ([T.st [T.sl ([T.st [T.b false, T.sl []], T.st [T.b false, T.sl []], T.st [T.b false, T.sl []], T.st [T.b false, T.sl []], T.st [T.b false, T.sl []], T.st [T.b false, T.sl []], T.st [T.b false, T.sl []], T.st [T.b false, T.sl []]] : List T), T.i .i64 0, T.b false]] : List T).length) LIM then
  L (IntKind.wrap .i64 (x160 + 1)) (x161 ++ ([T.st [T.sl ([T.st [T.b false, T.sl []], T.st [T.b false, T.sl []], T.st [T.b false, T.sl []], T.st [T.b false, T.sl []], T.st [T.b false, T.sl []], T.st [T.b false, T.sl []], T.st [T.b false, T.sl []], T.st [T.b false, T.sl []]] : List T), T.i .i64 0, T.b false]] : List T))
  else none
 else
  some [T.i .i64 0, T.sl ([] : List T), T.sl x161]
def f40_0_c (n0 x160 : Int) (x161 : List T) : CSt := ⟨[.bp 1 0, .bp 3 0, .i .i64 n0, .i .i64 x160], [.dead, .box [.rf 2 [] 0 none], .row true [.sl true [.b, .sl false [.i .u8]], .i .i64, .b] ([] : List T) 0 false, .box [.rf 4 [] 0 none], .row true [.sl true [.b, .sl false [.i .u8]], .i .i64, .b] x161 0 false]⟩
theorem f40_0_round (c : Orc) (lf : Nat) (n0 : Int) (L : CSt → Option (List T)) (x160 : Int) (x161 : List T) :
 roundK c env lf 6 fi40 1 5 [] [2, 3, 9, 10] (x40_5_0) L (f40_0_c n0 x160 x161) = f40_0_s c lf n0 (fun x160 x161 => L (f40_0_c n0 x160 x161)) x160 x161 := by kernel_rfl
def f40_0 (c : Orc) (lf : Nat) (n0 : Int) : Nat → Int → List T → Option (List T)
 | 0 => fun _ _ => none
 | n + 1 => fun x160 x161 => f40_0_s c lf n0 (f40_0 c lf n0 n) x160 x161
theorem f40_0_u (c : Orc) (lf : Nat) (n0 : Int) (n : Nat) (x160 : Int) (x161 : List T) : f40_0 c lf n0 (n + 1) x160 x161 = f40_0_s c lf n0 (f40_0 c lf n0 n) x160 x161 := rfl
theorem f40_0_eq (c : Orc) (lf : Nat) (n0 : Int) (n : Nat) (x160 : Int) (x161 : List T) :
 lpK c env lf 6 fi40 1 5 [] [2, 3, 9, 10] (x40_5_0) n (f40_0_c n0 x160 x161) = f40_0 c lf n0 n x160 x161 := by
 induction n generalizing x160 x161 with
 | zero => rfl
 | succ n ih =>
  refine (f40_0_round c lf n0 _ x160 x161).trans ?_
  have e : (fun x160 x161 => lpK c env lf 6 fi40 1 5 [] [2, 3, 9, 10] (x40_5_0) n (f40_0_c n0 x160 x161)) = f40_0 c lf n0 n := by funext x160 x161; exact ih x160 x161
  show f40_0_s c lf n0 (fun x160 x161 => lpK c env lf 6 fi40 1 5 [] [2, 3, 9, 10] (x40_5_0) n (f40_0_c n0 x160 x161)) x160 x161 = _
  rw [e]; rfl
def f40_t (c : Orc) (lf : Nat) (lp0 : Int → Int → List T → Option (List T)) (n0 : Int) : Option (List T) :=
 (c 58 [T.i .i64 n0, T.i .i64 3, T.i .i64 24]).bind fun r159 =>
 bif !(asB (nth r159 0)) then
  some [T.st [T.sl []]]
 else
  (lp0 n0 0 ([] : List T)).bind fun r162 =>
  some [T.st [T.sl (asL (nth r162 2))]]
def f40 (c : Orc) (lf : Nat) (n0 : Int) : Option (List T) := f40_t c lf (fun (n0 x160 : Int) (x161 : List T) => f40_0 c lf n0 lf x160 x161) n0
theorem f40_raw (c : Orc) (lf : Nat) (n0 : Int) : funK c env lf 6 fi40 [.i .i64 n0] = f40_t c lf (fun (n0 x160 : Int) (x161 : List T) => lpK c env lf 6 fi40 1 5 [] [2, 3, 9, 10] (x40_5_0) lf (f40_0_c n0 x160 x161)) n0 := by kernel_rfl
theorem f40_eq (c : Orc) (lf : Nat) (n0 : Int) : funK c env lf 6 fi40 [.i .i64 n0] = f40 c lf n0 := by
 refine (f40_raw c lf n0).trans ?_
 have e0 : (fun (n0 x160 : Int) (x161 : List T) => lpK c env lf 6 fi40 1 5 [] [2, 3, 9, 10] (x40_5_0) lf (f40_0_c n0 x160 x161)) = (fun (n0 x160 : Int) (x161 : List T) => f40_0 c lf n0 lf x160 x161) := by funext n0 x160 x161; exact f40_0_eq c lf n0 lf x160 x161
 rw [e0]; rfl
def f83_1_s (c : Orc) (lf : Nat) (x178 : List T) (x179 x180 : Int) (x181 : List T) (L : Int → Option (List T)) (x183 : Int) : Option (List T) :=
 bif iLt x183 ((asL (T.cell (x178.getD x180.toNat T.u) 0)).length : Int) then
  bif inR x183 ((asL (T.cell (x178.getD x180.toNat T.u) 0)).length) then
  bif iLt 400 ((asL (T.cell ((asL (T.cell (x178.getD x180.toNat T.u) 0)).getD x183.toNat T.u) 1)).length : Int) then
   some [T.i .i64 0, T.b false]
  else
   bif !(asB (T.cell ((asL (T.cell (x178.getD x180.toNat T.u) 0)).getD x183.toNat T.u) 0)) then
    bif iLt 0 ((asL (T.cell ((asL (T.cell (x178.getD x180.toNat T.u) 0)).getD x183.toNat T.u) 1)).length : Int) then
     some [T.i .i64 0, T.b false]
    else
     bif iLt 0 x183 then
      bif asB (T.cell ((asL (T.cell (x178.getD x180.toNat T.u) 0)).getD x183.toNat T.u) 0) then
       bif inR (IntKind.wrap .i64 (x183 - 1)) ((asL (T.cell (x178.getD x180.toNat T.u) 0)).length) then
       bif !(asB (T.cell ((asL (T.cell (x178.getD x180.toNat T.u) 0)).getD ((IntKind.wrap .i64 (x183 - 1)).toNat) T.u) 0)) then
        some [T.i .i64 0, T.b false]
       else
        L (IntKind.wrap .i64 (x183 + 1))
       else none
      else
       L (IntKind.wrap .i64 (x183 + 1))
     else
      L (IntKind.wrap .i64 (x183 + 1))
   else
    bif iLt 0 x183 then
     bif asB (T.cell ((asL (T.cell (x178.getD x180.toNat T.u) 0)).getD x183.toNat T.u) 0) then
      bif inR (IntKind.wrap .i64 (x183 - 1)) ((asL (T.cell (x178.getD x180.toNat T.u) 0)).length) then
      bif !(asB (T.cell ((asL (T.cell (x178.getD x180.toNat T.u) 0)).getD ((IntKind.wrap .i64 (x183 - 1)).toNat) T.u) 0)) then
       some [T.i .i64 0, T.b false]
      else
       L (IntKind.wrap .i64 (x183 + 1))
      else none
     else
      L (IntKind.wrap .i64 (x183 + 1))
    else
     L (IntKind.wrap .i64 (x183 + 1))
  else none
 else
  some [T.i .i64 1, T.sl x178, T.i .i64 x179, T.i .i64 x180, T.sl x181]
def f83_1_c (x178 : List T) (x179 x180 : Int) (x181 : List T) (x183 : Int) : CSt := ⟨[.bp 1 0, .bp 2 0, .ro 0 true [.sl true [.b, .sl false [.i .u8]], .i .i64, .b] x178, .i .i64 x179, .i .i64 x180, .ro 0 true [.b, .sl false [.i .u8]] (asL (T.cell (x178.getD x180.toNat T.u) 0)), .i .i64 ((asL (T.cell (x178.getD x180.toNat T.u) 0)).length : Int), .i .i64 x183], [.dead, .box [.ro 0 true [.sl true [.b, .sl false [.i .u8]], .i .i64, .b] x181], .box [.ro 0 true [.b, .sl false [.i .u8]] (asL (T.cell (x178.getD x180.toNat T.u) 0)), .i .i64 (asI (T.cell (x178.getD x180.toNat T.u) 1)), .b (asB (T.cell (x178.getD x180.toNat T.u) 2))]]⟩
theorem f83_1_round (c : Orc) (lf : Nat) (x178 : List T) (x179 x180 : Int) (x181 : List T) (L : CSt → Option (List T)) (x183 : Int) :
 roundK c env lf 6 fi83 1 7 [] [1, 4, 8, 9, 10, 25, 26, 27] (x83_7_0) L (f83_1_c x178 x179 x180 x181 x183) = f83_1_s c lf x178 x179 x180 x181 (fun x183 => L (f83_1_c x178 x179 x180 x181 x183)) x183 := by kernel_rfl
def f83_1 (c : Orc) (lf : Nat) (x178 : List T) (x179 x180 : Int) (x181 : List T) : Nat → Int → Option (List T)
 | 0 => fun _ => none
 | n + 1 => fun x183 => f83_1_s c lf x178 x179 x180 x181 (f83_1 c lf x178 x179 x180 x181 n) x183
theorem f83_1_u (c : Orc) (lf : Nat) (x178 : List T) (x179 x180 : Int) (x181 : List T) (n : Nat) (x183 : Int) : f83_1 c lf x178 x179 x180 x181 (n + 1) x183 = f83_1_s c lf x178 x179 x180 x181 (f83_1 c lf x178 x179 x180 x181 n) x183 := rfl
theorem f83_1_eq (c : Orc) (lf : Nat) (x178 : List T) (x179 x180 : Int) (x181 : List T) (n : Nat) (x183 : Int) :
 lpK c env lf 6 fi83 1 7 [] [1, 4, 8, 9, 10, 25, 26, 27] (x83_7_0) n (f83_1_c x178 x179 x180 x181 x183) = f83_1 c lf x178 x179 x180 x181 n x183 := by
 induction n generalizing x183 with
 | zero => rfl
 | succ n ih =>
  refine (f83_1_round c lf x178 x179 x180 x181 _ x183).trans ?_
  have e : (fun x183 => lpK c env lf 6 fi83 1 7 [] [1, 4, 8, 9, 10, 25, 26, 27] (x83_7_0) n (f83_1_c x178 x179 x180 x181 x183)) = f83_1 c lf x178 x179 x180 x181 n := by funext x183; exact ih x183
  show f83_1_s c lf x178 x179 x180 x181 (fun x183 => lpK c env lf 6 fi83 1 7 [] [1, 4, 8, 9, 10, 25, 26, 27] (x83_7_0) n (f83_1_c x178 x179 x180 x181 x183)) x183 = _
  rw [e]; rfl
def f83_0_s (c : Orc) (lf : Nat) (L : List T → Int → Int → List T → Option (List T)) (lp0 : List T → Int → Int → List T → Int → Option (List T)) (x178 : List T) (x179 x180 : Int) (x181 : List T) : Option (List T) :=
 bif iLt x180 x179 then
  bif inR x180 x178.length then
  bif ((asL (T.cell (x178.getD x180.toNat T.u) 0)).length : Int) != 8 then
   some [T.i .i64 0, T.b false]
  else
   (c 58 [T.i .i64 (asI (T.cell (x178.getD x180.toNat T.u) 1)), T.i .i64 0, T.i .i64 100000]).bind fun r182 =>
   bif !(asB (nth r182 0)) then
    some [T.i .i64 0, T.b false]
   else
    (lp0 x178 x179 x180 x181 0).bind fun r184 =>
    bif asI (nth r184 0) == 0 then
     some [T.i .i64 0, T.b (asB (nth r184 1))]
    else
     L (asL (nth r184 1)) (asI (nth r184 2)) (IntKind.wrap .i64 ((asI (nth r184 3)) + 1)) (asL (nth r184 4))
  else none
 else
  some [T.i .i64 1, T.sl x181]
def f83_0_c (x178 : List T) (x179 x180 : Int) (x181 : List T) : CSt := ⟨[.bp 1 0, .ro 0 true [.sl true [.b, .sl false [.i .u8]], .i .i64, .b] x178, .i .i64 x179, .i .i64 x180], [.dead, .box [.ro 0 true [.sl true [.b, .sl false [.i .u8]], .i .i64, .b] x181]]⟩
theorem f83_0_round (c : Orc) (lf : Nat) (L : CSt → Option (List T)) (x178 : List T) (x179 x180 : Int) (x181 : List T) :
 roundK c env lf 6 fi83 1 2 [] [1, 8, 9, 10] (x83_2_0) L (f83_0_c x178 x179 x180 x181) = f83_0_s c lf (fun x178 x179 x180 x181 => L (f83_0_c x178 x179 x180 x181)) (fun (x178 : List T) (x179 x180 : Int) (x181 : List T) (x183 : Int) => lpK c env lf 6 fi83 1 7 [] [1, 4, 8, 9, 10, 25, 26, 27] (x83_7_0) lf (f83_1_c x178 x179 x180 x181 x183)) x178 x179 x180 x181 := by kernel_rfl
def f83_0 (c : Orc) (lf : Nat) : Nat → List T → Int → Int → List T → Option (List T)
 | 0 => fun _ _ _ _ => none
 | n + 1 => fun x178 x179 x180 x181 => f83_0_s c lf (f83_0 c lf n) (fun (x178 : List T) (x179 x180 : Int) (x181 : List T) (x183 : Int) => f83_1 c lf x178 x179 x180 x181 lf x183) x178 x179 x180 x181
theorem f83_0_u (c : Orc) (lf n : Nat) (x178 : List T) (x179 x180 : Int) (x181 : List T) : f83_0 c lf (n + 1) x178 x179 x180 x181 = f83_0_s c lf (f83_0 c lf n) (fun (x178 : List T) (x179 x180 : Int) (x181 : List T) (x183 : Int) => f83_1 c lf x178 x179 x180 x181 lf x183) x178 x179 x180 x181 := rfl
theorem f83_0_eq (c : Orc) (lf n : Nat) (x178 : List T) (x179 x180 : Int) (x181 : List T) :
 lpK c env lf 6 fi83 1 2 [] [1, 8, 9, 10] (x83_2_0) n (f83_0_c x178 x179 x180 x181) = f83_0 c lf n x178 x179 x180 x181 := by
 induction n generalizing x178 x179 x180 x181 with
 | zero => rfl
 | succ n ih =>
  refine (f83_0_round c lf _ x178 x179 x180 x181).trans ?_
  have e : (fun x178 x179 x180 x181 => lpK c env lf 6 fi83 1 2 [] [1, 8, 9, 10] (x83_2_0) n (f83_0_c x178 x179 x180 x181)) = f83_0 c lf n := by funext x178 x179 x180 x181; exact ih x178 x179 x180 x181
  have e0 : (fun (x178 : List T) (x179 x180 : Int) (x181 : List T) (x183 : Int) => lpK c env lf 6 fi83 1 7 [] [1, 4, 8, 9, 10, 25, 26, 27] (x83_7_0) lf (f83_1_c x178 x179 x180 x181 x183)) = (fun (x178 : List T) (x179 x180 : Int) (x181 : List T) (x183 : Int) => f83_1 c lf x178 x179 x180 x181 lf x183) := by funext x178 x179 x180 x181 x183; exact f83_1_eq c lf x178 x179 x180 x181 lf x183
  show f83_0_s c lf (fun x178 x179 x180 x181 => lpK c env lf 6 fi83 1 2 [] [1, 8, 9, 10] (x83_2_0) n (f83_0_c x178 x179 x180 x181)) (fun (x178 : List T) (x179 x180 : Int) (x181 : List T) (x183 : Int) => lpK c env lf 6 fi83 1 7 [] [1, 4, 8, 9, 10, 25, 26, 27] (x83_7_0) lf (f83_1_c x178 x179 x180 x181 x183)) x178 x179 x180 x181 = _
  rw [e, e0]; rfl
def f83_t (c : Orc) (lf : Nat) (lp0 : List T → Int → Int → List T → Option (List T)) (l0_0 : List T) : Option (List T) :=
 (lp0 l0_0 (l0_0.length : Int) 0 l0_0).bind fun r185 =>
 bif asI (nth r185 0) == 0 then
  some [T.b (asB (nth r185 1))]
 else
  (c 58 [T.i .i64 ((asL (nth r185 1)).length : Int), T.i .i64 3, T.i .i64 24]).bind fun r186 =>
  some [T.b (asB (nth r186 0))]
def f83 (c : Orc) (lf : Nat) (l0_0 : List T) : Option (List T) := f83_t c lf (fun (x178 : List T) (x179 x180 : Int) (x181 : List T) => f83_0 c lf lf x178 x179 x180 x181) l0_0
theorem f83_raw (c : Orc) (lf : Nat) (l0_0 : List T) : funK c env lf 6 fi83 [.st [.sl l0_0]] = f83_t c lf (fun (x178 : List T) (x179 x180 : Int) (x181 : List T) => lpK c env lf 6 fi83 1 2 [] [1, 8, 9, 10] (x83_2_0) lf (f83_0_c x178 x179 x180 x181)) l0_0 := by kernel_rfl
theorem f83_eq (c : Orc) (lf : Nat) (l0_0 : List T) : funK c env lf 6 fi83 [.st [.sl l0_0]] = f83 c lf l0_0 := by
 refine (f83_raw c lf l0_0).trans ?_
 have e0 : (fun (x178 : List T) (x179 x180 : Int) (x181 : List T) => lpK c env lf 6 fi83 1 2 [] [1, 8, 9, 10] (x83_2_0) lf (f83_0_c x178 x179 x180 x181)) = (fun (x178 : List T) (x179 x180 : Int) (x181 : List T) => f83_0 c lf lf x178 x179 x180 x181) := by funext x178 x179 x180 x181; exact f83_0_eq c lf lf x178 x179 x180 x181
 rw [e0]; rfl
def f42_0_s (c : Orc) (lf : Nat) (b0_3 : Bool) (l0_0 l0_2 : List T) (n0_1 : Int) (L : Int → Option (List T)) (x200 : Int) : Option (List T) :=
 bif iLt x200 (l0_2.length : Int) then
  bif inR x200 l0_2.length then
  (c 58 [T.i .i64 (asI (T.cell (l0_2.getD x200.toNat T.u) 0)), T.i .i64 0, T.i .i64 100000]).bind fun r201 =>
  bif !(asB (nth r201 0)) then
   some [T.i .i64 0, T.b false]
  else
   (c 58 [T.i .i64 (asI (T.cell (l0_2.getD x200.toNat T.u) 1)), T.i .i64 1, T.i .i64 2]).bind fun r202 =>
   bif !(asB (nth r202 0)) then
    some [T.i .i64 0, T.b false]
   else
    (c 58 [T.i .i64 (asI (T.cell (l0_2.getD x200.toNat T.u) 2)), T.i .i64 0, T.i .i64 400]).bind fun r203 =>
    bif !(asB (nth r203 0)) then
     some [T.i .i64 0, T.b false]
    else
     bif iLt 0 x200 then
      bif inR (IntKind.wrap .i64 (x200 - 1)) l0_2.length then
      bif iLe (asI (T.cell (l0_2.getD x200.toNat T.u) 0)) (asI (T.cell (l0_2.getD ((IntKind.wrap .i64 (x200 - 1)).toNat) T.u) 0)) then
       some [T.i .i64 0, T.b false]
      else
       L (IntKind.wrap .i64 (x200 + 1))
      else none
     else
      L (IntKind.wrap .i64 (x200 + 1))
  else none
 else
  some [T.i .i64 1, T.sl l0_0, T.i .i64 n0_1, T.sl l0_2, T.b b0_3]
def f42_0_c (b0_3 : Bool) (l0_0 l0_2 : List T) (n0_1 x200 : Int) : CSt := ⟨[.bp 4 0, .ro 0 true [.i .i64, .i .i64, .i .i64] l0_2, .i .i64 (l0_2.length : Int), .i .i64 x200], [.dead, .dead, .dead, .dead, .box [.ro 0 true [.sl true [.b, .sl false [.i .u8]], .i .i64, .b] l0_0, .i .i64 n0_1, .ro 0 true [.i .i64, .i .i64, .i .i64] l0_2, .b b0_3]]⟩
theorem f42_0_round (c : Orc) (lf : Nat) (b0_3 : Bool) (l0_0 l0_2 : List T) (n0_1 : Int) (L : CSt → Option (List T)) (x200 : Int) :
 roundK c env lf 6 fi42 4 2 [] [1, 6, 7, 8] (x42_2_0) L (f42_0_c b0_3 l0_0 l0_2 n0_1 x200) = f42_0_s c lf b0_3 l0_0 l0_2 n0_1 (fun x200 => L (f42_0_c b0_3 l0_0 l0_2 n0_1 x200)) x200 := by kernel_rfl
def f42_0 (c : Orc) (lf : Nat) (b0_3 : Bool) (l0_0 l0_2 : List T) (n0_1 : Int) : Nat → Int → Option (List T)
 | 0 => fun _ => none
 | n + 1 => fun x200 => f42_0_s c lf b0_3 l0_0 l0_2 n0_1 (f42_0 c lf b0_3 l0_0 l0_2 n0_1 n) x200
theorem f42_0_u (c : Orc) (lf : Nat) (b0_3 : Bool) (l0_0 l0_2 : List T) (n0_1 : Int) (n : Nat) (x200 : Int) : f42_0 c lf b0_3 l0_0 l0_2 n0_1 (n + 1) x200 = f42_0_s c lf b0_3 l0_0 l0_2 n0_1 (f42_0 c lf b0_3 l0_0 l0_2 n0_1 n) x200 := rfl
theorem f42_0_eq (c : Orc) (lf : Nat) (b0_3 : Bool) (l0_0 l0_2 : List T) (n0_1 : Int) (n : Nat) (x200 : Int) :
 lpK c env lf 6 fi42 4 2 [] [1, 6, 7, 8] (x42_2_0) n (f42_0_c b0_3 l0_0 l0_2 n0_1 x200) = f42_0 c lf b0_3 l0_0 l0_2 n0_1 n x200 := by
 induction n generalizing x200 with
 | zero => rfl
 | succ n ih =>
  refine (f42_0_round c lf b0_3 l0_0 l0_2 n0_1 _ x200).trans ?_
  have e : (fun x200 => lpK c env lf 6 fi42 4 2 [] [1, 6, 7, 8] (x42_2_0) n (f42_0_c b0_3 l0_0 l0_2 n0_1 x200)) = f42_0 c lf b0_3 l0_0 l0_2 n0_1 n := by funext x200; exact ih x200
  show f42_0_s c lf b0_3 l0_0 l0_2 n0_1 (fun x200 => lpK c env lf 6 fi42 4 2 [] [1, 6, 7, 8] (x42_2_0) n (f42_0_c b0_3 l0_0 l0_2 n0_1 x200)) x200 = _
  rw [e]; rfl
def f42_t (c : Orc) (lf : Nat) (lp0 : Bool → List T → List T → Int → Int → Option (List T)) (l0_0 : List T) (n0_1 : Int) (l0_2 : List T) (b0_3 : Bool) : Option (List T) :=
 (lp0 b0_3 l0_0 l0_2 n0_1 0).bind fun r204 =>
 bif asI (nth r204 0) == 0 then
  some [T.b (asB (nth r204 1))]
 else
  (c 83 [T.st [T.sl (asL (nth r204 1))]]).bind fun r205 =>
  bif asB (nth r205 0) then
   (c 58 [T.i .i64 (asI (nth r204 2)), T.i .i64 0, T.i .i64 100000]).bind fun r206 =>
   bif asB (nth r206 0) then
    some [T.b (iLe ((asL (nth r204 3)).length : Int) 20)]
   else
    some [T.b false]
  else
   some [T.b false]
def f42 (c : Orc) (lf : Nat) (l0_0 : List T) (n0_1 : Int) (l0_2 : List T) (b0_3 : Bool) : Option (List T) := f42_t c lf (fun (b0_3 : Bool) (l0_0 l0_2 : List T) (n0_1 x200 : Int) => f42_0 c lf b0_3 l0_0 l0_2 n0_1 lf x200) l0_0 n0_1 l0_2 b0_3
theorem f42_raw (c : Orc) (lf : Nat) (l0_0 : List T) (n0_1 : Int) (l0_2 : List T) (b0_3 : Bool) : funK c env lf 6 fi42 [.st [.sl l0_0, .i .i64 n0_1, .sl l0_2, .b b0_3]] = f42_t c lf (fun (b0_3 : Bool) (l0_0 l0_2 : List T) (n0_1 x200 : Int) => lpK c env lf 6 fi42 4 2 [] [1, 6, 7, 8] (x42_2_0) lf (f42_0_c b0_3 l0_0 l0_2 n0_1 x200)) l0_0 n0_1 l0_2 b0_3 := by kernel_rfl
theorem f42_eq (c : Orc) (lf : Nat) (l0_0 : List T) (n0_1 : Int) (l0_2 : List T) (b0_3 : Bool) : funK c env lf 6 fi42 [.st [.sl l0_0, .i .i64 n0_1, .sl l0_2, .b b0_3]] = f42 c lf l0_0 n0_1 l0_2 b0_3 := by
 refine (f42_raw c lf l0_0 n0_1 l0_2 b0_3).trans ?_
 have e0 : (fun (b0_3 : Bool) (l0_0 l0_2 : List T) (n0_1 x200 : Int) => lpK c env lf 6 fi42 4 2 [] [1, 6, 7, 8] (x42_2_0) lf (f42_0_c b0_3 l0_0 l0_2 n0_1 x200)) = (fun (b0_3 : Bool) (l0_0 l0_2 : List T) (n0_1 x200 : Int) => f42_0 c lf b0_3 l0_0 l0_2 n0_1 lf x200) := by funext b0_3 l0_0 l0_2 n0_1 x200; exact f42_0_eq c lf b0_3 l0_0 l0_2 n0_1 lf x200
 rw [e0]; rfl
def f15_t (c : Orc) (lf : Nat) (n0 : Int) (l1 : List T) : Option (List T) :=
 (c 40 [T.i .i64 n0]).bind fun r207 =>
 (c 41 [T.sl l1]).bind fun r208 =>
 (c 42 [T.st [T.sl (asL (T.cell (nth r207 0) 0)), T.i .i64 0, T.sl (asL (nth r208 0)), T.b false]]).bind fun r209 =>
 bif !(asB (nth r209 0)) then
  some [T.st [T.sl [], T.i .i64 0, T.sl [], T.b false]]
 else
  some [T.st [T.sl (asL (T.cell (nth r207 0) 0)), T.i .i64 0, T.sl (asL (nth r208 0)), T.b false]]
def f15 (c : Orc) (lf : Nat) (n0 : Int) (l1 : List T) : Option (List T) := f15_t c lf n0 l1
theorem f15_eq (c : Orc) (lf : Nat) (n0 : Int) (l1 : List T) : funK c env lf 6 fi15 [.i .i64 n0, .sl l1] = f15 c lf n0 l1 := by kernel_rfl
def f22_0_s (c : Orc) (lf : Nat) (l0_0 : List T) (n0_1 : Int) (L : Unit → Option (List T)) : Option (List T) :=
 bif iLt 0 (l0_0.length : Int) then
  bif inR 0 l0_0.length then
  bif iLt (asI (T.cell (l0_0.getD 0 T.u) 0)) 1 then
   some [T.i .i64 0, T.b false]
  else
   bif iLe n0_1 (asI (T.cell (l0_0.getD 0 T.u) 0)) then
   some [T.i .i64 0, T.b false]
   else none
  else none
 else
  some [T.i .i64 1]
def f22_0_c (l0_0 : List T) (n0_1 : Int) : CSt := ⟨[.bp 2 0, .ro 0 true [.i .i64, .s, .b, .i .i64, .sl true [.i .i64, .i .i64, .i .i64, .sl false [.i .u8], .sl true [.s, .i .i64], .sl true [.s, .s]], .i .i64] l0_0, .i .i64 (l0_0.length : Int), .i .i64 0], [.dead, .dead, .box [.ro 0 true [.i .i64, .s, .b, .i .i64, .sl true [.i .i64, .i .i64, .i .i64, .sl false [.i .u8], .sl true [.s, .i .i64], .sl true [.s, .s]], .i .i64] l0_0, .i .i64 n0_1]]⟩
theorem f22_0_round (c : Orc) (lf : Nat) (l0_0 : List T) (n0_1 : Int) (L : CSt → Option (List T)) :
 roundK c env lf 6 fi22 2 4 [] [1, 16, 17, 18] (x22_4_0) L (f22_0_c l0_0 n0_1) = f22_0_s c lf l0_0 n0_1 (fun _ => L (f22_0_c l0_0 n0_1)) := by kernel_rfl
def f22_0 (c : Orc) (lf : Nat) (l0_0 : List T) (n0_1 : Int) : Nat → Unit → Option (List T)
 | 0 => fun _ => none
 | n + 1 => fun _ => f22_0_s c lf l0_0 n0_1 (f22_0 c lf l0_0 n0_1 n)
theorem f22_0_eq (c : Orc) (lf : Nat) (l0_0 : List T) (n0_1 : Int) (n : Nat) :
 lpK c env lf 6 fi22 2 4 [] [1, 16, 17, 18] (x22_4_0) n (f22_0_c l0_0 n0_1) = f22_0 c lf l0_0 n0_1 n () := by
 induction n with
 | zero => rfl
 | succ n ih =>
  refine (f22_0_round c lf l0_0 n0_1 _).trans ?_
  have e : (fun (_ : Unit) => lpK c env lf 6 fi22 2 4 [] [1, 16, 17, 18] (x22_4_0) n (f22_0_c l0_0 n0_1)) = f22_0 c lf l0_0 n0_1 n := by funext _; exact ih
  show f22_0_s c lf l0_0 n0_1 (fun _ => lpK c env lf 6 fi22 2 4 [] [1, 16, 17, 18] (x22_4_0) n (f22_0_c l0_0 n0_1)) = _
  rw [e]; rfl
def f22_t (c : Orc) (lf : Nat) (lp0 : List T → Int → Option (List T)) (l0_0 : List T) (n0_1 : Int) : Option (List T) :=
 bif iLt 6 (l0_0.length : Int) then
  some [T.b false]
 else
  (c 58 [T.i .i64 n0_1, T.i .i64 1, T.i .i64 99]).bind fun r212 =>
  bif !(asB (nth r212 0)) then
   some [T.b false]
  else
   (lp0 l0_0 n0_1).bind fun r213 =>
   bif asI (nth r213 0) == 0 then
    some [T.b (asB (nth r213 1))]
   else
    some [T.b true]
def f22 (c : Orc) (lf : Nat) (l0_0 : List T) (n0_1 : Int) : Option (List T) := f22_t c lf (fun (l0_0 : List T) (n0_1 : Int) => f22_0 c lf l0_0 n0_1 lf ()) l0_0 n0_1
theorem f22_raw (c : Orc) (lf : Nat) (l0_0 : List T) (n0_1 : Int) : funK c env lf 6 fi22 [.st [.sl l0_0, .i .i64 n0_1]] = f22_t c lf (fun (l0_0 : List T) (n0_1 : Int) => lpK c env lf 6 fi22 2 4 [] [1, 16, 17, 18] (x22_4_0) lf (f22_0_c l0_0 n0_1)) l0_0 n0_1 := by kernel_rfl
theorem f22_eq (c : Orc) (lf : Nat) (l0_0 : List T) (n0_1 : Int) : funK c env lf 6 fi22 [.st [.sl l0_0, .i .i64 n0_1]] = f22 c lf l0_0 n0_1 := by
 refine (f22_raw c lf l0_0 n0_1).trans ?_
 have e0 : (fun (l0_0 : List T) (n0_1 : Int) => lpK c env lf 6 fi22 2 4 [] [1, 16, 17, 18] (x22_4_0) lf (f22_0_c l0_0 n0_1)) = (fun (l0_0 : List T) (n0_1 : Int) => f22_0 c lf l0_0 n0_1 lf ()) := by funext l0_0 n0_1; exact f22_0_eq c lf l0_0 n0_1 lf
 rw [e0]; rfl
def f95_t (c : Orc) (lf : Nat) (l0_0 : List T) (n1 : Int) : Option (List T) :=
 (c 58 [T.i .i64 n1, T.i .i64 0, T.i .i64 (IntKind.wrap .i64 ((l0_0.length : Int) - 1))]).bind fun r214 =>
 some [T.b (asB (nth r214 0))]
def f95 (c : Orc) (lf : Nat) (l0_0 : List T) (n1 : Int) : Option (List T) := f95_t c lf l0_0 n1
theorem f95_eq (c : Orc) (lf : Nat) (l0_0 : List T) (n1 : Int) : funK c env lf 6 fi95 [.st [.sl l0_0], .i .i64 n1] = f95 c lf l0_0 n1 := by kernel_rfl
def f144_t (c : Orc) (lf : Nat) (l0_0 : List T) (n1 n2 : Int) : Option (List T) :=
 (c 95 [T.st [T.sl l0_0], T.i .i64 n1]).bind fun r215 =>
 bif !(asB (nth r215 0)) then
  some [T.sl [], T.b false]
 else
  bif inR n1 l0_0.length then
  (c 58 [T.i .i64 n2, T.i .i64 0, T.i .i64 (IntKind.wrap .i64 (((asL (T.cell (l0_0.getD n1.toNat T.u) 0)).length : Int) - 1))]).bind fun r216 =>
  bif !(asB (nth r216 0)) then
   some [T.sl [], T.b false]
  else
   bif inR n1 l0_0.length then
   bif inR n2 ((asL (T.cell (l0_0.getD n1.toNat T.u) 0)).length) then
   bif !(asB (T.cell ((asL (T.cell (l0_0.getD n1.toNat T.u) 0)).getD n2.toNat T.u) 0)) then
    some [T.sl [], T.b false]
   else
    bif inR n1 l0_0.length then
    bif inR n2 ((asL (T.cell (l0_0.getD n1.toNat T.u) 0)).length) then
    (c 54 [T.sl (asL (T.cell ((asL (T.cell (l0_0.getD n1.toNat T.u) 0)).getD n2.toNat T.u) 1))]).bind fun r217 =>
    some [T.sl (asL (nth r217 0)), T.b true]
    else none
    else none
   else none
   else none
  else none
def f144 (c : Orc) (lf : Nat) (l0_0 : List T) (n1 n2 : Int) : Option (List T) := f144_t c lf l0_0 n1 n2
theorem f144_eq (c : Orc) (lf : Nat) (l0_0 : List T) (n1 n2 : Int) : funK c env lf 6 fi144 [.st [.sl l0_0], .i .i64 n1, .i .i64 n2] = f144 c lf l0_0 n1 n2 := by kernel_rfl
def f157_1_s (c : Orc) (lf : Nat) (x233 : List T) (x234 x235 : Int) (L : Int → Int → Option (List T)) (x236 x237 : Int) : Option (List T) :=
 bif iLt x237 8 then
  bif (intBits .and .u32 x236 1) == 1 then
   L (intBits .xor .u32 (shiftI .shr .u32 x236 1) 2197175160) (IntKind.wrap .i64 (x237 + 1))
  else
   L (shiftI .shr .u32 x236 1) (IntKind.wrap .i64 (x237 + 1))
 else
  some [T.i .i64 0, T.i .u32 x236, T.sl x233, T.i .i64 x234, T.i .i64 x235]
def f157_1_c (x233 : List T) (x234 x235 : Int) (x236 x237 : Int) : CSt := ⟨[.i .u32 x236, .ro 0 false [.i .u8] x233, .i .i64 x234, .i .i64 x235, .i .i64 x237], [.dead]⟩
theorem f157_1_round (c : Orc) (lf : Nat) (x233 : List T) (x234 x235 : Int) (L : CSt → Option (List T)) (x236 x237 : Int) :
 roundK c env lf 6 fi157 1 7 [] [3, 7, 8, 9, 17] (x157_7_0) L (f157_1_c x233 x234 x235 x236 x237) = f157_1_s c lf x233 x234 x235 (fun x236 x237 => L (f157_1_c x233 x234 x235 x236 x237)) x236 x237 := by kernel_rfl
def f157_1 (c : Orc) (lf : Nat) (x233 : List T) (x234 x235 : Int) : Nat → Int → Int → Option (List T)
 | 0 => fun _ _ => none
 | n + 1 => fun x236 x237 => f157_1_s c lf x233 x234 x235 (f157_1 c lf x233 x234 x235 n) x236 x237
theorem f157_1_u (c : Orc) (lf : Nat) (x233 : List T) (x234 x235 : Int) (n : Nat) (x236 x237 : Int) : f157_1 c lf x233 x234 x235 (n + 1) x236 x237 = f157_1_s c lf x233 x234 x235 (f157_1 c lf x233 x234 x235 n) x236 x237 := rfl
theorem f157_1_eq (c : Orc) (lf : Nat) (x233 : List T) (x234 x235 : Int) (n : Nat) (x236 x237 : Int) :
 lpK c env lf 6 fi157 1 7 [] [3, 7, 8, 9, 17] (x157_7_0) n (f157_1_c x233 x234 x235 x236 x237) = f157_1 c lf x233 x234 x235 n x236 x237 := by
 induction n generalizing x236 x237 with
 | zero => rfl
 | succ n ih =>
  refine (f157_1_round c lf x233 x234 x235 _ x236 x237).trans ?_
  have e : (fun x236 x237 => lpK c env lf 6 fi157 1 7 [] [3, 7, 8, 9, 17] (x157_7_0) n (f157_1_c x233 x234 x235 x236 x237)) = f157_1 c lf x233 x234 x235 n := by funext x236 x237; exact ih x236 x237
  show f157_1_s c lf x233 x234 x235 (fun x236 x237 => lpK c env lf 6 fi157 1 7 [] [3, 7, 8, 9, 17] (x157_7_0) n (f157_1_c x233 x234 x235 x236 x237)) x236 x237 = _
  rw [e]; rfl
def f157_0_s (c : Orc) (lf : Nat) (L : Int → List T → Int → Int → Option (List T)) (lp0 : List T → Int → Int → Int → Int → Option (List T)) (x232 : Int) (x233 : List T) (x234 x235 : Int) : Option (List T) :=
 bif iLt x235 x234 then
  bif inR x235 x233.length then
  (lp0 x233 x234 x235 (intBits .xor .u32 x232 (IntKind.wrap .u32 (asI (x233.getD x235.toNat T.u)))) 0).bind fun r238 =>
  L (asI (nth r238 1)) (asL (nth r238 2)) (asI (nth r238 3)) (IntKind.wrap .i64 ((asI (nth r238 4)) + 1))
  else none
 else
  some [T.i .i64 0, T.i .u32 x232]
def f157_0_c (x232 : Int) (x233 : List T) (x234 x235 : Int) : CSt := ⟨[.i .u32 x232, .ro 0 false [.i .u8] x233, .i .i64 x234, .i .i64 x235], [.dead]⟩
theorem f157_0_round (c : Orc) (lf : Nat) (L : CSt → Option (List T)) (x232 : Int) (x233 : List T) (x234 x235 : Int) :
 roundK c env lf 6 fi157 1 3 [] [3, 7, 8, 9] (x157_3_0) L (f157_0_c x232 x233 x234 x235) = f157_0_s c lf (fun x232 x233 x234 x235 => L (f157_0_c x232 x233 x234 x235)) (fun (x233 : List T) (x234 x235 : Int) (x236 x237 : Int) => lpK c env lf 6 fi157 1 7 [] [3, 7, 8, 9, 17] (x157_7_0) lf (f157_1_c x233 x234 x235 x236 x237)) x232 x233 x234 x235 := by kernel_rfl
def f157_0 (c : Orc) (lf : Nat) : Nat → Int → List T → Int → Int → Option (List T)
 | 0 => fun _ _ _ _ => none
 | n + 1 => fun x232 x233 x234 x235 => f157_0_s c lf (f157_0 c lf n) (fun (x233 : List T) (x234 x235 : Int) (x236 x237 : Int) => f157_1 c lf x233 x234 x235 lf x236 x237) x232 x233 x234 x235
theorem f157_0_u (c : Orc) (lf n : Nat) (x232 : Int) (x233 : List T) (x234 x235 : Int) : f157_0 c lf (n + 1) x232 x233 x234 x235 = f157_0_s c lf (f157_0 c lf n) (fun (x233 : List T) (x234 x235 : Int) (x236 x237 : Int) => f157_1 c lf x233 x234 x235 lf x236 x237) x232 x233 x234 x235 := rfl
theorem f157_0_eq (c : Orc) (lf n : Nat) (x232 : Int) (x233 : List T) (x234 x235 : Int) :
 lpK c env lf 6 fi157 1 3 [] [3, 7, 8, 9] (x157_3_0) n (f157_0_c x232 x233 x234 x235) = f157_0 c lf n x232 x233 x234 x235 := by
 induction n generalizing x232 x233 x234 x235 with
 | zero => rfl
 | succ n ih =>
  refine (f157_0_round c lf _ x232 x233 x234 x235).trans ?_
  have e : (fun x232 x233 x234 x235 => lpK c env lf 6 fi157 1 3 [] [3, 7, 8, 9] (x157_3_0) n (f157_0_c x232 x233 x234 x235)) = f157_0 c lf n := by funext x232 x233 x234 x235; exact ih x232 x233 x234 x235
  have e0 : (fun (x233 : List T) (x234 x235 : Int) (x236 x237 : Int) => lpK c env lf 6 fi157 1 7 [] [3, 7, 8, 9, 17] (x157_7_0) lf (f157_1_c x233 x234 x235 x236 x237)) = (fun (x233 : List T) (x234 x235 : Int) (x236 x237 : Int) => f157_1 c lf x233 x234 x235 lf x236 x237) := by funext x233 x234 x235 x236 x237; exact f157_1_eq c lf x233 x234 x235 lf x236 x237
  show f157_0_s c lf (fun x232 x233 x234 x235 => lpK c env lf 6 fi157 1 3 [] [3, 7, 8, 9] (x157_3_0) n (f157_0_c x232 x233 x234 x235)) (fun (x233 : List T) (x234 x235 : Int) (x236 x237 : Int) => lpK c env lf 6 fi157 1 7 [] [3, 7, 8, 9, 17] (x157_7_0) lf (f157_1_c x233 x234 x235 x236 x237)) x232 x233 x234 x235 = _
  rw [e, e0]; rfl
def f157_t (c : Orc) (lf : Nat) (lp0 : Int → List T → Int → Int → Option (List T)) (l0 : List T) : Option (List T) :=
 (lp0 4294967295 l0 (l0.length : Int) 0).bind fun r239 =>
 some [T.i .i64 (IntKind.wrap .i64 (intBits .xor .u32 4294967295 (asI (nth r239 1))))]
def f157 (c : Orc) (lf : Nat) (l0 : List T) : Option (List T) := f157_t c lf (fun (x232 : Int) (x233 : List T) (x234 x235 : Int) => f157_0 c lf lf x232 x233 x234 x235) l0
theorem f157_raw (c : Orc) (lf : Nat) (l0 : List T) : funK c env lf 6 fi157 [.sl l0] = f157_t c lf (fun (x232 : Int) (x233 : List T) (x234 x235 : Int) => lpK c env lf 6 fi157 1 3 [] [3, 7, 8, 9] (x157_3_0) lf (f157_0_c x232 x233 x234 x235)) l0 := by kernel_rfl
theorem f157_eq (c : Orc) (lf : Nat) (l0 : List T) : funK c env lf 6 fi157 [.sl l0] = f157 c lf l0 := by
 refine (f157_raw c lf l0).trans ?_
 have e0 : (fun (x232 : Int) (x233 : List T) (x234 x235 : Int) => lpK c env lf 6 fi157 1 3 [] [3, 7, 8, 9] (x157_3_0) lf (f157_0_c x232 x233 x234 x235)) = (fun (x232 : Int) (x233 : List T) (x234 x235 : Int) => f157_0 c lf lf x232 x233 x234 x235) := by funext x232 x233 x234 x235; exact f157_0_eq c lf lf x232 x233 x234 x235
 rw [e0]; rfl
def f99_t (c : Orc) (lf : Nat) (l0 : List T) : Option (List T) :=
 (c 157 [T.sl l0]).bind fun r240 =>
 (c 54 [T.sl l0]).bind fun r241 =>
 bif nLe ((asL (nth r241 0)).length + ([T.i .u8 (IntKind.wrap .u8 (shiftI .shr .i64 (asI (nth r240 0)) 24)), T.i .u8 (IntKind.wrap .u8 (shiftI .shr .i64 (asI (nth r240 0)) 16)), T.i .u8 (IntKind.wrap .u8 (shiftI .shr .i64 (asI (nth r240 0)) 8)), T.i .u8 (IntKind.wrap .u8 (asI (nth r240 0)))] : List T).length) LIM then
 some [T.sl ((asL (nth r241 0)) ++ ([T.i .u8 (IntKind.wrap .u8 (shiftI .shr .i64 (asI (nth r240 0)) 24)), T.i .u8 (IntKind.wrap .u8 (shiftI .shr .i64 (asI (nth r240 0)) 16)), T.i .u8 (IntKind.wrap .u8 (shiftI .shr .i64 (asI (nth r240 0)) 8)), T.i .u8 (IntKind.wrap .u8 (asI (nth r240 0)))] : List T))]
 else none
def f99 (c : Orc) (lf : Nat) (l0 : List T) : Option (List T) := f99_t c lf l0
theorem f99_eq (c : Orc) (lf : Nat) (l0 : List T) : funK c env lf 6 fi99 [.sl l0] = f99 c lf l0 := by kernel_rfl
def f195_t (c : Orc) (lf : Nat) (l0 : List T) : Option (List T) :=
 bif iLt (IntKind.wrap .i64 ((l0.length : Int) - 4)) 0 then
  some [T.sl [], T.b false]
 else
  bif iLe 0 (IntKind.wrap .i64 ((l0.length : Int) - 4)) && iLe (IntKind.wrap .i64 ((l0.length : Int) - 4)) (l0.length : Int) then
  (c 99 [T.sl (l0.take ((IntKind.wrap .i64 ((l0.length : Int) - 4)).toNat))]).bind fun r243 =>
  bif !((bytesOf (asL (nth r243 0))).toList == (bytesOf l0).toList) then
   some [T.sl [], T.b false]
  else
   bif iLe 0 (IntKind.wrap .i64 ((l0.length : Int) - 4)) && iLe (IntKind.wrap .i64 ((l0.length : Int) - 4)) (l0.length : Int) then
   some [T.sl (l0.take ((IntKind.wrap .i64 ((l0.length : Int) - 4)).toNat)), T.b true]
   else none
  else none
def f195 (c : Orc) (lf : Nat) (l0 : List T) : Option (List T) := f195_t c lf l0
theorem f195_eq (c : Orc) (lf : Nat) (l0 : List T) : funK c env lf 6 fi195 [.sl l0] = f195 c lf l0 := by kernel_rfl
def f91_0_s (c : Orc) (lf : Nat) (l0 : List T) (n1 : Int) (L : Int → Int → Int → Option (List T)) (x248 x249 x250 : Int) : Option (List T) :=
 bif iLt x250 3 then
  bif iLt n1 (IntKind.wrap .i64 ((l0.length : Int) - x250)) then
   bif inR (IntKind.wrap .i64 (n1 + x250)) l0.length then
   bif iLe 128 (IntKind.wrap .i64 (asI (l0.getD ((IntKind.wrap .i64 (n1 + x250)).toNat) T.u))) then
    L (IntKind.wrap .i64 (x248 + (IntKind.wrap .i64 (((IntKind.wrap .i64 (asI (l0.getD ((IntKind.wrap .i64 (n1 + x250)).toNat) T.u))).tmod 128) * x249)))) (IntKind.wrap .i64 (x249 * 128)) (IntKind.wrap .i64 (x250 + 1))
   else
    bif iLt 1000000 (IntKind.wrap .i64 (x248 + (IntKind.wrap .i64 (((IntKind.wrap .i64 (asI (l0.getD ((IntKind.wrap .i64 (n1 + x250)).toNat) T.u))).tmod 128) * x249)))) then
     some [T.i .i64 0]
    else
     bif (IntKind.wrap .i64 (asI (l0.getD ((IntKind.wrap .i64 (n1 + x250)).toNat) T.u))) == 0 then
      bif iLt 0 x250 then
       some [T.i .i64 0]
      else
       some [T.i .i64 1, T.i .i64 (IntKind.wrap .i64 (x248 + (IntKind.wrap .i64 (((IntKind.wrap .i64 (asI (l0.getD ((IntKind.wrap .i64 (n1 + x250)).toNat) T.u))).tmod 128) * x249)))), T.i .i64 (IntKind.wrap .i64 ((IntKind.wrap .i64 (n1 + x250)) + 1)), T.b true]
     else
      some [T.i .i64 1, T.i .i64 (IntKind.wrap .i64 (x248 + (IntKind.wrap .i64 (((IntKind.wrap .i64 (asI (l0.getD ((IntKind.wrap .i64 (n1 + x250)).toNat) T.u))).tmod 128) * x249)))), T.i .i64 (IntKind.wrap .i64 ((IntKind.wrap .i64 (n1 + x250)) + 1)), T.b true]
   else none
  else
   some [T.i .i64 0]
 else
  some [T.i .i64 0]
def f91_0_c (l0 : List T) (n1 x248 : Int) (x249 x250 : Int) : CSt := ⟨[.ro 0 false [.i .u8] l0, .i .i64 n1, .i .i64 x248, .i .i64 x249, .i .i64 x250], [.dead, .dead]⟩
theorem f91_0_round (c : Orc) (lf : Nat) (l0 : List T) (n1 : Int) (L : CSt → Option (List T)) (x248 x249 x250 : Int) :
 roundK c env lf 6 fi91 2 6 [] [0, 1, 7, 8, 9] (x91_6_0) L (f91_0_c l0 n1 x248 x249 x250) = f91_0_s c lf l0 n1 (fun x248 x249 x250 => L (f91_0_c l0 n1 x248 x249 x250)) x248 x249 x250 := by kernel_rfl
def f91_0 (c : Orc) (lf : Nat) (l0 : List T) (n1 : Int) : Nat → Int → Int → Int → Option (List T)
 | 0 => fun _ _ _ => none
 | n + 1 => fun x248 x249 x250 => f91_0_s c lf l0 n1 (f91_0 c lf l0 n1 n) x248 x249 x250
theorem f91_0_u (c : Orc) (lf : Nat) (l0 : List T) (n1 : Int) (n : Nat) (x248 x249 x250 : Int) : f91_0 c lf l0 n1 (n + 1) x248 x249 x250 = f91_0_s c lf l0 n1 (f91_0 c lf l0 n1 n) x248 x249 x250 := rfl
theorem f91_0_eq (c : Orc) (lf : Nat) (l0 : List T) (n1 : Int) (n : Nat) (x248 x249 x250 : Int) :
 lpK c env lf 6 fi91 2 6 [] [0, 1, 7, 8, 9] (x91_6_0) n (f91_0_c l0 n1 x248 x249 x250) = f91_0 c lf l0 n1 n x248 x249 x250 := by
 induction n generalizing x248 x249 x250 with
 | zero => rfl
 | succ n ih =>
  refine (f91_0_round c lf l0 n1 _ x248 x249 x250).trans ?_
  have e : (fun x248 x249 x250 => lpK c env lf 6 fi91 2 6 [] [0, 1, 7, 8, 9] (x91_6_0) n (f91_0_c l0 n1 x248 x249 x250)) = f91_0 c lf l0 n1 n := by funext x248 x249 x250; exact ih x248 x249 x250
  show f91_0_s c lf l0 n1 (fun x248 x249 x250 => lpK c env lf 6 fi91 2 6 [] [0, 1, 7, 8, 9] (x91_6_0) n (f91_0_c l0 n1 x248 x249 x250)) x248 x249 x250 = _
  rw [e]; rfl
def f91_t (c : Orc) (lf : Nat) (lp0 : List T → Int → Int → Int → Int → Option (List T)) (l0 : List T) (n1 : Int) : Option (List T) :=
 bif iLt n1 0 then
  some [T.i .i64 0, T.i .i64 0, T.b false]
 else
  (lp0 l0 n1 0 1 0).bind fun r251 =>
  bif asI (nth r251 0) == 0 then
   some [T.i .i64 0, T.i .i64 0, T.b false]
  else
   some [T.i .i64 (asI (nth r251 1)), T.i .i64 (asI (nth r251 2)), T.b (asB (nth r251 3))]
def f91 (c : Orc) (lf : Nat) (l0 : List T) (n1 : Int) : Option (List T) := f91_t c lf (fun (l0 : List T) (n1 x248 : Int) (x249 x250 : Int) => f91_0 c lf l0 n1 lf x248 x249 x250) l0 n1
theorem f91_raw (c : Orc) (lf : Nat) (l0 : List T) (n1 : Int) : funK c env lf 6 fi91 [.sl l0, .i .i64 n1] = f91_t c lf (fun (l0 : List T) (n1 x248 : Int) (x249 x250 : Int) => lpK c env lf 6 fi91 2 6 [] [0, 1, 7, 8, 9] (x91_6_0) lf (f91_0_c l0 n1 x248 x249 x250)) l0 n1 := by kernel_rfl
theorem f91_eq (c : Orc) (lf : Nat) (l0 : List T) (n1 : Int) : funK c env lf 6 fi91 [.sl l0, .i .i64 n1] = f91 c lf l0 n1 := by
 refine (f91_raw c lf l0 n1).trans ?_
 have e0 : (fun (l0 : List T) (n1 x248 : Int) (x249 x250 : Int) => lpK c env lf 6 fi91 2 6 [] [0, 1, 7, 8, 9] (x91_6_0) lf (f91_0_c l0 n1 x248 x249 x250)) = (fun (l0 : List T) (n1 x248 : Int) (x249 x250 : Int) => f91_0 c lf l0 n1 lf x248 x249 x250) := by funext l0 n1 x248 x249 x250; exact f91_0_eq c lf l0 n1 lf x248 x249 x250
 rw [e0]; rfl
def f148_t (c : Orc) (lf : Nat) (l0_0 : List T) (n0_1 : Int) (b0_2 : Bool) : Option (List T) :=
 bif !b0_2 then
  some [T.i .i64 0, T.st [T.sl l0_0, T.i .i64 n0_1, T.b b0_2]]
 else
  (c 91 [T.sl l0_0, T.i .i64 n0_1]).bind fun r252 =>
  some [T.i .i64 (asI (nth r252 0)), T.st [T.sl l0_0, T.i .i64 (asI (nth r252 1)), T.b (asB (nth r252 2))]]
def f148 (c : Orc) (lf : Nat) (l0_0 : List T) (n0_1 : Int) (b0_2 : Bool) : Option (List T) := f148_t c lf l0_0 n0_1 b0_2
theorem f148_eq (c : Orc) (lf : Nat) (l0_0 : List T) (n0_1 : Int) (b0_2 : Bool) : funK c env lf 6 fi148 [.st [.sl l0_0, .i .i64 n0_1, .b b0_2]] = f148 c lf l0_0 n0_1 b0_2 := by kernel_rfl
def f198_t (c : Orc) (lf : Nat) (l0 : List T) (n1 : Int) : Option (List T) :=
 (c 91 [T.sl l0, T.i .i64 n1]).bind fun r253 =>
 bif !(asB (nth r253 2)) then
  some [T.s (⟨#[]⟩ : ByteArray), T.i .i64 0, T.b false]
 else
  bif iLt (IntKind.wrap .i64 ((l0.length : Int) - (asI (nth r253 1)))) (asI (nth r253 0)) then
   some [T.s (⟨#[]⟩ : ByteArray), T.i .i64 0, T.b false]
  else
   bif iLe 0 (asI (nth r253 1)) && iLe (asI (nth r253 1)) (IntKind.wrap .i64 ((asI (nth r253 1)) + (asI (nth r253 0)))) && iLe (IntKind.wrap .i64 ((asI (nth r253 1)) + (asI (nth r253 0)))) (l0.length : Int) then
   some [T.s (bytesOf ((l0.drop ((asI (nth r253 1)).toNat)).take (((IntKind.wrap .i64 ((asI (nth r253 1)) + (asI (nth r253 0)))).toNat) - ((asI (nth r253 1)).toNat)))), T.i .i64 (IntKind.wrap .i64 ((asI (nth r253 1)) + (asI (nth r253 0)))), T.b true]
   else none
def f198 (c : Orc) (lf : Nat) (l0 : List T) (n1 : Int) : Option (List T) := f198_t c lf l0 n1
theorem f198_eq (c : Orc) (lf : Nat) (l0 : List T) (n1 : Int) : funK c env lf 6 fi198 [.sl l0, .i .i64 n1] = f198 c lf l0 n1 := by kernel_rfl
def f150_t (c : Orc) (lf : Nat) (l0_0 : List T) (n0_1 : Int) (b0_2 : Bool) : Option (List T) :=
 bif !b0_2 then
  some [T.s (⟨#[]⟩ : ByteArray), T.st [T.sl l0_0, T.i .i64 n0_1, T.b b0_2]]
 else
  (c 198 [T.sl l0_0, T.i .i64 n0_1]).bind fun r254 =>
  some [T.s (asS (nth r254 0)), T.st [T.sl l0_0, T.i .i64 (asI (nth r254 1)), T.b (asB (nth r254 2))]]
def f150 (c : Orc) (lf : Nat) (l0_0 : List T) (n0_1 : Int) (b0_2 : Bool) : Option (List T) := f150_t c lf l0_0 n0_1 b0_2
theorem f150_eq (c : Orc) (lf : Nat) (l0_0 : List T) (n0_1 : Int) (b0_2 : Bool) : funK c env lf 6 fi150 [.st [.sl l0_0, .i .i64 n0_1, .b b0_2]] = f150 c lf l0_0 n0_1 b0_2 := by kernel_rfl
def f152_t (c : Orc) (lf : Nat) (l0_0 : List T) (n0_1 : Int) (b0_2 : Bool) : Option (List T) :=
 bif b0_2 then
  some [T.b (n0_1 == (l0_0.length : Int)), T.st [T.sl l0_0, T.i .i64 n0_1, T.b b0_2]]
 else
  some [T.b false, T.st [T.sl l0_0, T.i .i64 n0_1, T.b b0_2]]
def f152 (c : Orc) (lf : Nat) (l0_0 : List T) (n0_1 : Int) (b0_2 : Bool) : Option (List T) := f152_t c lf l0_0 n0_1 b0_2
theorem f152_eq (c : Orc) (lf : Nat) (l0_0 : List T) (n0_1 : Int) (b0_2 : Bool) : funK c env lf 6 fi152 [.st [.sl l0_0, .i .i64 n0_1, .b b0_2]] = f152 c lf l0_0 n0_1 b0_2 := by kernel_rfl
def f49_t (c : Orc) (lf : Nat) (n0_0 n0_1 : Int) (l0_2 : List T) : Option (List T) :=
 (c 58 [T.i .i64 n0_0, T.i .i64 1, T.i .i64 4]).bind fun r255 =>
 bif asB (nth r255 0) then
  (c 58 [T.i .i64 n0_1, T.i .i64 0, T.i .i64 1000000]).bind fun r256 =>
  bif asB (nth r256 0) then
   some [T.b (iLe (l0_2.length : Int) 380)]
  else
   some [T.b false]
 else
  some [T.b false]
def f49 (c : Orc) (lf : Nat) (n0_0 n0_1 : Int) (l0_2 : List T) : Option (List T) := f49_t c lf n0_0 n0_1 l0_2
theorem f49_eq (c : Orc) (lf : Nat) (n0_0 n0_1 : Int) (l0_2 : List T) : funK c env lf 6 fi49 [.st [.i .i64 n0_0, .i .i64 n0_1, .sl l0_2]] = f49 c lf n0_0 n0_1 l0_2 := by kernel_rfl
def f145_t (c : Orc) (lf : Nat) (l0 : List T) : Option (List T) :=
 (c 195 [T.sl l0]).bind fun r257 =>
 (c 148 [T.st [T.sl (asL (nth r257 0)), T.i .i64 0, T.b (asB (nth r257 1))]]).bind fun r258 =>
 (c 148 [T.st [T.sl (asL (nth r257 0)), T.i .i64 (asI (T.cell (nth r258 1) 1)), T.b (asB (T.cell (nth r258 1) 2))]]).bind fun r259 =>
 (c 150 [T.st [T.sl (asL (nth r257 0)), T.i .i64 (asI (T.cell (nth r259 1) 1)), T.b (asB (T.cell (nth r259 1) 2))]]).bind fun r260 =>
 bif nLe (asS (nth r260 0)).size LIM then
 (c 152 [T.st [T.sl (asL (nth r257 0)), T.i .i64 (asI (T.cell (nth r260 1) 1)), T.b (asB (T.cell (nth r260 1) 2))]]).bind fun r261 =>
 bif !(asB (nth r261 0)) then
  some [T.st [T.i .i64 0, T.i .i64 0, T.sl []], T.b false]
 else
  (c 49 [T.st [T.i .i64 (asI (nth r258 0)), T.i .i64 (asI (nth r259 0)), T.sl (listOf (asS (nth r260 0)))]]).bind fun r262 =>
  bif !(asB (nth r262 0)) then
   some [T.st [T.i .i64 0, T.i .i64 0, T.sl []], T.b false]
  else
   some [T.st [T.i .i64 (asI (nth r258 0)), T.i .i64 (asI (nth r259 0)), T.sl (listOf (asS (nth r260 0)))], T.b true]
 else none
def f145 (c : Orc) (lf : Nat) (l0 : List T) : Option (List T) := f145_t c lf l0
theorem f145_eq (c : Orc) (lf : Nat) (l0 : List T) : funK c env lf 6 fi145 [.sl l0] = f145 c lf l0 := by kernel_rfl
def f85_t (c : Orc) (lf : Nat) (l0_0 : List T) (n0_1 : Int) (l0_2 : List T) (b0_3 : Bool) (n0_4 n1 : Int) : Option (List T) :=
 bif iLt n1 0 then
  some [T.st [T.i .i64 0, T.i .i64 0, T.sl []], T.b false]
 else
  (c 144 [T.st [T.sl l0_0], T.i .i64 (IntKind.wrap .i64 (n1.tdiv 8)), T.i .i64 (n1.tmod 8)]).bind fun r263 =>
  bif !(asB (nth r263 1)) then
   some [T.st [T.i .i64 0, T.i .i64 0, T.sl []], T.b false]
  else
   (c 145 [T.sl (asL (nth r263 0))]).bind fun r264 =>
   some [T.st [T.i .i64 (asI (T.cell (nth r264 0) 0)), T.i .i64 (asI (T.cell (nth r264 0) 1)), T.sl (asL (T.cell (nth r264 0) 2))], T.b (asB (nth r264 1))]
def f85 (c : Orc) (lf : Nat) (l0_0 : List T) (n0_1 : Int) (l0_2 : List T) (b0_3 : Bool) (n0_4 n1 : Int) : Option (List T) := f85_t c lf l0_0 n0_1 l0_2 b0_3 n0_4 n1
theorem f85_eq (c : Orc) (lf : Nat) (l0_0 : List T) (n0_1 : Int) (l0_2 : List T) (b0_3 : Bool) (n0_4 n1 : Int) : funK c env lf 6 fi85 [.st [.sl l0_0, .i .i64 n0_1, .sl l0_2, .b b0_3, .i .i64 n0_4], .i .i64 n1] = f85 c lf l0_0 n0_1 l0_2 b0_3 n0_4 n1 := by kernel_rfl
def f69_0_s (c : Orc) (lf : Nat) (b0_3 : Bool) (l0_0 l0_2 : List T) (n0_1 n0_4 : Int) (L : Int → Bool → Option (List T)) (x279 : Int) (x280 : Bool) : Option (List T) :=
 bif iLt x279 (IntKind.wrap .i64 ((l0_0.length : Int) * 8)) then
  (c 85 [T.st [T.sl l0_0, T.i .i64 n0_1, T.sl l0_2, T.b b0_3, T.i .i64 n0_4], T.i .i64 x279]).bind fun r281 =>
  bif asB (nth r281 1) then
   bif x280 then
    L (IntKind.wrap .i64 (x279 + 1)) (iLt (asI (T.cell (nth r281 0) 1)) n0_4)
   else
    L (IntKind.wrap .i64 (x279 + 1)) false
  else
   L (IntKind.wrap .i64 (x279 + 1)) x280
 else
  some [T.i .i64 0, T.b x280, T.sl l0_0, T.i .i64 n0_1, T.sl l0_2, T.b b0_3, T.i .i64 n0_4]
def f69_0_c (b0_3 : Bool) (l0_0 l0_2 : List T) (n0_1 n0_4 x279 : Int) (x280 : Bool) : CSt := ⟨[.fn 123 [.bp 0 0, .bp 1 0], .bp 2 0, .i .i64 (IntKind.wrap .i64 ((l0_0.length : Int) * 8)), .i .i64 x279], [.box [.b x280], .box [.ro 0 true [.sl true [.b, .sl false [.i .u8]], .i .i64, .b] l0_0, .i .i64 n0_1, .ro 0 true [.i .i64, .i .i64, .i .i64] l0_2, .b b0_3, .i .i64 n0_4], .box [.ro 0 true [.sl true [.b, .sl false [.i .u8]], .i .i64, .b] l0_0, .i .i64 n0_1, .ro 0 true [.i .i64, .i .i64, .i .i64] l0_2, .b b0_3, .i .i64 n0_4]]⟩
theorem f69_0_round (c : Orc) (lf : Nat) (b0_3 : Bool) (l0_0 l0_2 : List T) (n0_1 n0_4 : Int) (L : CSt → Option (List T)) (x279 : Int) (x280 : Bool) :
 roundK c env lf 5 fi44 2 2 [] [1, 2, 12, 13] (x44_2_0) L (f69_0_c b0_3 l0_0 l0_2 n0_1 n0_4 x279 x280) = f69_0_s c lf b0_3 l0_0 l0_2 n0_1 n0_4 (fun x279 x280 => L (f69_0_c b0_3 l0_0 l0_2 n0_1 n0_4 x279 x280)) x279 x280 := by kernel_rfl
def f69_0 (c : Orc) (lf : Nat) (b0_3 : Bool) (l0_0 l0_2 : List T) (n0_1 n0_4 : Int) : Nat → Int → Bool → Option (List T)
 | 0 => fun _ _ => none
 | n + 1 => fun x279 x280 => f69_0_s c lf b0_3 l0_0 l0_2 n0_1 n0_4 (f69_0 c lf b0_3 l0_0 l0_2 n0_1 n0_4 n) x279 x280
theorem f69_0_u (c : Orc) (lf : Nat) (b0_3 : Bool) (l0_0 l0_2 : List T) (n0_1 n0_4 : Int) (n : Nat) (x279 : Int) (x280 : Bool) : f69_0 c lf b0_3 l0_0 l0_2 n0_1 n0_4 (n + 1) x279 x280 = f69_0_s c lf b0_3 l0_0 l0_2 n0_1 n0_4 (f69_0 c lf b0_3 l0_0 l0_2 n0_1 n0_4 n) x279 x280 := rfl
theorem f69_0_eq (c : Orc) (lf : Nat) (b0_3 : Bool) (l0_0 l0_2 : List T) (n0_1 n0_4 : Int) (n : Nat) (x279 : Int) (x280 : Bool) :
 lpK c env lf 5 fi44 2 2 [] [1, 2, 12, 13] (x44_2_0) n (f69_0_c b0_3 l0_0 l0_2 n0_1 n0_4 x279 x280) = f69_0 c lf b0_3 l0_0 l0_2 n0_1 n0_4 n x279 x280 := by
 induction n generalizing x279 x280 with
 | zero => rfl
 | succ n ih =>
  refine (f69_0_round c lf b0_3 l0_0 l0_2 n0_1 n0_4 _ x279 x280).trans ?_
  have e : (fun x279 x280 => lpK c env lf 5 fi44 2 2 [] [1, 2, 12, 13] (x44_2_0) n (f69_0_c b0_3 l0_0 l0_2 n0_1 n0_4 x279 x280)) = f69_0 c lf b0_3 l0_0 l0_2 n0_1 n0_4 n := by funext x279 x280; exact ih x279 x280
  show f69_0_s c lf b0_3 l0_0 l0_2 n0_1 n0_4 (fun x279 x280 => lpK c env lf 5 fi44 2 2 [] [1, 2, 12, 13] (x44_2_0) n (f69_0_c b0_3 l0_0 l0_2 n0_1 n0_4 x279 x280)) x279 x280 = _
  rw [e]; rfl
def f69_1_s (c : Orc) (lf : Nat) (b0_3 : Bool) (l0_0 l0_2 : List T) (n0_1 n0_4 : Int) (L : Int → Option (List T)) (x284 : Int) : Option (List T) :=
 bif iLt x284 (IntKind.wrap .i64 ((l0_0.length : Int) * 8)) then
  (c 85 [T.st [T.sl l0_0, T.i .i64 n0_1, T.sl l0_2, T.b b0_3, T.i .i64 n0_4], T.i .i64 x284]).bind fun r285 =>
  bif asB (nth r285 1) then
   L (IntKind.wrap .i64 (x284 + 1))
  else
   L (IntKind.wrap .i64 (x284 + 1))
 else
  some [T.i .i64 0, T.b false, T.sl l0_0, T.i .i64 n0_1, T.sl l0_2, T.b b0_3, T.i .i64 n0_4]
def f69_1_c (b0_3 : Bool) (l0_0 l0_2 : List T) (n0_1 n0_4 x284 : Int) : CSt := ⟨[.fn 123 [.bp 0 0, .bp 1 0], .bp 2 0, .i .i64 (IntKind.wrap .i64 ((l0_0.length : Int) * 8)), .i .i64 x284], [.box [.b false], .box [.ro 0 true [.sl true [.b, .sl false [.i .u8]], .i .i64, .b] l0_0, .i .i64 n0_1, .ro 0 true [.i .i64, .i .i64, .i .i64] l0_2, .b b0_3, .i .i64 n0_4], .box [.ro 0 true [.sl true [.b, .sl false [.i .u8]], .i .i64, .b] l0_0, .i .i64 n0_1, .ro 0 true [.i .i64, .i .i64, .i .i64] l0_2, .b b0_3, .i .i64 n0_4]]⟩
theorem f69_1_round (c : Orc) (lf : Nat) (b0_3 : Bool) (l0_0 l0_2 : List T) (n0_1 n0_4 : Int) (L : CSt → Option (List T)) (x284 : Int) :
 roundK c env lf 5 fi44 2 2 [] [1, 2, 12, 13] (x44_2_0) L (f69_1_c b0_3 l0_0 l0_2 n0_1 n0_4 x284) = f69_1_s c lf b0_3 l0_0 l0_2 n0_1 n0_4 (fun x284 => L (f69_1_c b0_3 l0_0 l0_2 n0_1 n0_4 x284)) x284 := by kernel_rfl
def f69_1 (c : Orc) (lf : Nat) (b0_3 : Bool) (l0_0 l0_2 : List T) (n0_1 n0_4 : Int) : Nat → Int → Option (List T)
 | 0 => fun _ => none
 | n + 1 => fun x284 => f69_1_s c lf b0_3 l0_0 l0_2 n0_1 n0_4 (f69_1 c lf b0_3 l0_0 l0_2 n0_1 n0_4 n) x284
theorem f69_1_u (c : Orc) (lf : Nat) (b0_3 : Bool) (l0_0 l0_2 : List T) (n0_1 n0_4 : Int) (n : Nat) (x284 : Int) : f69_1 c lf b0_3 l0_0 l0_2 n0_1 n0_4 (n + 1) x284 = f69_1_s c lf b0_3 l0_0 l0_2 n0_1 n0_4 (f69_1 c lf b0_3 l0_0 l0_2 n0_1 n0_4 n) x284 := rfl
theorem f69_1_eq (c : Orc) (lf : Nat) (b0_3 : Bool) (l0_0 l0_2 : List T) (n0_1 n0_4 : Int) (n : Nat) (x284 : Int) :
 lpK c env lf 5 fi44 2 2 [] [1, 2, 12, 13] (x44_2_0) n (f69_1_c b0_3 l0_0 l0_2 n0_1 n0_4 x284) = f69_1 c lf b0_3 l0_0 l0_2 n0_1 n0_4 n x284 := by
 induction n generalizing x284 with
 | zero => rfl
 | succ n ih =>
  refine (f69_1_round c lf b0_3 l0_0 l0_2 n0_1 n0_4 _ x284).trans ?_
  have e : (fun x284 => lpK c env lf 5 fi44 2 2 [] [1, 2, 12, 13] (x44_2_0) n (f69_1_c b0_3 l0_0 l0_2 n0_1 n0_4 x284)) = f69_1 c lf b0_3 l0_0 l0_2 n0_1 n0_4 n := by funext x284; exact ih x284
  show f69_1_s c lf b0_3 l0_0 l0_2 n0_1 n0_4 (fun x284 => lpK c env lf 5 fi44 2 2 [] [1, 2, 12, 13] (x44_2_0) n (f69_1_c b0_3 l0_0 l0_2 n0_1 n0_4 x284)) x284 = _
  rw [e]; rfl
def f69_t (c : Orc) (lf : Nat) (lp0 : Bool → List T → List T → Int → Int → Int → Bool → Option (List T)) (lp1 : Bool → List T → List T → Int → Int → Int → Option (List T)) (l0_0 : List T) (n0_1 : Int) (l0_2 : List T) (b0_3 : Bool) (n0_4 : Int) : Option (List T) :=
 (c 42 [T.st [T.sl l0_0, T.i .i64 n0_1, T.sl l0_2, T.b b0_3]]).bind fun r276 =>
 bif asB (nth r276 0) then
  (c 58 [T.i .i64 n0_4, T.i .i64 0, T.i .i64 1000000]).bind fun r277 =>
  (lp0 b0_3 l0_0 l0_2 n0_1 n0_4 0 (asB (nth r277 0))).bind fun r282 =>
  some [T.b (asB (nth r282 1))]
 else
  (lp1 b0_3 l0_0 l0_2 n0_1 n0_4 0).bind fun r286 =>
  some [T.b (asB (nth r286 1))]
def f69 (c : Orc) (lf : Nat) (l0_0 : List T) (n0_1 : Int) (l0_2 : List T) (b0_3 : Bool) (n0_4 : Int) : Option (List T) := f69_t c lf (fun (b0_3 : Bool) (l0_0 l0_2 : List T) (n0_1 n0_4 x279 : Int) (x280 : Bool) => f69_0 c lf b0_3 l0_0 l0_2 n0_1 n0_4 lf x279 x280) (fun (b0_3 : Bool) (l0_0 l0_2 : List T) (n0_1 n0_4 x284 : Int) => f69_1 c lf b0_3 l0_0 l0_2 n0_1 n0_4 lf x284) l0_0 n0_1 l0_2 b0_3 n0_4
theorem f69_raw (c : Orc) (lf : Nat) (l0_0 : List T) (n0_1 : Int) (l0_2 : List T) (b0_3 : Bool) (n0_4 : Int) : funK c env lf 6 fi69 [.st [.sl l0_0, .i .i64 n0_1, .sl l0_2, .b b0_3, .i .i64 n0_4]] = f69_t c lf (fun (b0_3 : Bool) (l0_0 l0_2 : List T) (n0_1 n0_4 x279 : Int) (x280 : Bool) => lpK c env lf 5 fi44 2 2 [] [1, 2, 12, 13] (x44_2_0) lf (f69_0_c b0_3 l0_0 l0_2 n0_1 n0_4 x279 x280)) (fun (b0_3 : Bool) (l0_0 l0_2 : List T) (n0_1 n0_4 x284 : Int) => lpK c env lf 5 fi44 2 2 [] [1, 2, 12, 13] (x44_2_0) lf (f69_1_c b0_3 l0_0 l0_2 n0_1 n0_4 x284)) l0_0 n0_1 l0_2 b0_3 n0_4 := by kernel_rfl
theorem f69_eq (c : Orc) (lf : Nat) (l0_0 : List T) (n0_1 : Int) (l0_2 : List T) (b0_3 : Bool) (n0_4 : Int) : funK c env lf 6 fi69 [.st [.sl l0_0, .i .i64 n0_1, .sl l0_2, .b b0_3, .i .i64 n0_4]] = f69 c lf l0_0 n0_1 l0_2 b0_3 n0_4 := by
 refine (f69_raw c lf l0_0 n0_1 l0_2 b0_3 n0_4).trans ?_
 have e0 : (fun (b0_3 : Bool) (l0_0 l0_2 : List T) (n0_1 n0_4 x279 : Int) (x280 : Bool) => lpK c env lf 5 fi44 2 2 [] [1, 2, 12, 13] (x44_2_0) lf (f69_0_c b0_3 l0_0 l0_2 n0_1 n0_4 x279 x280)) = (fun (b0_3 : Bool) (l0_0 l0_2 : List T) (n0_1 n0_4 x279 : Int) (x280 : Bool) => f69_0 c lf b0_3 l0_0 l0_2 n0_1 n0_4 lf x279 x280) := by funext b0_3 l0_0 l0_2 n0_1 n0_4 x279 x280; exact f69_0_eq c lf b0_3 l0_0 l0_2 n0_1 n0_4 lf x279 x280
 have e1 : (fun (b0_3 : Bool) (l0_0 l0_2 : List T) (n0_1 n0_4 x284 : Int) => lpK c env lf 5 fi44 2 2 [] [1, 2, 12, 13] (x44_2_0) lf (f69_1_c b0_3 l0_0 l0_2 n0_1 n0_4 x284)) = (fun (b0_3 : Bool) (l0_0 l0_2 : List T) (n0_1 n0_4 x284 : Int) => f69_1 c lf b0_3 l0_0 l0_2 n0_1 n0_4 lf x284) := by funext b0_3 l0_0 l0_2 n0_1 n0_4 x284; exact f69_1_eq c lf b0_3 l0_0 l0_2 n0_1 n0_4 lf x284
 rw [e0, e1]; rfl
def f56_t (c : Orc) (lf : Nat) (n0_0 : Int) (s0_1 : ByteArray) (b0_2 : Bool) (n0_3 : Int) (l0_4 : List T) (n0_5 n1_0 : Int) (s1_1 : ByteArray) (b1_2 : Bool) (n1_3 : Int) (l1_4 : List T) (n1_5 : Int) : Option (List T) :=
 bif n0_0 == n1_0 then
  bif s0_1.toList == s1_1.toList then
   bif (b0_2 == b1_2) then
    bif n0_3 == n1_3 then
     none
    else
     some [T.b false]
   else
    some [T.b false]
  else
   some [T.b false]
 else
  some [T.b false]
def f56 (c : Orc) (lf : Nat) (n0_0 : Int) (s0_1 : ByteArray) (b0_2 : Bool) (n0_3 : Int) (l0_4 : List T) (n0_5 n1_0 : Int) (s1_1 : ByteArray) (b1_2 : Bool) (n1_3 : Int) (l1_4 : List T) (n1_5 : Int) : Option (List T) := f56_t c lf n0_0 s0_1 b0_2 n0_3 l0_4 n0_5 n1_0 s1_1 b1_2 n1_3 l1_4 n1_5
def f20_0_s (c : Orc) (lf : Nat) (l0_0 l1_0 : List T) (L : Int → Option (List T)) (x292 : Int) : Option (List T) :=
 bif iLt x292 (l0_0.length : Int) then
  bif inR x292 l0_0.length then
  bif inR x292 l1_0.length then
  (c 56 [T.st [T.i .i64 (asI (T.cell (l0_0.getD x292.toNat T.u) 0)), T.s (asS (T.cell (l0_0.getD x292.toNat T.u) 1)), T.b (asB (T.cell (l0_0.getD x292.toNat T.u) 2)), T.i .i64 (asI (T.cell (l0_0.getD x292.toNat T.u) 3)), T.sl (asL (T.cell (l0_0.getD x292.toNat T.u) 4)), T.i .i64 (asI (T.cell (l0_0.getD x292.toNat T.u) 5))], T.st [T.i .i64 (asI (T.cell (l1_0.getD x292.toNat T.u) 0)), T.s (asS (T.cell (l1_0.getD x292.toNat T.u) 1)), T.b (asB (T.cell (l1_0.getD x292.toNat T.u) 2)), T.i .i64 (asI (T.cell (l1_0.getD x292.toNat T.u) 3)), T.sl (asL (T.cell (l1_0.getD x292.toNat T.u) 4)), T.i .i64 (asI (T.cell (l1_0.getD x292.toNat T.u) 5))]]).bind fun r293 =>
  bif !(asB (nth r293 0)) then
   some [T.i .i64 0, T.b false]
  else
   L (IntKind.wrap .i64 (x292 + 1))
  else none
  else none
 else
  some [T.i .i64 1]
def f20_0_c (l0_0 l1_0 : List T) (x292 : Int) : CSt := ⟨[.ro 0 true [.i .i64, .s, .b, .i .i64, .sl true [.i .i64, .i .i64, .i .i64, .sl false [.i .u8], .sl true [.s, .i .i64], .sl true [.s, .s]], .i .i64] l1_0, .fn 56 [], .ro 0 true [.i .i64, .s, .b, .i .i64, .sl true [.i .i64, .i .i64, .i .i64, .sl false [.i .u8], .sl true [.s, .i .i64], .sl true [.s, .s]], .i .i64] l0_0, .i .i64 (l0_0.length : Int), .i .i64 x292], []⟩
theorem f20_0_round (c : Orc) (lf : Nat) (l0_0 l1_0 : List T) (L : CSt → Option (List T)) (x292 : Int) :
 roundK c env lf 5 fi55 0 4 [] [1, 2, 15, 16, 17] (x55_4_0) L (f20_0_c l0_0 l1_0 x292) = f20_0_s c lf l0_0 l1_0 (fun x292 => L (f20_0_c l0_0 l1_0 x292)) x292 := by kernel_rfl
def f20_0 (c : Orc) (lf : Nat) (l0_0 l1_0 : List T) : Nat → Int → Option (List T)
 | 0 => fun _ => none
 | n + 1 => fun x292 => f20_0_s c lf l0_0 l1_0 (f20_0 c lf l0_0 l1_0 n) x292
theorem f20_0_eq (c : Orc) (lf : Nat) (l0_0 l1_0 : List T) (n : Nat) (x292 : Int) :
 lpK c env lf 5 fi55 0 4 [] [1, 2, 15, 16, 17] (x55_4_0) n (f20_0_c l0_0 l1_0 x292) = f20_0 c lf l0_0 l1_0 n x292 := by
 induction n generalizing x292 with
 | zero => rfl
 | succ n ih =>
  refine (f20_0_round c lf l0_0 l1_0 _ x292).trans ?_
  have e : (fun x292 => lpK c env lf 5 fi55 0 4 [] [1, 2, 15, 16, 17] (x55_4_0) n (f20_0_c l0_0 l1_0 x292)) = f20_0 c lf l0_0 l1_0 n := by funext x292; exact ih x292
  show f20_0_s c lf l0_0 l1_0 (fun x292 => lpK c env lf 5 fi55 0 4 [] [1, 2, 15, 16, 17] (x55_4_0) n (f20_0_c l0_0 l1_0 x292)) x292 = _
  rw [e]; rfl
def f20_t (c : Orc) (lf : Nat) (lp0 : List T → List T → Int → Option (List T)) (l0_0 : List T) (n0_1 : Int) (l1_0 : List T) (n1_1 : Int) : Option (List T) :=
 bif n0_1 == n1_1 then
  bif (l0_0.length : Int) != (l1_0.length : Int) then
   some [T.b false]
  else
   (lp0 l0_0 l1_0 0).bind fun r294 =>
   bif asI (nth r294 0) == 0 then
    some [T.b (asB (nth r294 1))]
   else
    some [T.b true]
 else
  some [T.b false]
def f20 (c : Orc) (lf : Nat) (l0_0 : List T) (n0_1 : Int) (l1_0 : List T) (n1_1 : Int) : Option (List T) := f20_t c lf (fun (l0_0 l1_0 : List T) (x292 : Int) => f20_0 c lf l0_0 l1_0 lf x292) l0_0 n0_1 l1_0 n1_1
theorem f20_raw (c : Orc) (lf : Nat) (l0_0 : List T) (n0_1 : Int) (l1_0 : List T) (n1_1 : Int) : funK c env lf 6 fi20 [.st [.sl l0_0, .i .i64 n0_1], .st [.sl l1_0, .i .i64 n1_1]] = f20_t c lf (fun (l0_0 l1_0 : List T) (x292 : Int) => lpK c env lf 5 fi55 0 4 [] [1, 2, 15, 16, 17] (x55_4_0) lf (f20_0_c l0_0 l1_0 x292)) l0_0 n0_1 l1_0 n1_1 := by kernel_rfl
theorem f20_eq (c : Orc) (lf : Nat) (l0_0 : List T) (n0_1 : Int) (l1_0 : List T) (n1_1 : Int) : funK c env lf 6 fi20 [.st [.sl l0_0, .i .i64 n0_1], .st [.sl l1_0, .i .i64 n1_1]] = f20 c lf l0_0 n0_1 l1_0 n1_1 := by
 refine (f20_raw c lf l0_0 n0_1 l1_0 n1_1).trans ?_
 have e0 : (fun (l0_0 l1_0 : List T) (x292 : Int) => lpK c env lf 5 fi55 0 4 [] [1, 2, 15, 16, 17] (x55_4_0) lf (f20_0_c l0_0 l1_0 x292)) = (fun (l0_0 l1_0 : List T) (x292 : Int) => f20_0 c lf l0_0 l1_0 lf x292) := by funext l0_0 l1_0 x292; exact f20_0_eq c lf l0_0 l1_0 lf x292
 rw [e0]; rfl
def f124_t (c : Orc) (lf : Nat) (l0_0 : List T) (n0_1 n0_2 : Int) (l0_3 l0_4 : List T) (n0_5 n0_6 : Int) : Option (List T) :=
 (c 21 []).bind fun r295 =>
 (c 20 [T.st [T.sl l0_0, T.i .i64 n0_1], T.st [T.sl (asL (T.cell (nth r295 0) 0)), T.i .i64 (asI (T.cell (nth r295 0) 1))]]).bind fun r296 =>
 bif asB (nth r296 0) then
  bif n0_2 == 1 then
   bif (l0_3.length : Int) == 0 then
    bif (l0_4.length : Int) == 0 then
     bif n0_5 == (-1) then
      some [T.b (n0_6 == (-1))]
     else
      some [T.b false]
    else
     some [T.b false]
   else
    some [T.b false]
  else
   some [T.b false]
 else
  some [T.b false]
def f124 (c : Orc) (lf : Nat) (l0_0 : List T) (n0_1 n0_2 : Int) (l0_3 l0_4 : List T) (n0_5 n0_6 : Int) : Option (List T) := f124_t c lf l0_0 n0_1 n0_2 l0_3 l0_4 n0_5 n0_6
theorem f124_eq (c : Orc) (lf : Nat) (l0_0 : List T) (n0_1 n0_2 : Int) (l0_3 l0_4 : List T) (n0_5 n0_6 : Int) : funK c env lf 6 fi124 [.st [.sl l0_0, .i .i64 n0_1, .i .i64 n0_2, .sl l0_3, .sl l0_4, .i .i64 n0_5, .i .i64 n0_6]] = f124 c lf l0_0 n0_1 n0_2 l0_3 l0_4 n0_5 n0_6 := by kernel_rfl
def f70_t (c : Orc) (lf : Nat) (l0_0 : List T) (n0_1 : Int) (l0_2 : List T) (b0_3 : Bool) (n0_4 : Int) (l1_0 : List T) (n1_1 n1_2 : Int) (l1_3 l1_4 : List T) (n1_5 n1_6 : Int) : Option (List T) :=
 (c 124 [T.st [T.sl l1_0, T.i .i64 n1_1, T.i .i64 n1_2, T.sl l1_3, T.sl l1_4, T.i .i64 n1_5, T.i .i64 n1_6]]).bind fun r297 =>
 bif asB (nth r297 0) then
  some [T.b true]
 else
  (c 22 [T.st [T.sl l1_0, T.i .i64 n1_1]]).bind fun r298 =>
  bif !(asB (nth r298 0)) then
   some [T.b false]
  else
   bif n1_2 != n1_1 then
    some [T.b false]
   else
    bif (l1_3.length : Int) != (l1_0.length : Int) then
     some [T.b false]
    else
     bif (l1_4.length : Int) != (l1_0.length : Int) then
      some [T.b false]
     else
      (c 58 [T.i .i64 n1_5, T.i .i64 0, T.i .i64 191]).bind fun r299 =>
      bif !(asB (nth r299 0)) then
      some [T.b false]
      else none
def f70 (c : Orc) (lf : Nat) (l0_0 : List T) (n0_1 : Int) (l0_2 : List T) (b0_3 : Bool) (n0_4 : Int) (l1_0 : List T) (n1_1 n1_2 : Int) (l1_3 l1_4 : List T) (n1_5 n1_6 : Int) : Option (List T) := f70_t c lf l0_0 n0_1 l0_2 b0_3 n0_4 l1_0 n1_1 n1_2 l1_3 l1_4 n1_5 n1_6
theorem f70_eq (c : Orc) (lf : Nat) (l0_0 : List T) (n0_1 : Int) (l0_2 : List T) (b0_3 : Bool) (n0_4 : Int) (l1_0 : List T) (n1_1 n1_2 : Int) (l1_3 l1_4 : List T) (n1_5 n1_6 : Int) : funK c env lf 6 fi70 [.st [.sl l0_0, .i .i64 n0_1, .sl l0_2, .b b0_3, .i .i64 n0_4], .st [.sl l1_0, .i .i64 n1_1, .i .i64 n1_2, .sl l1_3, .sl l1_4, .i .i64 n1_5, .i .i64 n1_6]] = f70 c lf l0_0 n0_1 l0_2 b0_3 n0_4 l1_0 n1_1 n1_2 l1_3 l1_4 n1_5 n1_6 := by kernel_rfl
def f29_t (c : Orc) (lf : Nat) (l0_0 : List T) (n0_1 : Int) (l0_2 : List T) (n0_3 n0_4 : Int) (l0_5 l0_6 : List T) (n0_7 n0_8 : Int) (l0_9 : List T) (n0_10 : Int) (l0_11 : List T) (b0_12 : Bool) (n0_13 : Int) : Option (List T) :=
 (c 22 [T.st [T.sl l0_0, T.i .i64 n0_1]]).bind fun r300 =>
 bif asB (nth r300 0) then
  (c 69 [T.st [T.sl l0_9, T.i .i64 n0_10, T.sl l0_11, T.b b0_12, T.i .i64 n0_13]]).bind fun r301 =>
  bif asB (nth r301 0) then
   (c 70 [T.st [T.sl l0_9, T.i .i64 n0_10, T.sl l0_11, T.b b0_12, T.i .i64 n0_13], T.st [T.sl l0_2, T.i .i64 n0_3, T.i .i64 n0_4, T.sl l0_5, T.sl l0_6, T.i .i64 n0_7, T.i .i64 n0_8]]).bind fun r302 =>
   some [T.b (asB (nth r302 0))]
  else
   some [T.b false]
 else
  some [T.b false]
def f29 (c : Orc) (lf : Nat) (l0_0 : List T) (n0_1 : Int) (l0_2 : List T) (n0_3 n0_4 : Int) (l0_5 l0_6 : List T) (n0_7 n0_8 : Int) (l0_9 : List T) (n0_10 : Int) (l0_11 : List T) (b0_12 : Bool) (n0_13 : Int) : Option (List T) := f29_t c lf l0_0 n0_1 l0_2 n0_3 n0_4 l0_5 l0_6 n0_7 n0_8 l0_9 n0_10 l0_11 b0_12 n0_13
theorem f29_eq (c : Orc) (lf : Nat) (l0_0 : List T) (n0_1 : Int) (l0_2 : List T) (n0_3 n0_4 : Int) (l0_5 l0_6 : List T) (n0_7 n0_8 : Int) (l0_9 : List T) (n0_10 : Int) (l0_11 : List T) (b0_12 : Bool) (n0_13 : Int) : funK c env lf 6 fi29 [.st [.sl l0_0, .i .i64 n0_1, .sl l0_2, .i .i64 n0_3, .i .i64 n0_4, .sl l0_5, .sl l0_6, .i .i64 n0_7, .i .i64 n0_8, .sl l0_9, .i .i64 n0_10, .sl l0_11, .b b0_12, .i .i64 n0_13]] = f29 c lf l0_0 n0_1 l0_2 n0_3 n0_4 l0_5 l0_6 n0_7 n0_8 l0_9 n0_10 l0_11 b0_12 n0_13 := by kernel_rfl
def f8_t (c : Orc) (lf : Nat) (n0 : Int) (l1 : List T) : Option (List T) :=
 (c 21 []).bind fun r303 =>
 (c 28 []).bind fun r304 =>
 (c 15 [T.i .i64 n0, T.sl l1]).bind fun r305 =>
 (c 29 [T.st [T.sl (asL (T.cell (nth r303 0) 0)), T.i .i64 (asI (T.cell (nth r303 0) 1)), T.sl (asL (T.cell (nth r304 0) 0)), T.i .i64 (asI (T.cell (nth r304 0) 1)), T.i .i64 (asI (T.cell (nth r304 0) 2)), T.sl (asL (T.cell (nth r304 0) 3)), T.sl (asL (T.cell (nth r304 0) 4)), T.i .i64 (asI (T.cell (nth r304 0) 5)), T.i .i64 (asI (T.cell (nth r304 0) 6)), T.sl (asL (T.cell (nth r305 0) 0)), T.i .i64 (asI (T.cell (nth r305 0) 1)), T.sl (asL (T.cell (nth r305 0) 2)), T.b (asB (T.cell (nth r305 0) 3)), T.i .i64 0]]).bind fun r306 =>
 bif !(asB (nth r306 0)) then
  some [T.st [T.sl [], T.i .i64 0, T.sl [], T.i .i64 0, T.i .i64 0, T.sl [], T.sl [], T.i .i64 0, T.i .i64 0, T.sl [], T.i .i64 0, T.sl [], T.b false, T.i .i64 0]]
 else
  some [T.st [T.sl (asL (T.cell (nth r303 0) 0)), T.i .i64 (asI (T.cell (nth r303 0) 1)), T.sl (asL (T.cell (nth r304 0) 0)), T.i .i64 (asI (T.cell (nth r304 0) 1)), T.i .i64 (asI (T.cell (nth r304 0) 2)), T.sl (asL (T.cell (nth r304 0) 3)), T.sl (asL (T.cell (nth r304 0) 4)), T.i .i64 (asI (T.cell (nth r304 0) 5)), T.i .i64 (asI (T.cell (nth r304 0) 6)), T.sl (asL (T.cell (nth r305 0) 0)), T.i .i64 (asI (T.cell (nth r305 0) 1)), T.sl (asL (T.cell (nth r305 0) 2)), T.b (asB (T.cell (nth r305 0) 3)), T.i .i64 0]]
def f8 (c : Orc) (lf : Nat) (n0 : Int) (l1 : List T) : Option (List T) := f8_t c lf n0 l1
theorem f8_eq (c : Orc) (lf : Nat) (n0 : Int) (l1 : List T) : funK c env lf 6 fi8 [.i .i64 n0, .sl l1] = f8 c lf n0 l1 := by kernel_rfl
def f252_0_s (c : Orc) (lf : Nat) (l0 l1 : List T) (L : Int → Option (List T)) (x309 : Int) : Option (List T) :=
 bif iLt x309 (l0.length : Int) then
  bif inR x309 l0.length then
  bif inR x309 l1.length then
  bif (asI (l0.getD x309.toNat T.u)) != (asI (l1.getD x309.toNat T.u)) then
   some [T.i .i64 0, T.b false]
  else
   L (IntKind.wrap .i64 (x309 + 1))
  else none
  else none
 else
  some [T.i .i64 1]
def f252_0_c (l0 l1 : List T) (x309 : Int) : CSt := ⟨[.ro 0 false [.i .u8] l0, .ro 0 false [.i .u8] l1, .i .i64 x309], [.dead, .dead]⟩
theorem f252_0_round (c : Orc) (lf : Nat) (l0 l1 : List T) (L : CSt → Option (List T)) (x309 : Int) :
 roundK c env lf 6 fi252 2 4 [] [0, 1, 5] (x252_4_0) L (f252_0_c l0 l1 x309) = f252_0_s c lf l0 l1 (fun x309 => L (f252_0_c l0 l1 x309)) x309 := by kernel_rfl
def f252_0 (c : Orc) (lf : Nat) (l0 l1 : List T) : Nat → Int → Option (List T)
 | 0 => fun _ => none
 | n + 1 => fun x309 => f252_0_s c lf l0 l1 (f252_0 c lf l0 l1 n) x309
theorem f252_0_eq (c : Orc) (lf : Nat) (l0 l1 : List T) (n : Nat) (x309 : Int) :
 lpK c env lf 6 fi252 2 4 [] [0, 1, 5] (x252_4_0) n (f252_0_c l0 l1 x309) = f252_0 c lf l0 l1 n x309 := by
 induction n generalizing x309 with
 | zero => rfl
 | succ n ih =>
  refine (f252_0_round c lf l0 l1 _ x309).trans ?_
  have e : (fun x309 => lpK c env lf 6 fi252 2 4 [] [0, 1, 5] (x252_4_0) n (f252_0_c l0 l1 x309)) = f252_0 c lf l0 l1 n := by funext x309; exact ih x309
  show f252_0_s c lf l0 l1 (fun x309 => lpK c env lf 6 fi252 2 4 [] [0, 1, 5] (x252_4_0) n (f252_0_c l0 l1 x309)) x309 = _
  rw [e]; rfl
def f252_t (c : Orc) (lf : Nat) (lp0 : List T → List T → Int → Option (List T)) (l0 l1 : List T) : Option (List T) :=
 bif (l0.length : Int) != (l1.length : Int) then
  some [T.b false]
 else
  (lp0 l0 l1 0).bind fun r310 =>
  bif asI (nth r310 0) == 0 then
   some [T.b (asB (nth r310 1))]
  else
   some [T.b true]
def f252 (c : Orc) (lf : Nat) (l0 l1 : List T) : Option (List T) := f252_t c lf (fun (l0 l1 : List T) (x309 : Int) => f252_0 c lf l0 l1 lf x309) l0 l1
theorem f252_raw (c : Orc) (lf : Nat) (l0 l1 : List T) : funK c env lf 6 fi252 [.sl l0, .sl l1] = f252_t c lf (fun (l0 l1 : List T) (x309 : Int) => lpK c env lf 6 fi252 2 4 [] [0, 1, 5] (x252_4_0) lf (f252_0_c l0 l1 x309)) l0 l1 := by kernel_rfl
theorem f252_eq (c : Orc) (lf : Nat) (l0 l1 : List T) : funK c env lf 6 fi252 [.sl l0, .sl l1] = f252 c lf l0 l1 := by
 refine (f252_raw c lf l0 l1).trans ?_
 have e0 : (fun (l0 l1 : List T) (x309 : Int) => lpK c env lf 6 fi252 2 4 [] [0, 1, 5] (x252_4_0) lf (f252_0_c l0 l1 x309)) = (fun (l0 l1 : List T) (x309 : Int) => f252_0 c lf l0 l1 lf x309) := by funext l0 l1 x309; exact f252_0_eq c lf l0 l1 lf x309
 rw [e0]; rfl
def f257_t (c : Orc) (lf : Nat) (s0_0 : ByteArray) (n0_1 : Int) (s1_0 : ByteArray) (n1_1 : Int) : Option (List T) :=
 bif !(s0_0.toList == s1_0.toList) then
  some [T.b false]
 else
  bif n0_1 != n1_1 then
   some [T.b false]
  else
   some [T.b true]
def f257 (c : Orc) (lf : Nat) (s0_0 : ByteArray) (n0_1 : Int) (s1_0 : ByteArray) (n1_1 : Int) : Option (List T) := f257_t c lf s0_0 n0_1 s1_0 n1_1
theorem f257_eq (c : Orc) (lf : Nat) (s0_0 : ByteArray) (n0_1 : Int) (s1_0 : ByteArray) (n1_1 : Int) : funK c env lf 6 fi257 [.st [.s s0_0, .i .i64 n0_1], .st [.s s1_0, .i .i64 n1_1]] = f257 c lf s0_0 n0_1 s1_0 n1_1 := by kernel_rfl
def f253_0_s (c : Orc) (lf : Nat) (l0 l1 : List T) (L : Int → Option (List T)) (x316 : Int) : Option (List T) :=
 bif iLt x316 (l0.length : Int) then
  bif inR x316 l0.length then
  bif inR x316 l1.length then
  (c 257 [T.st [T.s (asS (T.cell (l0.getD x316.toNat T.u) 0)), T.i .i64 (asI (T.cell (l0.getD x316.toNat T.u) 1))], T.st [T.s (asS (T.cell (l1.getD x316.toNat T.u) 0)), T.i .i64 (asI (T.cell (l1.getD x316.toNat T.u) 1))]]).bind fun r317 =>
  bif !(asB (nth r317 0)) then
   some [T.i .i64 0, T.b false]
  else
   L (IntKind.wrap .i64 (x316 + 1))
  else none
  else none
 else
  some [T.i .i64 1]
def f253_0_c (l0 l1 : List T) (x316 : Int) : CSt := ⟨[.ro 0 true [.s, .i .i64] l0, .ro 0 true [.s, .i .i64] l1, .i .i64 x316], [.dead, .dead]⟩
theorem f253_0_round (c : Orc) (lf : Nat) (l0 l1 : List T) (L : CSt → Option (List T)) (x316 : Int) :
 roundK c env lf 6 fi253 2 4 [] [0, 1, 5] (x253_4_0) L (f253_0_c l0 l1 x316) = f253_0_s c lf l0 l1 (fun x316 => L (f253_0_c l0 l1 x316)) x316 := by kernel_rfl
def f253_0 (c : Orc) (lf : Nat) (l0 l1 : List T) : Nat → Int → Option (List T)
 | 0 => fun _ => none
 | n + 1 => fun x316 => f253_0_s c lf l0 l1 (f253_0 c lf l0 l1 n) x316
theorem f253_0_eq (c : Orc) (lf : Nat) (l0 l1 : List T) (n : Nat) (x316 : Int) :
 lpK c env lf 6 fi253 2 4 [] [0, 1, 5] (x253_4_0) n (f253_0_c l0 l1 x316) = f253_0 c lf l0 l1 n x316 := by
 induction n generalizing x316 with
 | zero => rfl
 | succ n ih =>
  refine (f253_0_round c lf l0 l1 _ x316).trans ?_
  have e : (fun x316 => lpK c env lf 6 fi253 2 4 [] [0, 1, 5] (x253_4_0) n (f253_0_c l0 l1 x316)) = f253_0 c lf l0 l1 n := by funext x316; exact ih x316
  show f253_0_s c lf l0 l1 (fun x316 => lpK c env lf 6 fi253 2 4 [] [0, 1, 5] (x253_4_0) n (f253_0_c l0 l1 x316)) x316 = _
  rw [e]; rfl
def f253_t (c : Orc) (lf : Nat) (lp0 : List T → List T → Int → Option (List T)) (l0 l1 : List T) : Option (List T) :=
 bif (l0.length : Int) != (l1.length : Int) then
  some [T.b false]
 else
  (lp0 l0 l1 0).bind fun r318 =>
  bif asI (nth r318 0) == 0 then
   some [T.b (asB (nth r318 1))]
  else
   some [T.b true]
def f253 (c : Orc) (lf : Nat) (l0 l1 : List T) : Option (List T) := f253_t c lf (fun (l0 l1 : List T) (x316 : Int) => f253_0 c lf l0 l1 lf x316) l0 l1
theorem f253_raw (c : Orc) (lf : Nat) (l0 l1 : List T) : funK c env lf 6 fi253 [.sl l0, .sl l1] = f253_t c lf (fun (l0 l1 : List T) (x316 : Int) => lpK c env lf 6 fi253 2 4 [] [0, 1, 5] (x253_4_0) lf (f253_0_c l0 l1 x316)) l0 l1 := by kernel_rfl
theorem f253_eq (c : Orc) (lf : Nat) (l0 l1 : List T) : funK c env lf 6 fi253 [.sl l0, .sl l1] = f253 c lf l0 l1 := by
 refine (f253_raw c lf l0 l1).trans ?_
 have e0 : (fun (l0 l1 : List T) (x316 : Int) => lpK c env lf 6 fi253 2 4 [] [0, 1, 5] (x253_4_0) lf (f253_0_c l0 l1 x316)) = (fun (l0 l1 : List T) (x316 : Int) => f253_0 c lf l0 l1 lf x316) := by funext l0 l1 x316; exact f253_0_eq c lf l0 l1 lf x316
 rw [e0]; rfl
def f258_t (c : Orc) (lf : Nat) (s0_0 s0_1 : ByteArray) (s1_0 s1_1 : ByteArray) : Option (List T) :=
 bif !(s0_0.toList == s1_0.toList) then
  some [T.b false]
 else
  bif !(s0_1.toList == s1_1.toList) then
   some [T.b false]
  else
   some [T.b true]
def f258 (c : Orc) (lf : Nat) (s0_0 s0_1 : ByteArray) (s1_0 s1_1 : ByteArray) : Option (List T) := f258_t c lf s0_0 s0_1 s1_0 s1_1
theorem f258_eq (c : Orc) (lf : Nat) (s0_0 s0_1 : ByteArray) (s1_0 s1_1 : ByteArray) : funK c env lf 6 fi258 [.st [.s s0_0, .s s0_1], .st [.s s1_0, .s s1_1]] = f258 c lf s0_0 s0_1 s1_0 s1_1 := by kernel_rfl
def f254_0_s (c : Orc) (lf : Nat) (l0 l1 : List T) (L : Int → Option (List T)) (x324 : Int) : Option (List T) :=
 bif iLt x324 (l0.length : Int) then
  bif inR x324 l0.length then
  bif inR x324 l1.length then
  (c 258 [T.st [T.s (asS (T.cell (l0.getD x324.toNat T.u) 0)), T.s (asS (T.cell (l0.getD x324.toNat T.u) 1))], T.st [T.s (asS (T.cell (l1.getD x324.toNat T.u) 0)), T.s (asS (T.cell (l1.getD x324.toNat T.u) 1))]]).bind fun r325 =>
  bif !(asB (nth r325 0)) then
   some [T.i .i64 0, T.b false]
  else
   L (IntKind.wrap .i64 (x324 + 1))
  else none
  else none
 else
  some [T.i .i64 1]
def f254_0_c (l0 l1 : List T) (x324 : Int) : CSt := ⟨[.ro 0 true [.s, .s] l0, .ro 0 true [.s, .s] l1, .i .i64 x324], [.dead, .dead]⟩
theorem f254_0_round (c : Orc) (lf : Nat) (l0 l1 : List T) (L : CSt → Option (List T)) (x324 : Int) :
 roundK c env lf 6 fi254 2 4 [] [0, 1, 5] (x254_4_0) L (f254_0_c l0 l1 x324) = f254_0_s c lf l0 l1 (fun x324 => L (f254_0_c l0 l1 x324)) x324 := by kernel_rfl
def f254_0 (c : Orc) (lf : Nat) (l0 l1 : List T) : Nat → Int → Option (List T)
 | 0 => fun _ => none
 | n + 1 => fun x324 => f254_0_s c lf l0 l1 (f254_0 c lf l0 l1 n) x324
theorem f254_0_eq (c : Orc) (lf : Nat) (l0 l1 : List T) (n : Nat) (x324 : Int) :
 lpK c env lf 6 fi254 2 4 [] [0, 1, 5] (x254_4_0) n (f254_0_c l0 l1 x324) = f254_0 c lf l0 l1 n x324 := by
 induction n generalizing x324 with
 | zero => rfl
 | succ n ih =>
  refine (f254_0_round c lf l0 l1 _ x324).trans ?_
  have e : (fun x324 => lpK c env lf 6 fi254 2 4 [] [0, 1, 5] (x254_4_0) n (f254_0_c l0 l1 x324)) = f254_0 c lf l0 l1 n := by funext x324; exact ih x324
  show f254_0_s c lf l0 l1 (fun x324 => lpK c env lf 6 fi254 2 4 [] [0, 1, 5] (x254_4_0) n (f254_0_c l0 l1 x324)) x324 = _
  rw [e]; rfl
def f254_t (c : Orc) (lf : Nat) (lp0 : List T → List T → Int → Option (List T)) (l0 l1 : List T) : Option (List T) :=
 bif (l0.length : Int) != (l1.length : Int) then
  some [T.b false]
 else
  (lp0 l0 l1 0).bind fun r326 =>
  bif asI (nth r326 0) == 0 then
   some [T.b (asB (nth r326 1))]
  else
   some [T.b true]
def f254 (c : Orc) (lf : Nat) (l0 l1 : List T) : Option (List T) := f254_t c lf (fun (l0 l1 : List T) (x324 : Int) => f254_0 c lf l0 l1 lf x324) l0 l1
theorem f254_raw (c : Orc) (lf : Nat) (l0 l1 : List T) : funK c env lf 6 fi254 [.sl l0, .sl l1] = f254_t c lf (fun (l0 l1 : List T) (x324 : Int) => lpK c env lf 6 fi254 2 4 [] [0, 1, 5] (x254_4_0) lf (f254_0_c l0 l1 x324)) l0 l1 := by kernel_rfl
theorem f254_eq (c : Orc) (lf : Nat) (l0 l1 : List T) : funK c env lf 6 fi254 [.sl l0, .sl l1] = f254 c lf l0 l1 := by
 refine (f254_raw c lf l0 l1).trans ?_
 have e0 : (fun (l0 l1 : List T) (x324 : Int) => lpK c env lf 6 fi254 2 4 [] [0, 1, 5] (x254_4_0) lf (f254_0_c l0 l1 x324)) = (fun (l0 l1 : List T) (x324 : Int) => f254_0 c lf l0 l1 lf x324) := by funext l0 l1 x324; exact f254_0_eq c lf l0 l1 lf x324
 rw [e0]; rfl
def f242_t (c : Orc) (lf : Nat) (n0_0 n0_1 n0_2 : Int) (l0_3 l0_4 l0_5 : List T) (n1_0 n1_1 n1_2 : Int) (l1_3 l1_4 l1_5 : List T) : Option (List T) :=
 bif n0_0 != n1_0 then
  some [T.b false]
 else
  bif n0_1 != n1_1 then
   some [T.b false]
  else
   bif n0_2 != n1_2 then
    some [T.b false]
   else
    (c 252 [T.sl l0_3, T.sl l1_3]).bind fun r327 =>
    bif !(asB (nth r327 0)) then
     some [T.b false]
    else
     (c 253 [T.sl l0_4, T.sl l1_4]).bind fun r328 =>
     bif !(asB (nth r328 0)) then
      some [T.b false]
     else
      (c 254 [T.sl l0_5, T.sl l1_5]).bind fun r329 =>
      bif !(asB (nth r329 0)) then
       some [T.b false]
      else
       some [T.b true]
def f242 (c : Orc) (lf : Nat) (n0_0 n0_1 n0_2 : Int) (l0_3 l0_4 l0_5 : List T) (n1_0 n1_1 n1_2 : Int) (l1_3 l1_4 l1_5 : List T) : Option (List T) := f242_t c lf n0_0 n0_1 n0_2 l0_3 l0_4 l0_5 n1_0 n1_1 n1_2 l1_3 l1_4 l1_5
theorem f242_eq (c : Orc) (lf : Nat) (n0_0 n0_1 n0_2 : Int) (l0_3 l0_4 l0_5 : List T) (n1_0 n1_1 n1_2 : Int) (l1_3 l1_4 l1_5 : List T) : funK c env lf 6 fi242 [.st [.i .i64 n0_0, .i .i64 n0_1, .i .i64 n0_2, .sl l0_3, .sl l0_4, .sl l0_5], .st [.i .i64 n1_0, .i .i64 n1_1, .i .i64 n1_2, .sl l1_3, .sl l1_4, .sl l1_5]] = f242 c lf n0_0 n0_1 n0_2 l0_3 l0_4 l0_5 n1_0 n1_1 n1_2 l1_3 l1_4 l1_5 := by kernel_rfl
def f215_0_s (c : Orc) (lf : Nat) (l0 l1 : List T) (L : Int → Option (List T)) (x335 : Int) : Option (List T) :=
 bif iLt x335 (l0.length : Int) then
  bif inR x335 l0.length then
  bif inR x335 l1.length then
  (c 242 [T.st [T.i .i64 (asI (T.cell (l0.getD x335.toNat T.u) 0)), T.i .i64 (asI (T.cell (l0.getD x335.toNat T.u) 1)), T.i .i64 (asI (T.cell (l0.getD x335.toNat T.u) 2)), T.sl (asL (T.cell (l0.getD x335.toNat T.u) 3)), T.sl (asL (T.cell (l0.getD x335.toNat T.u) 4)), T.sl (asL (T.cell (l0.getD x335.toNat T.u) 5))], T.st [T.i .i64 (asI (T.cell (l1.getD x335.toNat T.u) 0)), T.i .i64 (asI (T.cell (l1.getD x335.toNat T.u) 1)), T.i .i64 (asI (T.cell (l1.getD x335.toNat T.u) 2)), T.sl (asL (T.cell (l1.getD x335.toNat T.u) 3)), T.sl (asL (T.cell (l1.getD x335.toNat T.u) 4)), T.sl (asL (T.cell (l1.getD x335.toNat T.u) 5))]]).bind fun r336 =>
  bif !(asB (nth r336 0)) then
   some [T.i .i64 0, T.b false]
  else
   L (IntKind.wrap .i64 (x335 + 1))
  else none
  else none
 else
  some [T.i .i64 1]
def f215_0_c (l0 l1 : List T) (x335 : Int) : CSt := ⟨[.ro 0 true [.i .i64, .i .i64, .i .i64, .sl false [.i .u8], .sl true [.s, .i .i64], .sl true [.s, .s]] l0, .ro 0 true [.i .i64, .i .i64, .i .i64, .sl false [.i .u8], .sl true [.s, .i .i64], .sl true [.s, .s]] l1, .i .i64 x335], [.dead, .dead]⟩
theorem f215_0_round (c : Orc) (lf : Nat) (l0 l1 : List T) (L : CSt → Option (List T)) (x335 : Int) :
 roundK c env lf 6 fi215 2 4 [] [0, 1, 5] (x215_4_0) L (f215_0_c l0 l1 x335) = f215_0_s c lf l0 l1 (fun x335 => L (f215_0_c l0 l1 x335)) x335 := by kernel_rfl
def f215_0 (c : Orc) (lf : Nat) (l0 l1 : List T) : Nat → Int → Option (List T)
 | 0 => fun _ => none
 | n + 1 => fun x335 => f215_0_s c lf l0 l1 (f215_0 c lf l0 l1 n) x335
theorem f215_0_eq (c : Orc) (lf : Nat) (l0 l1 : List T) (n : Nat) (x335 : Int) :
 lpK c env lf 6 fi215 2 4 [] [0, 1, 5] (x215_4_0) n (f215_0_c l0 l1 x335) = f215_0 c lf l0 l1 n x335 := by
 induction n generalizing x335 with
 | zero => rfl
 | succ n ih =>
  refine (f215_0_round c lf l0 l1 _ x335).trans ?_
  have e : (fun x335 => lpK c env lf 6 fi215 2 4 [] [0, 1, 5] (x215_4_0) n (f215_0_c l0 l1 x335)) = f215_0 c lf l0 l1 n := by funext x335; exact ih x335
  show f215_0_s c lf l0 l1 (fun x335 => lpK c env lf 6 fi215 2 4 [] [0, 1, 5] (x215_4_0) n (f215_0_c l0 l1 x335)) x335 = _
  rw [e]; rfl
def f215_t (c : Orc) (lf : Nat) (lp0 : List T → List T → Int → Option (List T)) (l0 l1 : List T) : Option (List T) :=
 bif (l0.length : Int) != (l1.length : Int) then
  some [T.b false]
 else
  (lp0 l0 l1 0).bind fun r337 =>
  bif asI (nth r337 0) == 0 then
   some [T.b (asB (nth r337 1))]
  else
   some [T.b true]
def f215 (c : Orc) (lf : Nat) (l0 l1 : List T) : Option (List T) := f215_t c lf (fun (l0 l1 : List T) (x335 : Int) => f215_0 c lf l0 l1 lf x335) l0 l1
theorem f215_raw (c : Orc) (lf : Nat) (l0 l1 : List T) : funK c env lf 6 fi215 [.sl l0, .sl l1] = f215_t c lf (fun (l0 l1 : List T) (x335 : Int) => lpK c env lf 6 fi215 2 4 [] [0, 1, 5] (x215_4_0) lf (f215_0_c l0 l1 x335)) l0 l1 := by kernel_rfl
theorem f215_eq (c : Orc) (lf : Nat) (l0 l1 : List T) : funK c env lf 6 fi215 [.sl l0, .sl l1] = f215 c lf l0 l1 := by
 refine (f215_raw c lf l0 l1).trans ?_
 have e0 : (fun (l0 l1 : List T) (x335 : Int) => lpK c env lf 6 fi215 2 4 [] [0, 1, 5] (x215_4_0) lf (f215_0_c l0 l1 x335)) = (fun (l0 l1 : List T) (x335 : Int) => f215_0 c lf l0 l1 lf x335) := by funext l0 l1 x335; exact f215_0_eq c lf l0 l1 lf x335
 rw [e0]; rfl
def f183_t (c : Orc) (lf : Nat) (l0_0 : List T) (n0_1 : Int) (l1_0 : List T) (n1_1 : Int) : Option (List T) :=
 (c 215 [T.sl l0_0, T.sl l1_0]).bind fun r338 =>
 bif !(asB (nth r338 0)) then
  some [T.b false]
 else
  bif n0_1 != n1_1 then
   some [T.b false]
  else
   some [T.b true]
def f183 (c : Orc) (lf : Nat) (l0_0 : List T) (n0_1 : Int) (l1_0 : List T) (n1_1 : Int) : Option (List T) := f183_t c lf l0_0 n0_1 l1_0 n1_1
theorem f183_eq (c : Orc) (lf : Nat) (l0_0 : List T) (n0_1 : Int) (l1_0 : List T) (n1_1 : Int) : funK c env lf 6 fi183 [.st [.sl l0_0, .i .i64 n0_1], .st [.sl l1_0, .i .i64 n1_1]] = f183 c lf l0_0 n0_1 l1_0 n1_1 := by kernel_rfl
def f129_t (c : Orc) (lf : Nat) (n0_0 : Int) (s0_1 : ByteArray) (b0_2 : Bool) (n0_3 : Int) (l0_4 : List T) (n0_5 n1_0 : Int) (s1_1 : ByteArray) (b1_2 : Bool) (n1_3 : Int) (l1_4 : List T) (n1_5 : Int) : Option (List T) :=
 bif n0_0 != n1_0 then
  some [T.b false]
 else
  bif !(s0_1.toList == s1_1.toList) then
   some [T.b false]
  else
   bif !(b0_2 == b1_2) then
    some [T.b false]
   else
    bif n0_3 != n1_3 then
     some [T.b false]
    else
     (c 183 [T.st [T.sl l0_4, T.i .i64 n0_5], T.st [T.sl l1_4, T.i .i64 n1_5]]).bind fun r339 =>
     bif !(asB (nth r339 0)) then
      some [T.b false]
     else
      some [T.b true]
def f129 (c : Orc) (lf : Nat) (n0_0 : Int) (s0_1 : ByteArray) (b0_2 : Bool) (n0_3 : Int) (l0_4 : List T) (n0_5 n1_0 : Int) (s1_1 : ByteArray) (b1_2 : Bool) (n1_3 : Int) (l1_4 : List T) (n1_5 : Int) : Option (List T) := f129_t c lf n0_0 s0_1 b0_2 n0_3 l0_4 n0_5 n1_0 s1_1 b1_2 n1_3 l1_4 n1_5
theorem f129_eq (c : Orc) (lf : Nat) (n0_0 : Int) (s0_1 : ByteArray) (b0_2 : Bool) (n0_3 : Int) (l0_4 : List T) (n0_5 n1_0 : Int) (s1_1 : ByteArray) (b1_2 : Bool) (n1_3 : Int) (l1_4 : List T) (n1_5 : Int) : funK c env lf 6 fi129 [.st [.i .i64 n0_0, .s s0_1, .b b0_2, .i .i64 n0_3, .sl l0_4, .i .i64 n0_5], .st [.i .i64 n1_0, .s s1_1, .b b1_2, .i .i64 n1_3, .sl l1_4, .i .i64 n1_5]] = f129 c lf n0_0 s0_1 b0_2 n0_3 l0_4 n0_5 n1_0 s1_1 b1_2 n1_3 l1_4 n1_5 := by kernel_rfl
def f71_0_s (c : Orc) (lf : Nat) (l0 l1 : List T) (L : Int → Option (List T)) (x345 : Int) : Option (List T) :=
 bif iLt x345 (l0.length : Int) then
  bif inR x345 l0.length then
  bif inR x345 l1.length then
  (c 129 [T.st [T.i .i64 (asI (T.cell (l0.getD x345.toNat T.u) 0)), T.s (asS (T.cell (l0.getD x345.toNat T.u) 1)), T.b (asB (T.cell (l0.getD x345.toNat T.u) 2)), T.i .i64 (asI (T.cell (l0.getD x345.toNat T.u) 3)), T.sl (asL (T.cell (l0.getD x345.toNat T.u) 4)), T.i .i64 (asI (T.cell (l0.getD x345.toNat T.u) 5))], T.st [T.i .i64 (asI (T.cell (l1.getD x345.toNat T.u) 0)), T.s (asS (T.cell (l1.getD x345.toNat T.u) 1)), T.b (asB (T.cell (l1.getD x345.toNat T.u) 2)), T.i .i64 (asI (T.cell (l1.getD x345.toNat T.u) 3)), T.sl (asL (T.cell (l1.getD x345.toNat T.u) 4)), T.i .i64 (asI (T.cell (l1.getD x345.toNat T.u) 5))]]).bind fun r346 =>
  bif !(asB (nth r346 0)) then
   some [T.i .i64 0, T.b false]
  else
   L (IntKind.wrap .i64 (x345 + 1))
  else none
  else none
 else
  some [T.i .i64 1]
def f71_0_c (l0 l1 : List T) (x345 : Int) : CSt := ⟨[.ro 0 true [.i .i64, .s, .b, .i .i64, .sl true [.i .i64, .i .i64, .i .i64, .sl false [.i .u8], .sl true [.s, .i .i64], .sl true [.s, .s]], .i .i64] l0, .ro 0 true [.i .i64, .s, .b, .i .i64, .sl true [.i .i64, .i .i64, .i .i64, .sl false [.i .u8], .sl true [.s, .i .i64], .sl true [.s, .s]], .i .i64] l1, .i .i64 x345], [.dead, .dead]⟩
theorem f71_0_round (c : Orc) (lf : Nat) (l0 l1 : List T) (L : CSt → Option (List T)) (x345 : Int) :
 roundK c env lf 6 fi71 2 4 [] [0, 1, 5] (x71_4_0) L (f71_0_c l0 l1 x345) = f71_0_s c lf l0 l1 (fun x345 => L (f71_0_c l0 l1 x345)) x345 := by kernel_rfl
def f71_0 (c : Orc) (lf : Nat) (l0 l1 : List T) : Nat → Int → Option (List T)
 | 0 => fun _ => none
 | n + 1 => fun x345 => f71_0_s c lf l0 l1 (f71_0 c lf l0 l1 n) x345
theorem f71_0_eq (c : Orc) (lf : Nat) (l0 l1 : List T) (n : Nat) (x345 : Int) :
 lpK c env lf 6 fi71 2 4 [] [0, 1, 5] (x71_4_0) n (f71_0_c l0 l1 x345) = f71_0 c lf l0 l1 n x345 := by
 induction n generalizing x345 with
 | zero => rfl
 | succ n ih =>
  refine (f71_0_round c lf l0 l1 _ x345).trans ?_
  have e : (fun x345 => lpK c env lf 6 fi71 2 4 [] [0, 1, 5] (x71_4_0) n (f71_0_c l0 l1 x345)) = f71_0 c lf l0 l1 n := by funext x345; exact ih x345
  show f71_0_s c lf l0 l1 (fun x345 => lpK c env lf 6 fi71 2 4 [] [0, 1, 5] (x71_4_0) n (f71_0_c l0 l1 x345)) x345 = _
  rw [e]; rfl
def f71_t (c : Orc) (lf : Nat) (lp0 : List T → List T → Int → Option (List T)) (l0 l1 : List T) : Option (List T) :=
 bif (l0.length : Int) != (l1.length : Int) then
  some [T.b false]
 else
  (lp0 l0 l1 0).bind fun r347 =>
  bif asI (nth r347 0) == 0 then
   some [T.b (asB (nth r347 1))]
  else
   some [T.b true]
def f71 (c : Orc) (lf : Nat) (l0 l1 : List T) : Option (List T) := f71_t c lf (fun (l0 l1 : List T) (x345 : Int) => f71_0 c lf l0 l1 lf x345) l0 l1
theorem f71_raw (c : Orc) (lf : Nat) (l0 l1 : List T) : funK c env lf 6 fi71 [.sl l0, .sl l1] = f71_t c lf (fun (l0 l1 : List T) (x345 : Int) => lpK c env lf 6 fi71 2 4 [] [0, 1, 5] (x71_4_0) lf (f71_0_c l0 l1 x345)) l0 l1 := by kernel_rfl
theorem f71_eq (c : Orc) (lf : Nat) (l0 l1 : List T) : funK c env lf 6 fi71 [.sl l0, .sl l1] = f71 c lf l0 l1 := by
 refine (f71_raw c lf l0 l1).trans ?_
 have e0 : (fun (l0 l1 : List T) (x345 : Int) => lpK c env lf 6 fi71 2 4 [] [0, 1, 5] (x71_4_0) lf (f71_0_c l0 l1 x345)) = (fun (l0 l1 : List T) (x345 : Int) => f71_0 c lf l0 l1 lf x345) := by funext l0 l1 x345; exact f71_0_eq c lf l0 l1 lf x345
 rw [e0]; rfl
def f30_t (c : Orc) (lf : Nat) (l0_0 : List T) (n0_1 : Int) (l1_0 : List T) (n1_1 : Int) : Option (List T) :=
 (c 71 [T.sl l0_0, T.sl l1_0]).bind fun r348 =>
 bif !(asB (nth r348 0)) then
  some [T.b false]
 else
  bif n0_1 != n1_1 then
   some [T.b false]
  else
   some [T.b true]
def f30 (c : Orc) (lf : Nat) (l0_0 : List T) (n0_1 : Int) (l1_0 : List T) (n1_1 : Int) : Option (List T) := f30_t c lf l0_0 n0_1 l1_0 n1_1
theorem f30_eq (c : Orc) (lf : Nat) (l0_0 : List T) (n0_1 : Int) (l1_0 : List T) (n1_1 : Int) : funK c env lf 6 fi30 [.st [.sl l0_0, .i .i64 n0_1], .st [.sl l1_0, .i .i64 n1_1]] = f30 c lf l0_0 n0_1 l1_0 n1_1 := by kernel_rfl
def f184_t (c : Orc) (lf : Nat) (n0_0 : Int) (s0_1 : ByteArray) (b0_2 : Bool) (n0_3 n0_4 n1_0 : Int) (s1_1 : ByteArray) (b1_2 : Bool) (n1_3 n1_4 : Int) : Option (List T) :=
 bif n0_0 != n1_0 then
  some [T.b false]
 else
  bif !(s0_1.toList == s1_1.toList) then
   some [T.b false]
  else
   bif !(b0_2 == b1_2) then
    some [T.b false]
   else
    bif n0_3 != n1_3 then
     some [T.b false]
    else
     bif n0_4 != n1_4 then
      some [T.b false]
     else
      some [T.b true]
def f184 (c : Orc) (lf : Nat) (n0_0 : Int) (s0_1 : ByteArray) (b0_2 : Bool) (n0_3 n0_4 n1_0 : Int) (s1_1 : ByteArray) (b1_2 : Bool) (n1_3 n1_4 : Int) : Option (List T) := f184_t c lf n0_0 s0_1 b0_2 n0_3 n0_4 n1_0 s1_1 b1_2 n1_3 n1_4
theorem f184_eq (c : Orc) (lf : Nat) (n0_0 : Int) (s0_1 : ByteArray) (b0_2 : Bool) (n0_3 n0_4 n1_0 : Int) (s1_1 : ByteArray) (b1_2 : Bool) (n1_3 n1_4 : Int) : funK c env lf 6 fi184 [.st [.i .i64 n0_0, .s s0_1, .b b0_2, .i .i64 n0_3, .i .i64 n0_4], .st [.i .i64 n1_0, .s s1_1, .b b1_2, .i .i64 n1_3, .i .i64 n1_4]] = f184 c lf n0_0 s0_1 b0_2 n0_3 n0_4 n1_0 s1_1 b1_2 n1_3 n1_4 := by kernel_rfl
def f130_0_s (c : Orc) (lf : Nat) (l0 l1 : List T) (L : Int → Option (List T)) (x354 : Int) : Option (List T) :=
 bif iLt x354 (l0.length : Int) then
  bif inR x354 l0.length then
  bif inR x354 l1.length then
  (c 184 [T.st [T.i .i64 (asI (T.cell (l0.getD x354.toNat T.u) 0)), T.s (asS (T.cell (l0.getD x354.toNat T.u) 1)), T.b (asB (T.cell (l0.getD x354.toNat T.u) 2)), T.i .i64 (asI (T.cell (l0.getD x354.toNat T.u) 3)), T.i .i64 (asI (T.cell (l0.getD x354.toNat T.u) 4))], T.st [T.i .i64 (asI (T.cell (l1.getD x354.toNat T.u) 0)), T.s (asS (T.cell (l1.getD x354.toNat T.u) 1)), T.b (asB (T.cell (l1.getD x354.toNat T.u) 2)), T.i .i64 (asI (T.cell (l1.getD x354.toNat T.u) 3)), T.i .i64 (asI (T.cell (l1.getD x354.toNat T.u) 4))]]).bind fun r355 =>
  bif !(asB (nth r355 0)) then
   some [T.i .i64 0, T.b false]
  else
   L (IntKind.wrap .i64 (x354 + 1))
  else none
  else none
 else
  some [T.i .i64 1]
def f130_0_c (l0 l1 : List T) (x354 : Int) : CSt := ⟨[.ro 0 true [.i .i64, .s, .b, .i .i64, .i .i64] l0, .ro 0 true [.i .i64, .s, .b, .i .i64, .i .i64] l1, .i .i64 x354], [.dead, .dead]⟩
theorem f130_0_round (c : Orc) (lf : Nat) (l0 l1 : List T) (L : CSt → Option (List T)) (x354 : Int) :
 roundK c env lf 6 fi130 2 4 [] [0, 1, 5] (x130_4_0) L (f130_0_c l0 l1 x354) = f130_0_s c lf l0 l1 (fun x354 => L (f130_0_c l0 l1 x354)) x354 := by kernel_rfl
def f130_0 (c : Orc) (lf : Nat) (l0 l1 : List T) : Nat → Int → Option (List T)
 | 0 => fun _ => none
 | n + 1 => fun x354 => f130_0_s c lf l0 l1 (f130_0 c lf l0 l1 n) x354
theorem f130_0_eq (c : Orc) (lf : Nat) (l0 l1 : List T) (n : Nat) (x354 : Int) :
 lpK c env lf 6 fi130 2 4 [] [0, 1, 5] (x130_4_0) n (f130_0_c l0 l1 x354) = f130_0 c lf l0 l1 n x354 := by
 induction n generalizing x354 with
 | zero => rfl
 | succ n ih =>
  refine (f130_0_round c lf l0 l1 _ x354).trans ?_
  have e : (fun x354 => lpK c env lf 6 fi130 2 4 [] [0, 1, 5] (x130_4_0) n (f130_0_c l0 l1 x354)) = f130_0 c lf l0 l1 n := by funext x354; exact ih x354
  show f130_0_s c lf l0 l1 (fun x354 => lpK c env lf 6 fi130 2 4 [] [0, 1, 5] (x130_4_0) n (f130_0_c l0 l1 x354)) x354 = _
  rw [e]; rfl
def f130_t (c : Orc) (lf : Nat) (lp0 : List T → List T → Int → Option (List T)) (l0 l1 : List T) : Option (List T) :=
 bif (l0.length : Int) != (l1.length : Int) then
  some [T.b false]
 else
  (lp0 l0 l1 0).bind fun r356 =>
  bif asI (nth r356 0) == 0 then
   some [T.b (asB (nth r356 1))]
  else
   some [T.b true]
def f130 (c : Orc) (lf : Nat) (l0 l1 : List T) : Option (List T) := f130_t c lf (fun (l0 l1 : List T) (x354 : Int) => f130_0 c lf l0 l1 lf x354) l0 l1
theorem f130_raw (c : Orc) (lf : Nat) (l0 l1 : List T) : funK c env lf 6 fi130 [.sl l0, .sl l1] = f130_t c lf (fun (l0 l1 : List T) (x354 : Int) => lpK c env lf 6 fi130 2 4 [] [0, 1, 5] (x130_4_0) lf (f130_0_c l0 l1 x354)) l0 l1 := by kernel_rfl
theorem f130_eq (c : Orc) (lf : Nat) (l0 l1 : List T) : funK c env lf 6 fi130 [.sl l0, .sl l1] = f130 c lf l0 l1 := by
 refine (f130_raw c lf l0 l1).trans ?_
 have e0 : (fun (l0 l1 : List T) (x354 : Int) => lpK c env lf 6 fi130 2 4 [] [0, 1, 5] (x130_4_0) lf (f130_0_c l0 l1 x354)) = (fun (l0 l1 : List T) (x354 : Int) => f130_0 c lf l0 l1 lf x354) := by funext l0 l1 x354; exact f130_0_eq c lf l0 l1 lf x354
 rw [e0]; rfl
def f72_t (c : Orc) (lf : Nat) (n0_0 : Int) (l0_1 : List T) (n1_0 : Int) (l1_1 : List T) : Option (List T) :=
 bif n0_0 != n1_0 then
  some [T.b false]
 else
  (c 130 [T.sl l0_1, T.sl l1_1]).bind fun r357 =>
  bif !(asB (nth r357 0)) then
   some [T.b false]
  else
   some [T.b true]
def f72 (c : Orc) (lf : Nat) (n0_0 : Int) (l0_1 : List T) (n1_0 : Int) (l1_1 : List T) : Option (List T) := f72_t c lf n0_0 l0_1 n1_0 l1_1
theorem f72_eq (c : Orc) (lf : Nat) (n0_0 : Int) (l0_1 : List T) (n1_0 : Int) (l1_1 : List T) : funK c env lf 6 fi72 [.st [.i .i64 n0_0, .sl l0_1], .st [.i .i64 n1_0, .sl l1_1]] = f72 c lf n0_0 l0_1 n1_0 l1_1 := by kernel_rfl
def f216_t (c : Orc) (lf : Nat) (n0_0 n0_1 : Int) (n1_0 n1_1 : Int) : Option (List T) :=
 bif n0_0 != n1_0 then
  some [T.b false]
 else
  bif n0_1 != n1_1 then
   some [T.b false]
  else
   some [T.b true]
def f216 (c : Orc) (lf : Nat) (n0_0 n0_1 : Int) (n1_0 n1_1 : Int) : Option (List T) := f216_t c lf n0_0 n0_1 n1_0 n1_1
theorem f216_eq (c : Orc) (lf : Nat) (n0_0 n0_1 : Int) (n1_0 n1_1 : Int) : funK c env lf 6 fi216 [.st [.i .i64 n0_0, .i .i64 n0_1], .st [.i .i64 n1_0, .i .i64 n1_1]] = f216 c lf n0_0 n0_1 n1_0 n1_1 := by kernel_rfl
def f185_0_s (c : Orc) (lf : Nat) (l0 l1 : List T) (L : Int → Option (List T)) (x363 : Int) : Option (List T) :=
 bif iLt x363 (l0.length : Int) then
  bif inR x363 l0.length then
  bif inR x363 l1.length then
  (c 216 [T.st [T.i .i64 (asI (T.cell (l0.getD x363.toNat T.u) 0)), T.i .i64 (asI (T.cell (l0.getD x363.toNat T.u) 1))], T.st [T.i .i64 (asI (T.cell (l1.getD x363.toNat T.u) 0)), T.i .i64 (asI (T.cell (l1.getD x363.toNat T.u) 1))]]).bind fun r364 =>
  bif !(asB (nth r364 0)) then
   some [T.i .i64 0, T.b false]
  else
   L (IntKind.wrap .i64 (x363 + 1))
  else none
  else none
 else
  some [T.i .i64 1]
def f185_0_c (l0 l1 : List T) (x363 : Int) : CSt := ⟨[.ro 0 true [.i .i64, .i .i64] l0, .ro 0 true [.i .i64, .i .i64] l1, .i .i64 x363], [.dead, .dead]⟩
theorem f185_0_round (c : Orc) (lf : Nat) (l0 l1 : List T) (L : CSt → Option (List T)) (x363 : Int) :
 roundK c env lf 6 fi185 2 4 [] [0, 1, 5] (x185_4_0) L (f185_0_c l0 l1 x363) = f185_0_s c lf l0 l1 (fun x363 => L (f185_0_c l0 l1 x363)) x363 := by kernel_rfl
def f185_0 (c : Orc) (lf : Nat) (l0 l1 : List T) : Nat → Int → Option (List T)
 | 0 => fun _ => none
 | n + 1 => fun x363 => f185_0_s c lf l0 l1 (f185_0 c lf l0 l1 n) x363
theorem f185_0_eq (c : Orc) (lf : Nat) (l0 l1 : List T) (n : Nat) (x363 : Int) :
 lpK c env lf 6 fi185 2 4 [] [0, 1, 5] (x185_4_0) n (f185_0_c l0 l1 x363) = f185_0 c lf l0 l1 n x363 := by
 induction n generalizing x363 with
 | zero => rfl
 | succ n ih =>
  refine (f185_0_round c lf l0 l1 _ x363).trans ?_
  have e : (fun x363 => lpK c env lf 6 fi185 2 4 [] [0, 1, 5] (x185_4_0) n (f185_0_c l0 l1 x363)) = f185_0 c lf l0 l1 n := by funext x363; exact ih x363
  show f185_0_s c lf l0 l1 (fun x363 => lpK c env lf 6 fi185 2 4 [] [0, 1, 5] (x185_4_0) n (f185_0_c l0 l1 x363)) x363 = _
  rw [e]; rfl
def f185_t (c : Orc) (lf : Nat) (lp0 : List T → List T → Int → Option (List T)) (l0 l1 : List T) : Option (List T) :=
 bif (l0.length : Int) != (l1.length : Int) then
  some [T.b false]
 else
  (lp0 l0 l1 0).bind fun r365 =>
  bif asI (nth r365 0) == 0 then
   some [T.b (asB (nth r365 1))]
  else
   some [T.b true]
def f185 (c : Orc) (lf : Nat) (l0 l1 : List T) : Option (List T) := f185_t c lf (fun (l0 l1 : List T) (x363 : Int) => f185_0 c lf l0 l1 lf x363) l0 l1
theorem f185_raw (c : Orc) (lf : Nat) (l0 l1 : List T) : funK c env lf 6 fi185 [.sl l0, .sl l1] = f185_t c lf (fun (l0 l1 : List T) (x363 : Int) => lpK c env lf 6 fi185 2 4 [] [0, 1, 5] (x185_4_0) lf (f185_0_c l0 l1 x363)) l0 l1 := by kernel_rfl
theorem f185_eq (c : Orc) (lf : Nat) (l0 l1 : List T) : funK c env lf 6 fi185 [.sl l0, .sl l1] = f185 c lf l0 l1 := by
 refine (f185_raw c lf l0 l1).trans ?_
 have e0 : (fun (l0 l1 : List T) (x363 : Int) => lpK c env lf 6 fi185 2 4 [] [0, 1, 5] (x185_4_0) lf (f185_0_c l0 l1 x363)) = (fun (l0 l1 : List T) (x363 : Int) => f185_0 c lf l0 l1 lf x363) := by funext l0 l1 x363; exact f185_0_eq c lf l0 l1 lf x363
 rw [e0]; rfl
def f131_t (c : Orc) (lf : Nat) (n0_0 : Int) (l0_1 : List T) (n1_0 : Int) (l1_1 : List T) : Option (List T) :=
 bif n0_0 != n1_0 then
  some [T.b false]
 else
  (c 185 [T.sl l0_1, T.sl l1_1]).bind fun r366 =>
  bif !(asB (nth r366 0)) then
   some [T.b false]
  else
   some [T.b true]
def f131 (c : Orc) (lf : Nat) (n0_0 : Int) (l0_1 : List T) (n1_0 : Int) (l1_1 : List T) : Option (List T) := f131_t c lf n0_0 l0_1 n1_0 l1_1
theorem f131_eq (c : Orc) (lf : Nat) (n0_0 : Int) (l0_1 : List T) (n1_0 : Int) (l1_1 : List T) : funK c env lf 6 fi131 [.st [.i .i64 n0_0, .sl l0_1], .st [.i .i64 n1_0, .sl l1_1]] = f131 c lf n0_0 l0_1 n1_0 l1_1 := by kernel_rfl
def f73_0_s (c : Orc) (lf : Nat) (l0 l1 : List T) (L : Int → Option (List T)) (x372 : Int) : Option (List T) :=
 bif iLt x372 (l0.length : Int) then
  bif inR x372 l0.length then
  bif inR x372 l1.length then
  (c 131 [T.st [T.i .i64 (asI (T.cell (l0.getD x372.toNat T.u) 0)), T.sl (asL (T.cell (l0.getD x372.toNat T.u) 1))], T.st [T.i .i64 (asI (T.cell (l1.getD x372.toNat T.u) 0)), T.sl (asL (T.cell (l1.getD x372.toNat T.u) 1))]]).bind fun r373 =>
  bif !(asB (nth r373 0)) then
   some [T.i .i64 0, T.b false]
  else
   L (IntKind.wrap .i64 (x372 + 1))
  else none
  else none
 else
  some [T.i .i64 1]
def f73_0_c (l0 l1 : List T) (x372 : Int) : CSt := ⟨[.ro 0 true [.i .i64, .sl true [.i .i64, .i .i64]] l0, .ro 0 true [.i .i64, .sl true [.i .i64, .i .i64]] l1, .i .i64 x372], [.dead, .dead]⟩
theorem f73_0_round (c : Orc) (lf : Nat) (l0 l1 : List T) (L : CSt → Option (List T)) (x372 : Int) :
 roundK c env lf 6 fi73 2 4 [] [0, 1, 5] (x73_4_0) L (f73_0_c l0 l1 x372) = f73_0_s c lf l0 l1 (fun x372 => L (f73_0_c l0 l1 x372)) x372 := by kernel_rfl
def f73_0 (c : Orc) (lf : Nat) (l0 l1 : List T) : Nat → Int → Option (List T)
 | 0 => fun _ => none
 | n + 1 => fun x372 => f73_0_s c lf l0 l1 (f73_0 c lf l0 l1 n) x372
theorem f73_0_eq (c : Orc) (lf : Nat) (l0 l1 : List T) (n : Nat) (x372 : Int) :
 lpK c env lf 6 fi73 2 4 [] [0, 1, 5] (x73_4_0) n (f73_0_c l0 l1 x372) = f73_0 c lf l0 l1 n x372 := by
 induction n generalizing x372 with
 | zero => rfl
 | succ n ih =>
  refine (f73_0_round c lf l0 l1 _ x372).trans ?_
  have e : (fun x372 => lpK c env lf 6 fi73 2 4 [] [0, 1, 5] (x73_4_0) n (f73_0_c l0 l1 x372)) = f73_0 c lf l0 l1 n := by funext x372; exact ih x372
  show f73_0_s c lf l0 l1 (fun x372 => lpK c env lf 6 fi73 2 4 [] [0, 1, 5] (x73_4_0) n (f73_0_c l0 l1 x372)) x372 = _
  rw [e]; rfl
def f73_t (c : Orc) (lf : Nat) (lp0 : List T → List T → Int → Option (List T)) (l0 l1 : List T) : Option (List T) :=
 bif (l0.length : Int) != (l1.length : Int) then
  some [T.b false]
 else
  (lp0 l0 l1 0).bind fun r374 =>
  bif asI (nth r374 0) == 0 then
   some [T.b (asB (nth r374 1))]
  else
   some [T.b true]
def f73 (c : Orc) (lf : Nat) (l0 l1 : List T) : Option (List T) := f73_t c lf (fun (l0 l1 : List T) (x372 : Int) => f73_0 c lf l0 l1 lf x372) l0 l1
theorem f73_raw (c : Orc) (lf : Nat) (l0 l1 : List T) : funK c env lf 6 fi73 [.sl l0, .sl l1] = f73_t c lf (fun (l0 l1 : List T) (x372 : Int) => lpK c env lf 6 fi73 2 4 [] [0, 1, 5] (x73_4_0) lf (f73_0_c l0 l1 x372)) l0 l1 := by kernel_rfl
theorem f73_eq (c : Orc) (lf : Nat) (l0 l1 : List T) : funK c env lf 6 fi73 [.sl l0, .sl l1] = f73 c lf l0 l1 := by
 refine (f73_raw c lf l0 l1).trans ?_
 have e0 : (fun (l0 l1 : List T) (x372 : Int) => lpK c env lf 6 fi73 2 4 [] [0, 1, 5] (x73_4_0) lf (f73_0_c l0 l1 x372)) = (fun (l0 l1 : List T) (x372 : Int) => f73_0 c lf l0 l1 lf x372) := by funext l0 l1 x372; exact f73_0_eq c lf l0 l1 lf x372
 rw [e0]; rfl
def f31_t (c : Orc) (lf : Nat) (l0_0 : List T) (n0_1 n0_2 : Int) (l0_3 l0_4 : List T) (n0_5 n0_6 : Int) (l1_0 : List T) (n1_1 n1_2 : Int) (l1_3 l1_4 : List T) (n1_5 n1_6 : Int) : Option (List T) :=
 (c 30 [T.st [T.sl l0_0, T.i .i64 n0_1], T.st [T.sl l1_0, T.i .i64 n1_1]]).bind fun r375 =>
 bif !(asB (nth r375 0)) then
  some [T.b false]
 else
  (c 72 [T.st [T.i .i64 n0_2, T.sl l0_3], T.st [T.i .i64 n1_2, T.sl l1_3]]).bind fun r376 =>
  bif !(asB (nth r376 0)) then
   some [T.b false]
  else
   (c 73 [T.sl l0_4, T.sl l1_4]).bind fun r377 =>
   bif !(asB (nth r377 0)) then
    some [T.b false]
   else
    bif n0_5 != n1_5 then
     some [T.b false]
    else
     bif n0_6 != n1_6 then
      some [T.b false]
     else
      some [T.b true]
def f31 (c : Orc) (lf : Nat) (l0_0 : List T) (n0_1 n0_2 : Int) (l0_3 l0_4 : List T) (n0_5 n0_6 : Int) (l1_0 : List T) (n1_1 n1_2 : Int) (l1_3 l1_4 : List T) (n1_5 n1_6 : Int) : Option (List T) := f31_t c lf l0_0 n0_1 n0_2 l0_3 l0_4 n0_5 n0_6 l1_0 n1_1 n1_2 l1_3 l1_4 n1_5 n1_6
theorem f31_eq (c : Orc) (lf : Nat) (l0_0 : List T) (n0_1 n0_2 : Int) (l0_3 l0_4 : List T) (n0_5 n0_6 : Int) (l1_0 : List T) (n1_1 n1_2 : Int) (l1_3 l1_4 : List T) (n1_5 n1_6 : Int) : funK c env lf 6 fi31 [.st [.sl l0_0, .i .i64 n0_1, .i .i64 n0_2, .sl l0_3, .sl l0_4, .i .i64 n0_5, .i .i64 n0_6], .st [.sl l1_0, .i .i64 n1_1, .i .i64 n1_2, .sl l1_3, .sl l1_4, .i .i64 n1_5, .i .i64 n1_6]] = f31 c lf l0_0 n0_1 n0_2 l0_3 l0_4 n0_5 n0_6 l1_0 n1_1 n1_2 l1_3 l1_4 n1_5 n1_6 := by kernel_rfl
def f255_t (c : Orc) (lf : Nat) (b0_0 : Bool) (l0_1 : List T) (b1_0 : Bool) (l1_1 : List T) : Option (List T) :=
 bif !(b0_0 == b1_0) then
  some [T.b false]
 else
  (c 252 [T.sl l0_1, T.sl l1_1]).bind fun r378 =>
  bif !(asB (nth r378 0)) then
   some [T.b false]
  else
   some [T.b true]
def f255 (c : Orc) (lf : Nat) (b0_0 : Bool) (l0_1 : List T) (b1_0 : Bool) (l1_1 : List T) : Option (List T) := f255_t c lf b0_0 l0_1 b1_0 l1_1
theorem f255_eq (c : Orc) (lf : Nat) (b0_0 : Bool) (l0_1 : List T) (b1_0 : Bool) (l1_1 : List T) : funK c env lf 6 fi255 [.st [.b b0_0, .sl l0_1], .st [.b b1_0, .sl l1_1]] = f255 c lf b0_0 l0_1 b1_0 l1_1 := by kernel_rfl
def f243_0_s (c : Orc) (lf : Nat) (l0 l1 : List T) (L : Int → Option (List T)) (x384 : Int) : Option (List T) :=
 bif iLt x384 (l0.length : Int) then
  bif inR x384 l0.length then
  bif inR x384 l1.length then
  (c 255 [T.st [T.b (asB (T.cell (l0.getD x384.toNat T.u) 0)), T.sl (asL (T.cell (l0.getD x384.toNat T.u) 1))], T.st [T.b (asB (T.cell (l1.getD x384.toNat T.u) 0)), T.sl (asL (T.cell (l1.getD x384.toNat T.u) 1))]]).bind fun r385 =>
  bif !(asB (nth r385 0)) then
   some [T.i .i64 0, T.b false]
  else
   L (IntKind.wrap .i64 (x384 + 1))
  else none
  else none
 else
  some [T.i .i64 1]
def f243_0_c (l0 l1 : List T) (x384 : Int) : CSt := ⟨[.ro 0 true [.b, .sl false [.i .u8]] l0, .ro 0 true [.b, .sl false [.i .u8]] l1, .i .i64 x384], [.dead, .dead]⟩
theorem f243_0_round (c : Orc) (lf : Nat) (l0 l1 : List T) (L : CSt → Option (List T)) (x384 : Int) :
 roundK c env lf 6 fi243 2 4 [] [0, 1, 5] (x243_4_0) L (f243_0_c l0 l1 x384) = f243_0_s c lf l0 l1 (fun x384 => L (f243_0_c l0 l1 x384)) x384 := by kernel_rfl
def f243_0 (c : Orc) (lf : Nat) (l0 l1 : List T) : Nat → Int → Option (List T)
 | 0 => fun _ => none
 | n + 1 => fun x384 => f243_0_s c lf l0 l1 (f243_0 c lf l0 l1 n) x384
theorem f243_0_eq (c : Orc) (lf : Nat) (l0 l1 : List T) (n : Nat) (x384 : Int) :
 lpK c env lf 6 fi243 2 4 [] [0, 1, 5] (x243_4_0) n (f243_0_c l0 l1 x384) = f243_0 c lf l0 l1 n x384 := by
 induction n generalizing x384 with
 | zero => rfl
 | succ n ih =>
  refine (f243_0_round c lf l0 l1 _ x384).trans ?_
  have e : (fun x384 => lpK c env lf 6 fi243 2 4 [] [0, 1, 5] (x243_4_0) n (f243_0_c l0 l1 x384)) = f243_0 c lf l0 l1 n := by funext x384; exact ih x384
  show f243_0_s c lf l0 l1 (fun x384 => lpK c env lf 6 fi243 2 4 [] [0, 1, 5] (x243_4_0) n (f243_0_c l0 l1 x384)) x384 = _
  rw [e]; rfl
def f243_t (c : Orc) (lf : Nat) (lp0 : List T → List T → Int → Option (List T)) (l0 l1 : List T) : Option (List T) :=
 bif (l0.length : Int) != (l1.length : Int) then
  some [T.b false]
 else
  (lp0 l0 l1 0).bind fun r386 =>
  bif asI (nth r386 0) == 0 then
   some [T.b (asB (nth r386 1))]
  else
   some [T.b true]
def f243 (c : Orc) (lf : Nat) (l0 l1 : List T) : Option (List T) := f243_t c lf (fun (l0 l1 : List T) (x384 : Int) => f243_0 c lf l0 l1 lf x384) l0 l1
theorem f243_raw (c : Orc) (lf : Nat) (l0 l1 : List T) : funK c env lf 6 fi243 [.sl l0, .sl l1] = f243_t c lf (fun (l0 l1 : List T) (x384 : Int) => lpK c env lf 6 fi243 2 4 [] [0, 1, 5] (x243_4_0) lf (f243_0_c l0 l1 x384)) l0 l1 := by kernel_rfl
theorem f243_eq (c : Orc) (lf : Nat) (l0 l1 : List T) : funK c env lf 6 fi243 [.sl l0, .sl l1] = f243 c lf l0 l1 := by
 refine (f243_raw c lf l0 l1).trans ?_
 have e0 : (fun (l0 l1 : List T) (x384 : Int) => lpK c env lf 6 fi243 2 4 [] [0, 1, 5] (x243_4_0) lf (f243_0_c l0 l1 x384)) = (fun (l0 l1 : List T) (x384 : Int) => f243_0 c lf l0 l1 lf x384) := by funext l0 l1 x384; exact f243_0_eq c lf l0 l1 lf x384
 rw [e0]; rfl
def f217_t (c : Orc) (lf : Nat) (l0_0 : List T) (n0_1 : Int) (b0_2 : Bool) (l1_0 : List T) (n1_1 : Int) (b1_2 : Bool) : Option (List T) :=
 (c 243 [T.sl l0_0, T.sl l1_0]).bind fun r387 =>
 bif !(asB (nth r387 0)) then
  some [T.b false]
 else
  bif n0_1 != n1_1 then
   some [T.b false]
  else
   bif !(b0_2 == b1_2) then
    some [T.b false]
   else
    some [T.b true]
def f217 (c : Orc) (lf : Nat) (l0_0 : List T) (n0_1 : Int) (b0_2 : Bool) (l1_0 : List T) (n1_1 : Int) (b1_2 : Bool) : Option (List T) := f217_t c lf l0_0 n0_1 b0_2 l1_0 n1_1 b1_2
theorem f217_eq (c : Orc) (lf : Nat) (l0_0 : List T) (n0_1 : Int) (b0_2 : Bool) (l1_0 : List T) (n1_1 : Int) (b1_2 : Bool) : funK c env lf 6 fi217 [.st [.sl l0_0, .i .i64 n0_1, .b b0_2], .st [.sl l1_0, .i .i64 n1_1, .b b1_2]] = f217 c lf l0_0 n0_1 b0_2 l1_0 n1_1 b1_2 := by kernel_rfl
def f186_0_s (c : Orc) (lf : Nat) (l0 l1 : List T) (L : Int → Option (List T)) (x393 : Int) : Option (List T) :=
 bif iLt x393 (l0.length : Int) then
  bif inR x393 l0.length then
  bif inR x393 l1.length then
  (c 217 [T.st [T.sl (asL (T.cell (l0.getD x393.toNat T.u) 0)), T.i .i64 (asI (T.cell (l0.getD x393.toNat T.u) 1)), T.b (asB (T.cell (l0.getD x393.toNat T.u) 2))], T.st [T.sl (asL (T.cell (l1.getD x393.toNat T.u) 0)), T.i .i64 (asI (T.cell (l1.getD x393.toNat T.u) 1)), T.b (asB (T.cell (l1.getD x393.toNat T.u) 2))]]).bind fun r394 =>
  bif !(asB (nth r394 0)) then
   some [T.i .i64 0, T.b false]
  else
   L (IntKind.wrap .i64 (x393 + 1))
  else none
  else none
 else
  some [T.i .i64 1]
def f186_0_c (l0 l1 : List T) (x393 : Int) : CSt := ⟨[.ro 0 true [.sl true [.b, .sl false [.i .u8]], .i .i64, .b] l0, .ro 0 true [.sl true [.b, .sl false [.i .u8]], .i .i64, .b] l1, .i .i64 x393], [.dead, .dead]⟩
theorem f186_0_round (c : Orc) (lf : Nat) (l0 l1 : List T) (L : CSt → Option (List T)) (x393 : Int) :
 roundK c env lf 6 fi186 2 4 [] [0, 1, 5] (x186_4_0) L (f186_0_c l0 l1 x393) = f186_0_s c lf l0 l1 (fun x393 => L (f186_0_c l0 l1 x393)) x393 := by kernel_rfl
def f186_0 (c : Orc) (lf : Nat) (l0 l1 : List T) : Nat → Int → Option (List T)
 | 0 => fun _ => none
 | n + 1 => fun x393 => f186_0_s c lf l0 l1 (f186_0 c lf l0 l1 n) x393
theorem f186_0_eq (c : Orc) (lf : Nat) (l0 l1 : List T) (n : Nat) (x393 : Int) :
 lpK c env lf 6 fi186 2 4 [] [0, 1, 5] (x186_4_0) n (f186_0_c l0 l1 x393) = f186_0 c lf l0 l1 n x393 := by
 induction n generalizing x393 with
 | zero => rfl
 | succ n ih =>
  refine (f186_0_round c lf l0 l1 _ x393).trans ?_
  have e : (fun x393 => lpK c env lf 6 fi186 2 4 [] [0, 1, 5] (x186_4_0) n (f186_0_c l0 l1 x393)) = f186_0 c lf l0 l1 n := by funext x393; exact ih x393
  show f186_0_s c lf l0 l1 (fun x393 => lpK c env lf 6 fi186 2 4 [] [0, 1, 5] (x186_4_0) n (f186_0_c l0 l1 x393)) x393 = _
  rw [e]; rfl
def f186_t (c : Orc) (lf : Nat) (lp0 : List T → List T → Int → Option (List T)) (l0 l1 : List T) : Option (List T) :=
 bif (l0.length : Int) != (l1.length : Int) then
  some [T.b false]
 else
  (lp0 l0 l1 0).bind fun r395 =>
  bif asI (nth r395 0) == 0 then
   some [T.b (asB (nth r395 1))]
  else
   some [T.b true]
def f186 (c : Orc) (lf : Nat) (l0 l1 : List T) : Option (List T) := f186_t c lf (fun (l0 l1 : List T) (x393 : Int) => f186_0 c lf l0 l1 lf x393) l0 l1
theorem f186_raw (c : Orc) (lf : Nat) (l0 l1 : List T) : funK c env lf 6 fi186 [.sl l0, .sl l1] = f186_t c lf (fun (l0 l1 : List T) (x393 : Int) => lpK c env lf 6 fi186 2 4 [] [0, 1, 5] (x186_4_0) lf (f186_0_c l0 l1 x393)) l0 l1 := by kernel_rfl
theorem f186_eq (c : Orc) (lf : Nat) (l0 l1 : List T) : funK c env lf 6 fi186 [.sl l0, .sl l1] = f186 c lf l0 l1 := by
 refine (f186_raw c lf l0 l1).trans ?_
 have e0 : (fun (l0 l1 : List T) (x393 : Int) => lpK c env lf 6 fi186 2 4 [] [0, 1, 5] (x186_4_0) lf (f186_0_c l0 l1 x393)) = (fun (l0 l1 : List T) (x393 : Int) => f186_0 c lf l0 l1 lf x393) := by funext l0 l1 x393; exact f186_0_eq c lf l0 l1 lf x393
 rw [e0]; rfl
def f132_t (c : Orc) (lf : Nat) (l0_0 l1_0 : List T) : Option (List T) :=
 (c 186 [T.sl l0_0, T.sl l1_0]).bind fun r396 =>
 bif !(asB (nth r396 0)) then
  some [T.b false]
 else
  some [T.b true]
def f132 (c : Orc) (lf : Nat) (l0_0 l1_0 : List T) : Option (List T) := f132_t c lf l0_0 l1_0
theorem f132_eq (c : Orc) (lf : Nat) (l0_0 l1_0 : List T) : funK c env lf 6 fi132 [.st [.sl l0_0], .st [.sl l1_0]] = f132 c lf l0_0 l1_0 := by kernel_rfl
def f33_t (c : Orc) (lf : Nat) (n0_0 n0_1 : Int) (n0_2 n1_0 : Int) (n1_1 n1_2 : Int) : Option (List T) :=
 bif n0_0 != n1_0 then
  some [T.b false]
 else
  bif n0_1 != n1_1 then
   some [T.b false]
  else
   bif n0_2 != n1_2 then
    some [T.b false]
   else
    some [T.b true]
def f33 (c : Orc) (lf : Nat) (n0_0 n0_1 : Int) (n0_2 n1_0 : Int) (n1_1 n1_2 : Int) : Option (List T) := f33_t c lf n0_0 n0_1 n0_2 n1_0 n1_1 n1_2
theorem f33_eq (c : Orc) (lf : Nat) (n0_0 n0_1 : Int) (n0_2 n1_0 : Int) (n1_1 n1_2 : Int) : funK c env lf 6 fi33 [.st [.i .i64 n0_0, .i .i64 n0_1, .i .i64 n0_2], .st [.i .i64 n1_0, .i .i64 n1_1, .i .i64 n1_2]] = f33 c lf n0_0 n0_1 n0_2 n1_0 n1_1 n1_2 := by kernel_rfl
def f10_0_s (c : Orc) (lf : Nat) (l0 l1 : List T) (L : Int → Option (List T)) (x402 : Int) : Option (List T) :=
 bif iLt x402 (l0.length : Int) then
  bif inR x402 l0.length then
  bif inR x402 l1.length then
  (c 33 [T.st [T.i .i64 (asI (T.cell (l0.getD x402.toNat T.u) 0)), T.i .i64 (asI (T.cell (l0.getD x402.toNat T.u) 1)), T.i .i64 (asI (T.cell (l0.getD x402.toNat T.u) 2))], T.st [T.i .i64 (asI (T.cell (l1.getD x402.toNat T.u) 0)), T.i .i64 (asI (T.cell (l1.getD x402.toNat T.u) 1)), T.i .i64 (asI (T.cell (l1.getD x402.toNat T.u) 2))]]).bind fun r403 =>
  bif !(asB (nth r403 0)) then
   some [T.i .i64 0, T.b false]
  else
   L (IntKind.wrap .i64 (x402 + 1))
  else none
  else none
 else
  some [T.i .i64 1]
def f10_0_c (l0 l1 : List T) (x402 : Int) : CSt := ⟨[.ro 0 true [.i .i64, .i .i64, .i .i64] l0, .ro 0 true [.i .i64, .i .i64, .i .i64] l1, .i .i64 x402], [.dead, .dead]⟩
theorem f10_0_round (c : Orc) (lf : Nat) (l0 l1 : List T) (L : CSt → Option (List T)) (x402 : Int) :
 roundK c env lf 6 fi10 2 4 [] [0, 1, 5] (x10_4_0) L (f10_0_c l0 l1 x402) = f10_0_s c lf l0 l1 (fun x402 => L (f10_0_c l0 l1 x402)) x402 := by kernel_rfl
def f10_0 (c : Orc) (lf : Nat) (l0 l1 : List T) : Nat → Int → Option (List T)
 | 0 => fun _ => none
 | n + 1 => fun x402 => f10_0_s c lf l0 l1 (f10_0 c lf l0 l1 n) x402
theorem f10_0_eq (c : Orc) (lf : Nat) (l0 l1 : List T) (n : Nat) (x402 : Int) :
 lpK c env lf 6 fi10 2 4 [] [0, 1, 5] (x10_4_0) n (f10_0_c l0 l1 x402) = f10_0 c lf l0 l1 n x402 := by
 induction n generalizing x402 with
 | zero => rfl
 | succ n ih =>
  refine (f10_0_round c lf l0 l1 _ x402).trans ?_
  have e : (fun x402 => lpK c env lf 6 fi10 2 4 [] [0, 1, 5] (x10_4_0) n (f10_0_c l0 l1 x402)) = f10_0 c lf l0 l1 n := by funext x402; exact ih x402
  show f10_0_s c lf l0 l1 (fun x402 => lpK c env lf 6 fi10 2 4 [] [0, 1, 5] (x10_4_0) n (f10_0_c l0 l1 x402)) x402 = _
  rw [e]; rfl
def f10_t (c : Orc) (lf : Nat) (lp0 : List T → List T → Int → Option (List T)) (l0 l1 : List T) : Option (List T) :=
 bif (l0.length : Int) != (l1.length : Int) then
  some [T.b false]
 else
  (lp0 l0 l1 0).bind fun r404 =>
  bif asI (nth r404 0) == 0 then
   some [T.b (asB (nth r404 1))]
  else
   some [T.b true]
def f10 (c : Orc) (lf : Nat) (l0 l1 : List T) : Option (List T) := f10_t c lf (fun (l0 l1 : List T) (x402 : Int) => f10_0 c lf l0 l1 lf x402) l0 l1
theorem f10_raw (c : Orc) (lf : Nat) (l0 l1 : List T) : funK c env lf 6 fi10 [.sl l0, .sl l1] = f10_t c lf (fun (l0 l1 : List T) (x402 : Int) => lpK c env lf 6 fi10 2 4 [] [0, 1, 5] (x10_4_0) lf (f10_0_c l0 l1 x402)) l0 l1 := by kernel_rfl
theorem f10_eq (c : Orc) (lf : Nat) (l0 l1 : List T) : funK c env lf 6 fi10 [.sl l0, .sl l1] = f10 c lf l0 l1 := by
 refine (f10_raw c lf l0 l1).trans ?_
 have e0 : (fun (l0 l1 : List T) (x402 : Int) => lpK c env lf 6 fi10 2 4 [] [0, 1, 5] (x10_4_0) lf (f10_0_c l0 l1 x402)) = (fun (l0 l1 : List T) (x402 : Int) => f10_0 c lf l0 l1 lf x402) := by funext l0 l1 x402; exact f10_0_eq c lf l0 l1 lf x402
 rw [e0]; rfl
def f74_t (c : Orc) (lf : Nat) (l0_0 : List T) (n0_1 : Int) (l0_2 : List T) (b0_3 : Bool) (l1_0 : List T) (n1_1 : Int) (l1_2 : List T) (b1_3 : Bool) : Option (List T) :=
 (c 132 [T.st [T.sl l0_0], T.st [T.sl l1_0]]).bind fun r405 =>
 bif !(asB (nth r405 0)) then
  some [T.b false]
 else
  bif n0_1 != n1_1 then
   some [T.b false]
  else
   (c 10 [T.sl l0_2, T.sl l1_2]).bind fun r406 =>
   bif !(asB (nth r406 0)) then
    some [T.b false]
   else
    bif !(b0_3 == b1_3) then
     some [T.b false]
    else
     some [T.b true]
def f74 (c : Orc) (lf : Nat) (l0_0 : List T) (n0_1 : Int) (l0_2 : List T) (b0_3 : Bool) (l1_0 : List T) (n1_1 : Int) (l1_2 : List T) (b1_3 : Bool) : Option (List T) := f74_t c lf l0_0 n0_1 l0_2 b0_3 l1_0 n1_1 l1_2 b1_3
theorem f74_eq (c : Orc) (lf : Nat) (l0_0 : List T) (n0_1 : Int) (l0_2 : List T) (b0_3 : Bool) (l1_0 : List T) (n1_1 : Int) (l1_2 : List T) (b1_3 : Bool) : funK c env lf 6 fi74 [.st [.sl l0_0, .i .i64 n0_1, .sl l0_2, .b b0_3], .st [.sl l1_0, .i .i64 n1_1, .sl l1_2, .b b1_3]] = f74 c lf l0_0 n0_1 l0_2 b0_3 l1_0 n1_1 l1_2 b1_3 := by kernel_rfl
def f32_t (c : Orc) (lf : Nat) (l0_0 : List T) (n0_1 : Int) (l0_2 : List T) (b0_3 : Bool) (n0_4 : Int) (l1_0 : List T) (n1_1 : Int) (l1_2 : List T) (b1_3 : Bool) (n1_4 : Int) : Option (List T) :=
 (c 74 [T.st [T.sl l0_0, T.i .i64 n0_1, T.sl l0_2, T.b b0_3], T.st [T.sl l1_0, T.i .i64 n1_1, T.sl l1_2, T.b b1_3]]).bind fun r407 =>
 bif !(asB (nth r407 0)) then
  some [T.b false]
 else
  bif n0_4 != n1_4 then
   some [T.b false]
  else
   some [T.b true]
def f32 (c : Orc) (lf : Nat) (l0_0 : List T) (n0_1 : Int) (l0_2 : List T) (b0_3 : Bool) (n0_4 : Int) (l1_0 : List T) (n1_1 : Int) (l1_2 : List T) (b1_3 : Bool) (n1_4 : Int) : Option (List T) := f32_t c lf l0_0 n0_1 l0_2 b0_3 n0_4 l1_0 n1_1 l1_2 b1_3 n1_4
theorem f32_eq (c : Orc) (lf : Nat) (l0_0 : List T) (n0_1 : Int) (l0_2 : List T) (b0_3 : Bool) (n0_4 : Int) (l1_0 : List T) (n1_1 : Int) (l1_2 : List T) (b1_3 : Bool) (n1_4 : Int) : funK c env lf 6 fi32 [.st [.sl l0_0, .i .i64 n0_1, .sl l0_2, .b b0_3, .i .i64 n0_4], .st [.sl l1_0, .i .i64 n1_1, .sl l1_2, .b b1_3, .i .i64 n1_4]] = f32 c lf l0_0 n0_1 l0_2 b0_3 n0_4 l1_0 n1_1 l1_2 b1_3 n1_4 := by kernel_rfl
def f9_t (c : Orc) (lf : Nat) (l0_0 : List T) (n0_1 : Int) (l0_2 : List T) (n0_3 n0_4 : Int) (l0_5 l0_6 : List T) (n0_7 n0_8 : Int) (l0_9 : List T) (n0_10 : Int) (l0_11 : List T) (b0_12 : Bool) (n0_13 : Int) (l1_0 : List T) (n1_1 : Int) (l1_2 : List T) (n1_3 n1_4 : Int) (l1_5 l1_6 : List T) (n1_7 n1_8 : Int) (l1_9 : List T) (n1_10 : Int) (l1_11 : List T) (b1_12 : Bool) (n1_13 : Int) : Option (List T) :=
 (c 30 [T.st [T.sl l0_0, T.i .i64 n0_1], T.st [T.sl l1_0, T.i .i64 n1_1]]).bind fun r408 =>
 bif !(asB (nth r408 0)) then
  some [T.b false]
 else
  (c 31 [T.st [T.sl l0_2, T.i .i64 n0_3, T.i .i64 n0_4, T.sl l0_5, T.sl l0_6, T.i .i64 n0_7, T.i .i64 n0_8], T.st [T.sl l1_2, T.i .i64 n1_3, T.i .i64 n1_4, T.sl l1_5, T.sl l1_6, T.i .i64 n1_7, T.i .i64 n1_8]]).bind fun r409 =>
  bif !(asB (nth r409 0)) then
   some [T.b false]
  else
   (c 32 [T.st [T.sl l0_9, T.i .i64 n0_10, T.sl l0_11, T.b b0_12, T.i .i64 n0_13], T.st [T.sl l1_9, T.i .i64 n1_10, T.sl l1_11, T.b b1_12, T.i .i64 n1_13]]).bind fun r410 =>
   bif !(asB (nth r410 0)) then
    some [T.b false]
   else
    some [T.b true]
def f9 (c : Orc) (lf : Nat) (l0_0 : List T) (n0_1 : Int) (l0_2 : List T) (n0_3 n0_4 : Int) (l0_5 l0_6 : List T) (n0_7 n0_8 : Int) (l0_9 : List T) (n0_10 : Int) (l0_11 : List T) (b0_12 : Bool) (n0_13 : Int) (l1_0 : List T) (n1_1 : Int) (l1_2 : List T) (n1_3 n1_4 : Int) (l1_5 l1_6 : List T) (n1_7 n1_8 : Int) (l1_9 : List T) (n1_10 : Int) (l1_11 : List T) (b1_12 : Bool) (n1_13 : Int) : Option (List T) := f9_t c lf l0_0 n0_1 l0_2 n0_3 n0_4 l0_5 l0_6 n0_7 n0_8 l0_9 n0_10 l0_11 b0_12 n0_13 l1_0 n1_1 l1_2 n1_3 n1_4 l1_5 l1_6 n1_7 n1_8 l1_9 n1_10 l1_11 b1_12 n1_13
theorem f9_eq (c : Orc) (lf : Nat) (l0_0 : List T) (n0_1 : Int) (l0_2 : List T) (n0_3 n0_4 : Int) (l0_5 l0_6 : List T) (n0_7 n0_8 : Int) (l0_9 : List T) (n0_10 : Int) (l0_11 : List T) (b0_12 : Bool) (n0_13 : Int) (l1_0 : List T) (n1_1 : Int) (l1_2 : List T) (n1_3 n1_4 : Int) (l1_5 l1_6 : List T) (n1_7 n1_8 : Int) (l1_9 : List T) (n1_10 : Int) (l1_11 : List T) (b1_12 : Bool) (n1_13 : Int) : funK c env lf 6 fi9 [.st [.sl l0_0, .i .i64 n0_1, .sl l0_2, .i .i64 n0_3, .i .i64 n0_4, .sl l0_5, .sl l0_6, .i .i64 n0_7, .i .i64 n0_8, .sl l0_9, .i .i64 n0_10, .sl l0_11, .b b0_12, .i .i64 n0_13], .st [.sl l1_0, .i .i64 n1_1, .sl l1_2, .i .i64 n1_3, .i .i64 n1_4, .sl l1_5, .sl l1_6, .i .i64 n1_7, .i .i64 n1_8, .sl l1_9, .i .i64 n1_10, .sl l1_11, .b b1_12, .i .i64 n1_13]] = f9 c lf l0_0 n0_1 l0_2 n0_3 n0_4 l0_5 l0_6 n0_7 n0_8 l0_9 n0_10 l0_11 b0_12 n0_13 l1_0 n1_1 l1_2 n1_3 n1_4 l1_5 l1_6 n1_7 n1_8 l1_9 n1_10 l1_11 b1_12 n1_13 := by kernel_rfl
def f11_0_s (c : Orc) (lf : Nat) (L : Int → Int → List T → Option (List T)) (x415 x416 : Int) (x417 : List T) : Option (List T) :=
 bif iLt x416 (x417.length : Int) then
  bif inR x416 x417.length then
  bif inR x416 ((x417.set x416.toNat (T.setc (x417.getD x416.toNat T.u) 0 (T.i .i64 x415))).length) then
  bif inR x416 (((x417.set x416.toNat (T.setc (x417.getD x416.toNat T.u) 0 (T.i .i64 x415))).set x416.toNat (T.setc ((x417.set x416.toNat (T.setc (x417.getD x416.toNat T.u) 0 (T.i .i64 x415))).getD x416.toNat T.u) 1 (T.i .i64 (IntKind.wrap .i64 (x415 + 1))))).length) then
  L (IntKind.wrap .i64 ((IntKind.wrap .i64 ((IntKind.wrap .i64 (x415 + 1)) + 1)) + 1)) (IntKind.wrap .i64 (x416 + 1)) (((x417.set x416.toNat (T.setc (x417.getD x416.toNat T.u) 0 (T.i .i64 x415))).set x416.toNat (T.setc ((x417.set x416.toNat (T.setc (x417.getD x416.toNat T.u) 0 (T.i .i64 x415))).getD x416.toNat T.u) 1 (T.i .i64 (IntKind.wrap .i64 (x415 + 1))))).set x416.toNat (T.setc (((x417.set x416.toNat (T.setc (x417.getD x416.toNat T.u) 0 (T.i .i64 x415))).set x416.toNat (T.setc ((x417.set x416.toNat (T.setc (x417.getD x416.toNat T.u) 0 (T.i .i64 x415))).getD x416.toNat T.u) 1 (T.i .i64 (IntKind.wrap .i64 (x415 + 1))))).getD x416.toNat T.u) 2 (T.i .i64 (IntKind.wrap .i64 ((IntKind.wrap .i64 (x415 + 1)) + 1)))))
  else none
  else none
  else none
 else
  some [T.i .i64 0, T.i .i64 x415, T.sl x417]
def f11_0_c (x415 x416 : Int) (x417 : List T) : CSt := ⟨[.rf 0 [] 0 none, .i .i64 x415, .i .i64 x416], [.row true [.i .i64, .i .i64, .i .i64] x417 0 false, .dead]⟩
theorem f11_0_round (c : Orc) (lf : Nat) (L : CSt → Option (List T)) (x415 x416 : Int) (x417 : List T) :
 roundK c env lf 6 fi11 2 2 [] [0, 1, 5] (x11_2_0) L (f11_0_c x415 x416 x417) = f11_0_s c lf (fun x415 x416 x417 => L (f11_0_c x415 x416 x417)) x415 x416 x417 := by kernel_rfl
def f11_0 (c : Orc) (lf : Nat) : Nat → Int → Int → List T → Option (List T)
 | 0 => fun _ _ _ => none
 | n + 1 => fun x415 x416 x417 => f11_0_s c lf (f11_0 c lf n) x415 x416 x417
theorem f11_0_eq (c : Orc) (lf n : Nat) (x415 x416 : Int) (x417 : List T) :
 lpK c env lf 6 fi11 2 2 [] [0, 1, 5] (x11_2_0) n (f11_0_c x415 x416 x417) = f11_0 c lf n x415 x416 x417 := by
 induction n generalizing x415 x416 x417 with
 | zero => rfl
 | succ n ih =>
  refine (f11_0_round c lf _ x415 x416 x417).trans ?_
  have e : (fun x415 x416 x417 => lpK c env lf 6 fi11 2 2 [] [0, 1, 5] (x11_2_0) n (f11_0_c x415 x416 x417)) = f11_0 c lf n := by funext x415 x416 x417; exact ih x415 x416 x417
  show f11_0_s c lf (fun x415 x416 x417 => lpK c env lf 6 fi11 2 2 [] [0, 1, 5] (x11_2_0) n (f11_0_c x415 x416 x417)) x415 x416 x417 = _
  rw [e]; rfl
def f11_t (c : Orc) (lf : Nat) (lp0 : Int → Int → List T → Option (List T)) (l0 : List T) (n1 : Int) : Option (List T) :=
 (lp0 n1 0 l0).bind fun r418 =>
 some [T.i .i64 (asI (nth r418 1)), T.sl (asL (nth r418 2))]
def f11 (c : Orc) (lf : Nat) (l0 : List T) (n1 : Int) : Option (List T) := f11_t c lf (fun (x415 x416 : Int) (x417 : List T) => f11_0 c lf lf x415 x416 x417) l0 n1
theorem f11_raw (c : Orc) (lf : Nat) (l0 : List T) (n1 : Int) : funK c env lf 6 fi11 [.sl l0, .i .i64 n1] = f11_t c lf (fun (x415 x416 : Int) (x417 : List T) => lpK c env lf 6 fi11 2 2 [] [0, 1, 5] (x11_2_0) lf (f11_0_c x415 x416 x417)) l0 n1 := by kernel_rfl
theorem f11_eq (c : Orc) (lf : Nat) (l0 : List T) (n1 : Int) : funK c env lf 6 fi11 [.sl l0, .i .i64 n1] = f11 c lf l0 n1 := by
 refine (f11_raw c lf l0 n1).trans ?_
 have e0 : (fun (x415 x416 : Int) (x417 : List T) => lpK c env lf 6 fi11 2 2 [] [0, 1, 5] (x11_2_0) lf (f11_0_c x415 x416 x417)) = (fun (x415 x416 : Int) (x417 : List T) => f11_0 c lf lf x415 x416 x417) := by funext x415 x416 x417; exact f11_0_eq c lf lf x415 x416 x417
 rw [e0]; rfl
def f133_0_s (c : Orc) (lf : Nat) (L : Int → ByteArray → Option (List T)) (x422 : Int) (x423 : ByteArray) : Option (List T) :=
 bif iLt 0 x422 then
  bif nLe ((bytesOf ([T.i .u8 (IntKind.wrap .u8 (IntKind.wrap .i64 (48 + (x422.tmod 10))))] : List T)).size + x423.size) LIM then
  L (IntKind.wrap .i64 (x422.tdiv 10)) ((bytesOf ([T.i .u8 (IntKind.wrap .u8 (IntKind.wrap .i64 (48 + (x422.tmod 10))))] : List T)) ++ x423)
  else none
 else
  some [T.i .i64 0, T.s x423]
def f133_0_c (x422 : Int) (x423 : ByteArray) : CSt := ⟨[.i .i64 x422, .s x423], [.dead]⟩
theorem f133_0_round (c : Orc) (lf : Nat) (L : CSt → Option (List T)) (x422 : Int) (x423 : ByteArray) :
 roundK c env lf 6 fi133 1 4 [] [0, 3] (x133_4_0) L (f133_0_c x422 x423) = f133_0_s c lf (fun x422 x423 => L (f133_0_c x422 x423)) x422 x423 := by kernel_rfl
def f133_0 (c : Orc) (lf : Nat) : Nat → Int → ByteArray → Option (List T)
 | 0 => fun _ _ => none
 | n + 1 => fun x422 x423 => f133_0_s c lf (f133_0 c lf n) x422 x423
theorem f133_0_eq (c : Orc) (lf n : Nat) (x422 : Int) (x423 : ByteArray) :
 lpK c env lf 6 fi133 1 4 [] [0, 3] (x133_4_0) n (f133_0_c x422 x423) = f133_0 c lf n x422 x423 := by
 induction n generalizing x422 x423 with
 | zero => rfl
 | succ n ih =>
  refine (f133_0_round c lf _ x422 x423).trans ?_
  have e : (fun x422 x423 => lpK c env lf 6 fi133 1 4 [] [0, 3] (x133_4_0) n (f133_0_c x422 x423)) = f133_0 c lf n := by funext x422 x423; exact ih x422 x423
  show f133_0_s c lf (fun x422 x423 => lpK c env lf 6 fi133 1 4 [] [0, 3] (x133_4_0) n (f133_0_c x422 x423)) x422 x423 = _
  rw [e]; rfl
def f133_t (c : Orc) (lf : Nat) (lp0 : Int → ByteArray → Option (List T)) (n0 : Int) : Option (List T) :=
 bif iLe n0 0 then
  some [T.s (⟨#[109, 48]⟩ : ByteArray)]
 else
  (lp0 n0 (⟨#[]⟩ : ByteArray)).bind fun r424 =>
  bif nLe ((⟨#[109]⟩ : ByteArray).size + (asS (nth r424 1)).size) LIM then
  some [T.s ((⟨#[109]⟩ : ByteArray) ++ (asS (nth r424 1)))]
  else none
def f133 (c : Orc) (lf : Nat) (n0 : Int) : Option (List T) := f133_t c lf (fun (x422 : Int) (x423 : ByteArray) => f133_0 c lf lf x422 x423) n0
theorem f133_raw (c : Orc) (lf : Nat) (n0 : Int) : funK c env lf 6 fi133 [.i .i64 n0] = f133_t c lf (fun (x422 : Int) (x423 : ByteArray) => lpK c env lf 6 fi133 1 4 [] [0, 3] (x133_4_0) lf (f133_0_c x422 x423)) n0 := by kernel_rfl
theorem f133_eq (c : Orc) (lf : Nat) (n0 : Int) : funK c env lf 6 fi133 [.i .i64 n0] = f133 c lf n0 := by
 refine (f133_raw c lf n0).trans ?_
 have e0 : (fun (x422 : Int) (x423 : ByteArray) => lpK c env lf 6 fi133 1 4 [] [0, 3] (x133_4_0) lf (f133_0_c x422 x423)) = (fun (x422 : Int) (x423 : ByteArray) => f133_0 c lf lf x422 x423) := by funext x422 x423; exact f133_0_eq c lf lf x422 x423
 rw [e0]; rfl
def f187_0_s (c : Orc) (lf : Nat) (L : Int → Int → List T → Option (List T)) (x429 x430 : Int) (x431 : List T) : Option (List T) :=
 bif iLt x430 (x431.length : Int) then
  bif inR x430 x431.length then
  L (IntKind.wrap .i64 (x429 + 1)) (IntKind.wrap .i64 (x430 + 1)) (x431.set x430.toNat (T.i .u8 (IntKind.wrap .u8 x429)))
  else none
 else
  some [T.i .i64 0, T.i .i64 x429, T.sl x431]
def f187_0_c (x429 x430 : Int) (x431 : List T) : CSt := ⟨[.rf 0 [] 0 none, .i .i64 x429, .i .i64 x430], [.row false [.i .u8] x431 0 false, .dead]⟩
theorem f187_0_round (c : Orc) (lf : Nat) (L : CSt → Option (List T)) (x429 x430 : Int) (x431 : List T) :
 roundK c env lf 6 fi187 2 2 [] [0, 1, 5] (x187_2_0) L (f187_0_c x429 x430 x431) = f187_0_s c lf (fun x429 x430 x431 => L (f187_0_c x429 x430 x431)) x429 x430 x431 := by kernel_rfl
def f187_0 (c : Orc) (lf : Nat) : Nat → Int → Int → List T → Option (List T)
 | 0 => fun _ _ _ => none
 | n + 1 => fun x429 x430 x431 => f187_0_s c lf (f187_0 c lf n) x429 x430 x431
theorem f187_0_eq (c : Orc) (lf n : Nat) (x429 x430 : Int) (x431 : List T) :
 lpK c env lf 6 fi187 2 2 [] [0, 1, 5] (x187_2_0) n (f187_0_c x429 x430 x431) = f187_0 c lf n x429 x430 x431 := by
 induction n generalizing x429 x430 x431 with
 | zero => rfl
 | succ n ih =>
  refine (f187_0_round c lf _ x429 x430 x431).trans ?_
  have e : (fun x429 x430 x431 => lpK c env lf 6 fi187 2 2 [] [0, 1, 5] (x187_2_0) n (f187_0_c x429 x430 x431)) = f187_0 c lf n := by funext x429 x430 x431; exact ih x429 x430 x431
  show f187_0_s c lf (fun x429 x430 x431 => lpK c env lf 6 fi187 2 2 [] [0, 1, 5] (x187_2_0) n (f187_0_c x429 x430 x431)) x429 x430 x431 = _
  rw [e]; rfl
def f187_t (c : Orc) (lf : Nat) (lp0 : Int → Int → List T → Option (List T)) (l0 : List T) (n1 : Int) : Option (List T) :=
 (lp0 n1 0 l0).bind fun r432 =>
 some [T.i .i64 (asI (nth r432 1)), T.sl (asL (nth r432 2))]
def f187 (c : Orc) (lf : Nat) (l0 : List T) (n1 : Int) : Option (List T) := f187_t c lf (fun (x429 x430 : Int) (x431 : List T) => f187_0 c lf lf x429 x430 x431) l0 n1
theorem f187_raw (c : Orc) (lf : Nat) (l0 : List T) (n1 : Int) : funK c env lf 6 fi187 [.sl l0, .i .i64 n1] = f187_t c lf (fun (x429 x430 : Int) (x431 : List T) => lpK c env lf 6 fi187 2 2 [] [0, 1, 5] (x187_2_0) lf (f187_0_c x429 x430 x431)) l0 n1 := by kernel_rfl
theorem f187_eq (c : Orc) (lf : Nat) (l0 : List T) (n1 : Int) : funK c env lf 6 fi187 [.sl l0, .i .i64 n1] = f187 c lf l0 n1 := by
 refine (f187_raw c lf l0 n1).trans ?_
 have e0 : (fun (x429 x430 : Int) (x431 : List T) => lpK c env lf 6 fi187 2 2 [] [0, 1, 5] (x187_2_0) lf (f187_0_c x429 x430 x431)) = (fun (x429 x430 : Int) (x431 : List T) => f187_0 c lf lf x429 x430 x431) := by funext x429 x430 x431; exact f187_0_eq c lf lf x429 x430 x431
 rw [e0]; rfl
def f188_0_s (c : Orc) (lf : Nat) (L : Int → Int → List T → Option (List T)) (x440 x441 : Int) (x442 : List T) : Option (List T) :=
 bif iLt x441 (x442.length : Int) then
  (c 133 [T.i .i64 x440]).bind fun r443 =>
  bif inR x441 x442.length then
  bif inR x441 ((x442.set x441.toNat (T.setc (x442.getD x441.toNat T.u) 0 (T.s (asS (nth r443 0))))).length) then
  L (IntKind.wrap .i64 ((IntKind.wrap .i64 (x440 + 1)) + 1)) (IntKind.wrap .i64 (x441 + 1)) ((x442.set x441.toNat (T.setc (x442.getD x441.toNat T.u) 0 (T.s (asS (nth r443 0))))).set x441.toNat (T.setc ((x442.set x441.toNat (T.setc (x442.getD x441.toNat T.u) 0 (T.s (asS (nth r443 0))))).getD x441.toNat T.u) 1 (T.i .i64 (IntKind.wrap .i64 (x440 + 1)))))
  else none
  else none
 else
  some [T.i .i64 0, T.i .i64 x440, T.sl x442]
def f188_0_c (x440 x441 : Int) (x442 : List T) : CSt := ⟨[.rf 0 [] 0 none, .i .i64 x440, .i .i64 x441], [.row true [.s, .i .i64] x442 0 false, .dead]⟩
theorem f188_0_round (c : Orc) (lf : Nat) (L : CSt → Option (List T)) (x440 x441 : Int) (x442 : List T) :
 roundK c env lf 6 fi188 2 2 [] [0, 1, 5] (x188_2_0) L (f188_0_c x440 x441 x442) = f188_0_s c lf (fun x440 x441 x442 => L (f188_0_c x440 x441 x442)) x440 x441 x442 := by kernel_rfl
def f188_0 (c : Orc) (lf : Nat) : Nat → Int → Int → List T → Option (List T)
 | 0 => fun _ _ _ => none
 | n + 1 => fun x440 x441 x442 => f188_0_s c lf (f188_0 c lf n) x440 x441 x442
theorem f188_0_eq (c : Orc) (lf n : Nat) (x440 x441 : Int) (x442 : List T) :
 lpK c env lf 6 fi188 2 2 [] [0, 1, 5] (x188_2_0) n (f188_0_c x440 x441 x442) = f188_0 c lf n x440 x441 x442 := by
 induction n generalizing x440 x441 x442 with
 | zero => rfl
 | succ n ih =>
  refine (f188_0_round c lf _ x440 x441 x442).trans ?_
  have e : (fun x440 x441 x442 => lpK c env lf 6 fi188 2 2 [] [0, 1, 5] (x188_2_0) n (f188_0_c x440 x441 x442)) = f188_0 c lf n := by funext x440 x441 x442; exact ih x440 x441 x442
  show f188_0_s c lf (fun x440 x441 x442 => lpK c env lf 6 fi188 2 2 [] [0, 1, 5] (x188_2_0) n (f188_0_c x440 x441 x442)) x440 x441 x442 = _
  rw [e]; rfl
def f188_t (c : Orc) (lf : Nat) (lp0 : Int → Int → List T → Option (List T)) (l0 : List T) (n1 : Int) : Option (List T) :=
 (lp0 n1 0 l0).bind fun r444 =>
 some [T.i .i64 (asI (nth r444 1)), T.sl (asL (nth r444 2))]
def f188 (c : Orc) (lf : Nat) (l0 : List T) (n1 : Int) : Option (List T) := f188_t c lf (fun (x440 x441 : Int) (x442 : List T) => f188_0 c lf lf x440 x441 x442) l0 n1
theorem f188_raw (c : Orc) (lf : Nat) (l0 : List T) (n1 : Int) : funK c env lf 6 fi188 [.sl l0, .i .i64 n1] = f188_t c lf (fun (x440 x441 : Int) (x442 : List T) => lpK c env lf 6 fi188 2 2 [] [0, 1, 5] (x188_2_0) lf (f188_0_c x440 x441 x442)) l0 n1 := by kernel_rfl
theorem f188_eq (c : Orc) (lf : Nat) (l0 : List T) (n1 : Int) : funK c env lf 6 fi188 [.sl l0, .i .i64 n1] = f188 c lf l0 n1 := by
 refine (f188_raw c lf l0 n1).trans ?_
 have e0 : (fun (x440 x441 : Int) (x442 : List T) => lpK c env lf 6 fi188 2 2 [] [0, 1, 5] (x188_2_0) lf (f188_0_c x440 x441 x442)) = (fun (x440 x441 : Int) (x442 : List T) => f188_0 c lf lf x440 x441 x442) := by funext x440 x441 x442; exact f188_0_eq c lf lf x440 x441 x442
 rw [e0]; rfl
def f189_0_s (c : Orc) (lf : Nat) (L : Int → Int → List T → Option (List T)) (x455 x456 : Int) (x457 : List T) : Option (List T) :=
 bif iLt x456 (x457.length : Int) then
  (c 133 [T.i .i64 x455]).bind fun r458 =>
  bif inR x456 x457.length then
  (c 133 [T.i .i64 (IntKind.wrap .i64 (x455 + 1))]).bind fun r459 =>
  bif inR x456 ((x457.set x456.toNat (T.setc (x457.getD x456.toNat T.u) 0 (T.s (asS (nth r458 0))))).length) then
  L (IntKind.wrap .i64 ((IntKind.wrap .i64 (x455 + 1)) + 1)) (IntKind.wrap .i64 (x456 + 1)) ((x457.set x456.toNat (T.setc (x457.getD x456.toNat T.u) 0 (T.s (asS (nth r458 0))))).set x456.toNat (T.setc ((x457.set x456.toNat (T.setc (x457.getD x456.toNat T.u) 0 (T.s (asS (nth r458 0))))).getD x456.toNat T.u) 1 (T.s (asS (nth r459 0)))))
  else none
  else none
 else
  some [T.i .i64 0, T.i .i64 x455, T.sl x457]
def f189_0_c (x455 x456 : Int) (x457 : List T) : CSt := ⟨[.rf 0 [] 0 none, .i .i64 x455, .i .i64 x456], [.row true [.s, .s] x457 0 false, .dead]⟩
theorem f189_0_round (c : Orc) (lf : Nat) (L : CSt → Option (List T)) (x455 x456 : Int) (x457 : List T) :
 roundK c env lf 6 fi189 2 2 [] [0, 1, 5] (x189_2_0) L (f189_0_c x455 x456 x457) = f189_0_s c lf (fun x455 x456 x457 => L (f189_0_c x455 x456 x457)) x455 x456 x457 := by kernel_rfl
def f189_0 (c : Orc) (lf : Nat) : Nat → Int → Int → List T → Option (List T)
 | 0 => fun _ _ _ => none
 | n + 1 => fun x455 x456 x457 => f189_0_s c lf (f189_0 c lf n) x455 x456 x457
theorem f189_0_eq (c : Orc) (lf n : Nat) (x455 x456 : Int) (x457 : List T) :
 lpK c env lf 6 fi189 2 2 [] [0, 1, 5] (x189_2_0) n (f189_0_c x455 x456 x457) = f189_0 c lf n x455 x456 x457 := by
 induction n generalizing x455 x456 x457 with
 | zero => rfl
 | succ n ih =>
  refine (f189_0_round c lf _ x455 x456 x457).trans ?_
  have e : (fun x455 x456 x457 => lpK c env lf 6 fi189 2 2 [] [0, 1, 5] (x189_2_0) n (f189_0_c x455 x456 x457)) = f189_0 c lf n := by funext x455 x456 x457; exact ih x455 x456 x457
  show f189_0_s c lf (fun x455 x456 x457 => lpK c env lf 6 fi189 2 2 [] [0, 1, 5] (x189_2_0) n (f189_0_c x455 x456 x457)) x455 x456 x457 = _
  rw [e]; rfl
def f189_t (c : Orc) (lf : Nat) (lp0 : Int → Int → List T → Option (List T)) (l0 : List T) (n1 : Int) : Option (List T) :=
 (lp0 n1 0 l0).bind fun r460 =>
 some [T.i .i64 (asI (nth r460 1)), T.sl (asL (nth r460 2))]
def f189 (c : Orc) (lf : Nat) (l0 : List T) (n1 : Int) : Option (List T) := f189_t c lf (fun (x455 x456 : Int) (x457 : List T) => f189_0 c lf lf x455 x456 x457) l0 n1
theorem f189_raw (c : Orc) (lf : Nat) (l0 : List T) (n1 : Int) : funK c env lf 6 fi189 [.sl l0, .i .i64 n1] = f189_t c lf (fun (x455 x456 : Int) (x457 : List T) => lpK c env lf 6 fi189 2 2 [] [0, 1, 5] (x189_2_0) lf (f189_0_c x455 x456 x457)) l0 n1 := by kernel_rfl
theorem f189_eq (c : Orc) (lf : Nat) (l0 : List T) (n1 : Int) : funK c env lf 6 fi189 [.sl l0, .i .i64 n1] = f189 c lf l0 n1 := by
 refine (f189_raw c lf l0 n1).trans ?_
 have e0 : (fun (x455 x456 : Int) (x457 : List T) => lpK c env lf 6 fi189 2 2 [] [0, 1, 5] (x189_2_0) lf (f189_0_c x455 x456 x457)) = (fun (x455 x456 : Int) (x457 : List T) => f189_0 c lf lf x455 x456 x457) := by funext x455 x456 x457; exact f189_0_eq c lf lf x455 x456 x457
 rw [e0]; rfl
def f134_0_s (c : Orc) (lf : Nat) (L : Int → Int → List T → Option (List T)) (x474 x475 : Int) (x476 : List T) : Option (List T) :=
 bif iLt x475 (x476.length : Int) then
  bif inR x475 x476.length then
  bif inR x475 ((x476.set x475.toNat (T.setc (x476.getD x475.toNat T.u) 0 (T.i .i64 x474))).length) then
  bif inR x475 (((x476.set x475.toNat (T.setc (x476.getD x475.toNat T.u) 0 (T.i .i64 x474))).set x475.toNat (T.setc ((x476.set x475.toNat (T.setc (x476.getD x475.toNat T.u) 0 (T.i .i64 x474))).getD x475.toNat T.u) 1 (T.i .i64 (IntKind.wrap .i64 (x474 + 1))))).length) then
  bif inR x475 ((((x476.set x475.toNat (T.setc (x476.getD x475.toNat T.u) 0 (T.i .i64 x474))).set x475.toNat (T.setc ((x476.set x475.toNat (T.setc (x476.getD x475.toNat T.u) 0 (T.i .i64 x474))).getD x475.toNat T.u) 1 (T.i .i64 (IntKind.wrap .i64 (x474 + 1))))).set x475.toNat (T.setc (((x476.set x475.toNat (T.setc (x476.getD x475.toNat T.u) 0 (T.i .i64 x474))).set x475.toNat (T.setc ((x476.set x475.toNat (T.setc (x476.getD x475.toNat T.u) 0 (T.i .i64 x474))).getD x475.toNat T.u) 1 (T.i .i64 (IntKind.wrap .i64 (x474 + 1))))).getD x475.toNat T.u) 2 (T.i .i64 (IntKind.wrap .i64 ((IntKind.wrap .i64 (x474 + 1)) + 1))))).length) then
  (c 187 [T.sl (asL (T.cell ((((x476.set x475.toNat (T.setc (x476.getD x475.toNat T.u) 0 (T.i .i64 x474))).set x475.toNat (T.setc ((x476.set x475.toNat (T.setc (x476.getD x475.toNat T.u) 0 (T.i .i64 x474))).getD x475.toNat T.u) 1 (T.i .i64 (IntKind.wrap .i64 (x474 + 1))))).set x475.toNat (T.setc (((x476.set x475.toNat (T.setc (x476.getD x475.toNat T.u) 0 (T.i .i64 x474))).set x475.toNat (T.setc ((x476.set x475.toNat (T.setc (x476.getD x475.toNat T.u) 0 (T.i .i64 x474))).getD x475.toNat T.u) 1 (T.i .i64 (IntKind.wrap .i64 (x474 + 1))))).getD x475.toNat T.u) 2 (T.i .i64 (IntKind.wrap .i64 ((IntKind.wrap .i64 (x474 + 1)) + 1))))).getD x475.toNat T.u) 3)), T.i .i64 (IntKind.wrap .i64 ((IntKind.wrap .i64 ((IntKind.wrap .i64 (x474 + 1)) + 1)) + 1))]).bind fun r477 =>
  bif inR x475 (((((x476.set x475.toNat (T.setc (x476.getD x475.toNat T.u) 0 (T.i .i64 x474))).set x475.toNat (T.setc ((x476.set x475.toNat (T.setc (x476.getD x475.toNat T.u) 0 (T.i .i64 x474))).getD x475.toNat T.u) 1 (T.i .i64 (IntKind.wrap .i64 (x474 + 1))))).set x475.toNat (T.setc (((x476.set x475.toNat (T.setc (x476.getD x475.toNat T.u) 0 (T.i .i64 x474))).set x475.toNat (T.setc ((x476.set x475.toNat (T.setc (x476.getD x475.toNat T.u) 0 (T.i .i64 x474))).getD x475.toNat T.u) 1 (T.i .i64 (IntKind.wrap .i64 (x474 + 1))))).getD x475.toNat T.u) 2 (T.i .i64 (IntKind.wrap .i64 ((IntKind.wrap .i64 (x474 + 1)) + 1))))).set x475.toNat (T.setc ((((x476.set x475.toNat (T.setc (x476.getD x475.toNat T.u) 0 (T.i .i64 x474))).set x475.toNat (T.setc ((x476.set x475.toNat (T.setc (x476.getD x475.toNat T.u) 0 (T.i .i64 x474))).getD x475.toNat T.u) 1 (T.i .i64 (IntKind.wrap .i64 (x474 + 1))))).set x475.toNat (T.setc (((x476.set x475.toNat (T.setc (x476.getD x475.toNat T.u) 0 (T.i .i64 x474))).set x475.toNat (T.setc ((x476.set x475.toNat (T.setc (x476.getD x475.toNat T.u) 0 (T.i .i64 x474))).getD x475.toNat T.u) 1 (T.i .i64 (IntKind.wrap .i64 (x474 + 1))))).getD x475.toNat T.u) 2 (T.i .i64 (IntKind.wrap .i64 ((IntKind.wrap .i64 (x474 + 1)) + 1))))).getD x475.toNat T.u) 3 (T.sl (asL (nth r477 1))))).length) then
  (c 188 [T.sl (asL (T.cell (((((x476.set x475.toNat (T.setc (x476.getD x475.toNat T.u) 0 (T.i .i64 x474))).set x475.toNat (T.setc ((x476.set x475.toNat (T.setc (x476.getD x475.toNat T.u) 0 (T.i .i64 x474))).getD x475.toNat T.u) 1 (T.i .i64 (IntKind.wrap .i64 (x474 + 1))))).set x475.toNat (T.setc (((x476.set x475.toNat (T.setc (x476.getD x475.toNat T.u) 0 (T.i .i64 x474))).set x475.toNat (T.setc ((x476.set x475.toNat (T.setc (x476.getD x475.toNat T.u) 0 (T.i .i64 x474))).getD x475.toNat T.u) 1 (T.i .i64 (IntKind.wrap .i64 (x474 + 1))))).getD x475.toNat T.u) 2 (T.i .i64 (IntKind.wrap .i64 ((IntKind.wrap .i64 (x474 + 1)) + 1))))).set x475.toNat (T.setc ((((x476.set x475.toNat (T.setc (x476.getD x475.toNat T.u) 0 (T.i .i64 x474))).set x475.toNat (T.setc ((x476.set x475.toNat (T.setc (x476.getD x475.toNat T.u) 0 (T.i .i64 x474))).getD x475.toNat T.u) 1 (T.i .i64 (IntKind.wrap .i64 (x474 + 1))))).set x475.toNat (T.setc (((x476.set x475.toNat (T.setc (x476.getD x475.toNat T.u) 0 (T.i .i64 x474))).set x475.toNat (T.setc ((x476.set x475.toNat (T.setc (x476.getD x475.toNat T.u) 0 (T.i .i64 x474))).getD x475.toNat T.u) 1 (T.i .i64 (IntKind.wrap .i64 (x474 + 1))))).getD x475.toNat T.u) 2 (T.i .i64 (IntKind.wrap .i64 ((IntKind.wrap .i64 (x474 + 1)) + 1))))).getD x475.toNat T.u) 3 (T.sl (asL (nth r477 1))))).getD x475.toNat T.u) 4)), T.i .i64 (asI (nth r477 0))]).bind fun r478 =>
  bif inR x475 ((((((x476.set x475.toNat (T.setc (x476.getD x475.toNat T.u) 0 (T.i .i64 x474))).set x475.toNat (T.setc ((x476.set x475.toNat (T.setc (x476.getD x475.toNat T.u) 0 (T.i .i64 x474))).getD x475.toNat T.u) 1 (T.i .i64 (IntKind.wrap .i64 (x474 + 1))))).set x475.toNat (T.setc (((x476.set x475.toNat (T.setc (x476.getD x475.toNat T.u) 0 (T.i .i64 x474))).set x475.toNat (T.setc ((x476.set x475.toNat (T.setc (x476.getD x475.toNat T.u) 0 (T.i .i64 x474))).getD x475.toNat T.u) 1 (T.i .i64 (IntKind.wrap .i64 (x474 + 1))))).getD x475.toNat T.u) 2 (T.i .i64 (IntKind.wrap .i64 ((IntKind.wrap .i64 (x474 + 1)) + 1))))).set x475.toNat (T.setc ((((x476.set x475.toNat (T.setc (x476.getD x475.toNat T.u) 0 (T.i .i64 x474))).set x475.toNat (T.setc ((x476.set x475.toNat (T.setc (x476.getD x475.toNat T.u) 0 (T.i .i64 x474))).getD x475.toNat T.u) 1 (T.i .i64 (IntKind.wrap .i64 (x474 + 1))))).set x475.toNat (T.setc (((x476.set x475.toNat (T.setc (x476.getD x475.toNat T.u) 0 (T.i .i64 x474))).set x475.toNat (T.setc ((x476.set x475.toNat (T.setc (x476.getD x475.toNat T.u) 0 (T.i .i64 x474))).getD x475.toNat T.u) 1 (T.i .i64 (IntKind.wrap .i64 (x474 + 1))))).getD x475.toNat T.u) 2 (T.i .i64 (IntKind.wrap .i64 ((IntKind.wrap .i64 (x474 + 1)) + 1))))).getD x475.toNat T.u) 3 (T.sl (asL (nth r477 1))))).set x475.toNat (T.setc (((((x476.set x475.toNat (T.setc (x476.getD x475.toNat T.u) 0 (T.i .i64 x474))).set x475.toNat (T.setc ((x476.set x475.toNat (T.setc (x476.getD x475.toNat T.u) 0 (T.i .i64 x474))).getD x475.toNat T.u) 1 (T.i .i64 (IntKind.wrap .i64 (x474 + 1))))).set x475.toNat (T.setc (((x476.set x475.toNat (T.setc (x476.getD x475.toNat T.u) 0 (T.i .i64 x474))).set x475.toNat (T.setc ((x476.set x475.toNat (T.setc (x476.getD x475.toNat T.u) 0 (T.i .i64 x474))).getD x475.toNat T.u) 1 (T.i .i64 (IntKind.wrap .i64 (x474 + 1))))).getD x475.toNat T.u) 2 (T.i .i64 (IntKind.wrap .i64 ((IntKind.wrap .i64 (x474 + 1)) + 1))))).set x475.toNat (T.setc ((((x476.set x475.toNat (T.setc (x476.getD x475.toNat T.u) 0 (T.i .i64 x474))).set x475.toNat (T.setc ((x476.set x475.toNat (T.setc (x476.getD x475.toNat T.u) 0 (T.i .i64 x474))).getD x475.toNat T.u) 1 (T.i .i64 (IntKind.wrap .i64 (x474 + 1))))).set x475.toNat (T.setc (((x476.set x475.toNat (T.setc (x476.getD x475.toNat T.u) 0 (T.i .i64 x474))).set x475.toNat (T.setc ((x476.set x475.toNat (T.setc (x476.getD x475.toNat T.u) 0 (T.i .i64 x474))).getD x475.toNat T.u) 1 (T.i .i64 (IntKind.wrap .i64 (x474 + 1))))).getD x475.toNat T.u) 2 (T.i .i64 (IntKind.wrap .i64 ((IntKind.wrap .i64 (x474 + 1)) + 1))))).getD x475.toNat T.u) 3 (T.sl (asL (nth r477 1))))).getD x475.toNat T.u) 4 (T.sl (asL (nth r478 1))))).length) then
  (c 189 [T.sl (asL (T.cell ((((((x476.set x475.toNat (T.setc (x476.getD x475.toNat T.u) 0 (T.i .i64 x474))).set x475.toNat (T.setc ((x476.set x475.toNat (T.setc (x476.getD x475.toNat T.u) 0 (T.i .i64 x474))).getD x475.toNat T.u) 1 (T.i .i64 (IntKind.wrap .i64 (x474 + 1))))).set x475.toNat (T.setc (((x476.set x475.toNat (T.setc (x476.getD x475.toNat T.u) 0 (T.i .i64 x474))).set x475.toNat (T.setc ((x476.set x475.toNat (T.setc (x476.getD x475.toNat T.u) 0 (T.i .i64 x474))).getD x475.toNat T.u) 1 (T.i .i64 (IntKind.wrap .i64 (x474 + 1))))).getD x475.toNat T.u) 2 (T.i .i64 (IntKind.wrap .i64 ((IntKind.wrap .i64 (x474 + 1)) + 1))))).set x475.toNat (T.setc ((((x476.set x475.toNat (T.setc (x476.getD x475.toNat T.u) 0 (T.i .i64 x474))).set x475.toNat (T.setc ((x476.set x475.toNat (T.setc (x476.getD x475.toNat T.u) 0 (T.i .i64 x474))).getD x475.toNat T.u) 1 (T.i .i64 (IntKind.wrap .i64 (x474 + 1))))).set x475.toNat (T.setc (((x476.set x475.toNat (T.setc (x476.getD x475.toNat T.u) 0 (T.i .i64 x474))).set x475.toNat (T.setc ((x476.set x475.toNat (T.setc (x476.getD x475.toNat T.u) 0 (T.i .i64 x474))).getD x475.toNat T.u) 1 (T.i .i64 (IntKind.wrap .i64 (x474 + 1))))).getD x475.toNat T.u) 2 (T.i .i64 (IntKind.wrap .i64 ((IntKind.wrap .i64 (x474 + 1)) + 1))))).getD x475.toNat T.u) 3 (T.sl (asL (nth r477 1))))).set x475.toNat (T.setc (((((x476.set x475.toNat (T.setc (x476.getD x475.toNat T.u) 0 (T.i .i64 x474))).set x475.toNat (T.setc ((x476.set x475.toNat (T.setc (x476.getD x475.toNat T.u) 0 (T.i .i64 x474))).getD x475.toNat T.u) 1 (T.i .i64 (IntKind.wrap .i64 (x474 + 1))))).set x475.toNat (T.setc (((x476.set x475.toNat (T.setc (x476.getD x475.toNat T.u) 0 (T.i .i64 x474))).set x475.toNat (T.setc ((x476.set x475.toNat (T.setc (x476.getD x475.toNat T.u) 0 (T.i .i64 x474))).getD x475.toNat T.u) 1 (T.i .i64 (IntKind.wrap .i64 (x474 + 1))))).getD x475.toNat T.u) 2 (T.i .i64 (IntKind.wrap .i64 ((IntKind.wrap .i64 (x474 + 1)) + 1))))).set x475.toNat (T.setc ((((x476.set x475.toNat (T.setc (x476.getD x475.toNat T.u) 0 (T.i .i64 x474))).set x475.toNat (T.setc ((x476.set x475.toNat (T.setc (x476.getD x475.toNat T.u) 0 (T.i .i64 x474))).getD x475.toNat T.u) 1 (T.i .i64 (IntKind.wrap .i64 (x474 + 1))))).set x475.toNat (T.setc (((x476.set x475.toNat (T.setc (x476.getD x475.toNat T.u) 0 (T.i .i64 x474))).set x475.toNat (T.setc ((x476.set x475.toNat (T.setc (x476.getD x475.toNat T.u) 0 (T.i .i64 x474))).getD x475.toNat T.u) 1 (T.i .i64 (IntKind.wrap .i64 (x474 + 1))))).getD x475.toNat T.u) 2 (T.i .i64 (IntKind.wrap .i64 ((IntKind.wrap .i64 (x474 + 1)) + 1))))).getD x475.toNat T.u) 3 (T.sl (asL (nth r477 1))))).getD x475.toNat T.u) 4 (T.sl (asL (nth r478 1))))).getD x475.toNat T.u) 5)), T.i .i64 (asI (nth r478 0))]).bind fun r479 =>
  L (asI (nth r479 0)) (IntKind.wrap .i64 (x475 + 1)) ((((((x476.set x475.toNat (T.setc (x476.getD x475.toNat T.u) 0 (T.i .i64 x474))).set x475.toNat (T.setc ((x476.set x475.toNat (T.setc (x476.getD x475.toNat T.u) 0 (T.i .i64 x474))).getD x475.toNat T.u) 1 (T.i .i64 (IntKind.wrap .i64 (x474 + 1))))).set x475.toNat (T.setc (((x476.set x475.toNat (T.setc (x476.getD x475.toNat T.u) 0 (T.i .i64 x474))).set x475.toNat (T.setc ((x476.set x475.toNat (T.setc (x476.getD x475.toNat T.u) 0 (T.i .i64 x474))).getD x475.toNat T.u) 1 (T.i .i64 (IntKind.wrap .i64 (x474 + 1))))).getD x475.toNat T.u) 2 (T.i .i64 (IntKind.wrap .i64 ((IntKind.wrap .i64 (x474 + 1)) + 1))))).set x475.toNat (T.setc ((((x476.set x475.toNat (T.setc (x476.getD x475.toNat T.u) 0 (T.i .i64 x474))).set x475.toNat (T.setc ((x476.set x475.toNat (T.setc (x476.getD x475.toNat T.u) 0 (T.i .i64 x474))).getD x475.toNat T.u) 1 (T.i .i64 (IntKind.wrap .i64 (x474 + 1))))).set x475.toNat (T.setc (((x476.set x475.toNat (T.setc (x476.getD x475.toNat T.u) 0 (T.i .i64 x474))).set x475.toNat (T.setc ((x476.set x475.toNat (T.setc (x476.getD x475.toNat T.u) 0 (T.i .i64 x474))).getD x475.toNat T.u) 1 (T.i .i64 (IntKind.wrap .i64 (x474 + 1))))).getD x475.toNat T.u) 2 (T.i .i64 (IntKind.wrap .i64 ((IntKind.wrap .i64 (x474 + 1)) + 1))))).getD x475.toNat T.u) 3 (T.sl (asL (nth r477 1))))).set x475.toNat (T.setc (((((x476.set x475.toNat (T.setc (x476.getD x475.toNat T.u) 0 (T.i .i64 x474))).set x475.toNat (T.setc ((x476.set x475.toNat (T.setc (x476.getD x475.toNat T.u) 0 (T.i .i64 x474))).getD x475.toNat T.u) 1 (T.i .i64 (IntKind.wrap .i64 (x474 + 1))))).set x475.toNat (T.setc (((x476.set x475.toNat (T.setc (x476.getD x475.toNat T.u) 0 (T.i .i64 x474))).set x475.toNat (T.setc ((x476.set x475.toNat (T.setc (x476.getD x475.toNat T.u) 0 (T.i .i64 x474))).getD x475.toNat T.u) 1 (T.i .i64 (IntKind.wrap .i64 (x474 + 1))))).getD x475.toNat T.u) 2 (T.i .i64 (IntKind.wrap .i64 ((IntKind.wrap .i64 (x474 + 1)) + 1))))).set x475.toNat (T.setc ((((x476.set x475.toNat (T.setc (x476.getD x475.toNat T.u) 0 (T.i .i64 x474))).set x475.toNat (T.setc ((x476.set x475.toNat (T.setc (x476.getD x475.toNat T.u) 0 (T.i .i64 x474))).getD x475.toNat T.u) 1 (T.i .i64 (IntKind.wrap .i64 (x474 + 1))))).set x475.toNat (T.setc (((x476.set x475.toNat (T.setc (x476.getD x475.toNat T.u) 0 (T.i .i64 x474))).set x475.toNat (T.setc ((x476.set x475.toNat (T.setc (x476.getD x475.toNat T.u) 0 (T.i .i64 x474))).getD x475.toNat T.u) 1 (T.i .i64 (IntKind.wrap .i64 (x474 + 1))))).getD x475.toNat T.u) 2 (T.i .i64 (IntKind.wrap .i64 ((IntKind.wrap .i64 (x474 + 1)) + 1))))).getD x475.toNat T.u) 3 (T.sl (asL (nth r477 1))))).getD x475.toNat T.u) 4 (T.sl (asL (nth r478 1))))).set x475.toNat (T.setc ((((((x476.set x475.toNat (T.setc (x476.getD x475.toNat T.u) 0 (T.i .i64 x474))).set x475.toNat (T.setc ((x476.set x475.toNat (T.setc (x476.getD x475.toNat T.u) 0 (T.i .i64 x474))).getD x475.toNat T.u) 1 (T.i .i64 (IntKind.wrap .i64 (x474 + 1))))).set x475.toNat (T.setc (((x476.set x475.toNat (T.setc (x476.getD x475.toNat T.u) 0 (T.i .i64 x474))).set x475.toNat (T.setc ((x476.set x475.toNat (T.setc (x476.getD x475.toNat T.u) 0 (T.i .i64 x474))).getD x475.toNat T.u) 1 (T.i .i64 (IntKind.wrap .i64 (x474 + 1))))).getD x475.toNat T.u) 2 (T.i .i64 (IntKind.wrap .i64 ((IntKind.wrap .i64 (x474 + 1)) + 1))))).set x475.toNat (T.setc ((((x476.set x475.toNat (T.setc (x476.getD x475.toNat T.u) 0 (T.i .i64 x474))).set x475.toNat (T.setc ((x476.set x475.toNat (T.setc (x476.getD x475.toNat T.u) 0 (T.i .i64 x474))).getD x475.toNat T.u) 1 (T.i .i64 (IntKind.wrap .i64 (x474 + 1))))).set x475.toNat (T.setc (((x476.set x475.toNat (T.setc (x476.getD x475.toNat T.u) 0 (T.i .i64 x474))).set x475.toNat (T.setc ((x476.set x475.toNat (T.setc (x476.getD x475.toNat T.u) 0 (T.i .i64 x474))).getD x475.toNat T.u) 1 (T.i .i64 (IntKind.wrap .i64 (x474 + 1))))).getD x475.toNat T.u) 2 (T.i .i64 (IntKind.wrap .i64 ((IntKind.wrap .i64 (x474 + 1)) + 1))))).getD x475.toNat T.u) 3 (T.sl (asL (nth r477 1))))).set x475.toNat (T.setc (((((x476.set x475.toNat (T.setc (x476.getD x475.toNat T.u) 0 (T.i .i64 x474))).set x475.toNat (T.setc ((x476.set x475.toNat (T.setc (x476.getD x475.toNat T.u) 0 (T.i .i64 x474))).getD x475.toNat T.u) 1 (T.i .i64 (IntKind.wrap .i64 (x474 + 1))))).set x475.toNat (T.setc (((x476.set x475.toNat (T.setc (x476.getD x475.toNat T.u) 0 (T.i .i64 x474))).set x475.toNat (T.setc ((x476.set x475.toNat (T.setc (x476.getD x475.toNat T.u) 0 (T.i .i64 x474))).getD x475.toNat T.u) 1 (T.i .i64 (IntKind.wrap .i64 (x474 + 1))))).getD x475.toNat T.u) 2 (T.i .i64 (IntKind.wrap .i64 ((IntKind.wrap .i64 (x474 + 1)) + 1))))).set x475.toNat (T.setc ((((x476.set x475.toNat (T.setc (x476.getD x475.toNat T.u) 0 (T.i .i64 x474))).set x475.toNat (T.setc ((x476.set x475.toNat (T.setc (x476.getD x475.toNat T.u) 0 (T.i .i64 x474))).getD x475.toNat T.u) 1 (T.i .i64 (IntKind.wrap .i64 (x474 + 1))))).set x475.toNat (T.setc (((x476.set x475.toNat (T.setc (x476.getD x475.toNat T.u) 0 (T.i .i64 x474))).set x475.toNat (T.setc ((x476.set x475.toNat (T.setc (x476.getD x475.toNat T.u) 0 (T.i .i64 x474))).getD x475.toNat T.u) 1 (T.i .i64 (IntKind.wrap .i64 (x474 + 1))))).getD x475.toNat T.u) 2 (T.i .i64 (IntKind.wrap .i64 ((IntKind.wrap .i64 (x474 + 1)) + 1))))).getD x475.toNat T.u) 3 (T.sl (asL (nth r477 1))))).getD x475.toNat T.u) 4 (T.sl (asL (nth r478 1))))).getD x475.toNat T.u) 5 (T.sl (asL (nth r479 1)))))
  else none
  else none
  else none
  else none
  else none
  else none
 else
  some [T.i .i64 0, T.i .i64 x474, T.sl x476]
def f134_0_c (x474 x475 : Int) (x476 : List T) : CSt := ⟨[.rf 0 [] 0 none, .i .i64 x474, .i .i64 x475], [.row true [.i .i64, .i .i64, .i .i64, .sl false [.i .u8], .sl true [.s, .i .i64], .sl true [.s, .s]] x476 0 false, .dead]⟩
theorem f134_0_round (c : Orc) (lf : Nat) (L : CSt → Option (List T)) (x474 x475 : Int) (x476 : List T) :
 roundK c env lf 6 fi134 2 2 [] [0, 1, 5] (x134_2_0) L (f134_0_c x474 x475 x476) = f134_0_s c lf (fun x474 x475 x476 => L (f134_0_c x474 x475 x476)) x474 x475 x476 := by kernel_rfl
def f134_0 (c : Orc) (lf : Nat) : Nat → Int → Int → List T → Option (List T)
 | 0 => fun _ _ _ => none
 | n + 1 => fun x474 x475 x476 => f134_0_s c lf (f134_0 c lf n) x474 x475 x476
theorem f134_0_eq (c : Orc) (lf n : Nat) (x474 x475 : Int) (x476 : List T) :
 lpK c env lf 6 fi134 2 2 [] [0, 1, 5] (x134_2_0) n (f134_0_c x474 x475 x476) = f134_0 c lf n x474 x475 x476 := by
 induction n generalizing x474 x475 x476 with
 | zero => rfl
 | succ n ih =>
  refine (f134_0_round c lf _ x474 x475 x476).trans ?_
  have e : (fun x474 x475 x476 => lpK c env lf 6 fi134 2 2 [] [0, 1, 5] (x134_2_0) n (f134_0_c x474 x475 x476)) = f134_0 c lf n := by funext x474 x475 x476; exact ih x474 x475 x476
  show f134_0_s c lf (fun x474 x475 x476 => lpK c env lf 6 fi134 2 2 [] [0, 1, 5] (x134_2_0) n (f134_0_c x474 x475 x476)) x474 x475 x476 = _
  rw [e]; rfl
def f134_t (c : Orc) (lf : Nat) (lp0 : Int → Int → List T → Option (List T)) (l0 : List T) (n1 : Int) : Option (List T) :=
 (lp0 n1 0 l0).bind fun r480 =>
 some [T.i .i64 (asI (nth r480 1)), T.sl (asL (nth r480 2))]
def f134 (c : Orc) (lf : Nat) (l0 : List T) (n1 : Int) : Option (List T) := f134_t c lf (fun (x474 x475 : Int) (x476 : List T) => f134_0 c lf lf x474 x475 x476) l0 n1
theorem f134_raw (c : Orc) (lf : Nat) (l0 : List T) (n1 : Int) : funK c env lf 6 fi134 [.sl l0, .i .i64 n1] = f134_t c lf (fun (x474 x475 : Int) (x476 : List T) => lpK c env lf 6 fi134 2 2 [] [0, 1, 5] (x134_2_0) lf (f134_0_c x474 x475 x476)) l0 n1 := by kernel_rfl
theorem f134_eq (c : Orc) (lf : Nat) (l0 : List T) (n1 : Int) : funK c env lf 6 fi134 [.sl l0, .i .i64 n1] = f134 c lf l0 n1 := by
 refine (f134_raw c lf l0 n1).trans ?_
 have e0 : (fun (x474 x475 : Int) (x476 : List T) => lpK c env lf 6 fi134 2 2 [] [0, 1, 5] (x134_2_0) lf (f134_0_c x474 x475 x476)) = (fun (x474 x475 : Int) (x476 : List T) => f134_0 c lf lf x474 x475 x476) := by funext x474 x475 x476; exact f134_0_eq c lf lf x474 x475 x476
 rw [e0]; rfl
end Go.Proofs.YtcippopaecnjhaaGreat.T
