/- What functions of the law FnNothing come to, in trees; no condition. -/
import Derived.Test.YtcippopaecnjhaaGreatRows
import Derived.Test.YtcippopaecnjhaaGreatV3
import Derived.KernelRfl
set_option linter.unusedVariables false
set_option linter.constructorNameAsVariable false
set_option linter.unusedSimpArgs false
set_option linter.unnecessarySimpa false
namespace Go.Proofs.YtcippopaecnjhaaGreat.T
open Go Go.Proofs.YtcippopaecnjhaaGreatV
def tyTab : List (Nat × Ti) := [
 (3, ⟨false, [.i .i64], .o⟩),
 (4, ⟨false, [.b], .o⟩),
 (5, ⟨false, [.i .u8], .o⟩),
 (9, ⟨false, [.s], .o⟩),
 (24, ⟨false, [.sl true [.i .i64, .s, .b, .i .i64, .sl true [.i .i64, .i .i64, .i .i64, .sl false [.i .u8], .sl true [.s, .i .i64], .sl true [.s, .s]], .i .i64]], .sl 98⟩),
 (26, ⟨true, [.sl true [.i .i64, .s, .b, .i .i64, .sl true [.i .i64, .i .i64, .i .i64, .sl false [.i .u8], .sl true [.s, .i .i64], .sl true [.s, .s]], .i .i64], .i .i64], .st [(0, 24), (1, 3)]⟩),
 (27, ⟨false, [.sl true [.i .i64, .s, .b, .i .i64, .i .i64]], .sl 135⟩),
 (29, ⟨true, [.i .i64, .sl true [.i .i64, .s, .b, .i .i64, .i .i64]], .st [(0, 3), (1, 27)]⟩),
 (30, ⟨false, [.sl true [.i .i64, .sl true [.i .i64, .i .i64]]], .sl 138⟩),
 (32, ⟨true, [.sl true [.i .i64, .s, .b, .i .i64, .sl true [.i .i64, .i .i64, .i .i64, .sl false [.i .u8], .sl true [.s, .i .i64], .sl true [.s, .s]], .i .i64], .i .i64, .i .i64, .sl true [.i .i64, .s, .b, .i .i64, .i .i64], .sl true [.i .i64, .sl true [.i .i64, .i .i64]], .i .i64, .i .i64], .st [(0, 26), (2, 29), (4, 30), (5, 3), (6, 3)]⟩),
 (33, ⟨false, [.sl true [.sl true [.b, .sl false [.i .u8]], .i .i64, .b]], .sl 119⟩),
 (35, ⟨true, [.sl true [.sl true [.b, .sl false [.i .u8]], .i .i64, .b]], .st [(0, 33)]⟩),
 (36, ⟨false, [.sl true [.i .i64, .i .i64, .i .i64]], .sl 65⟩),
 (38, ⟨true, [.sl true [.sl true [.b, .sl false [.i .u8]], .i .i64, .b], .i .i64, .sl true [.i .i64, .i .i64, .i .i64], .b], .st [(0, 35), (1, 3), (2, 36), (3, 4)]⟩),
 (40, ⟨true, [.sl true [.sl true [.b, .sl false [.i .u8]], .i .i64, .b], .i .i64, .sl true [.i .i64, .i .i64, .i .i64], .b, .i .i64], .st [(0, 38), (4, 3)]⟩),
 (50, ⟨false, [.sl false [.i .u8]], .sl 5⟩),
 (65, ⟨true, [.i .i64, .i .i64, .i .i64], .st [(0, 3), (1, 3), (2, 3)]⟩),
 (74, ⟨false, [.o], .o⟩),
 (80, ⟨true, [.i .i64, .i .i64, .sl false [.i .u8]], .st [(0, 3), (1, 3), (2, 50)]⟩),
 (81, ⟨false, [.o], .o⟩),
 (82, ⟨false, [.sl false [.i .i64]], .sl 3⟩),
 (94, ⟨false, [.sl true [.i .i64, .i .i64, .i .i64, .sl false [.i .u8], .sl true [.s, .i .i64], .sl true [.s, .s]]], .sl 153⟩),
 (96, ⟨true, [.sl true [.i .i64, .i .i64, .i .i64, .sl false [.i .u8], .sl true [.s, .i .i64], .sl true [.s, .s]], .i .i64], .st [(0, 94), (1, 3)]⟩),
 (98, ⟨true, [.i .i64, .s, .b, .i .i64, .sl true [.i .i64, .i .i64, .i .i64, .sl false [.i .u8], .sl true [.s, .i .i64], .sl true [.s, .s]], .i .i64], .st [(0, 3), (1, 9), (2, 4), (3, 3), (4, 96)]⟩),
 (100, ⟨false, [.o], .o⟩),
 (117, ⟨false, [.sl true [.b, .sl false [.i .u8]]], .sl 144⟩),
 (119, ⟨true, [.sl true [.b, .sl false [.i .u8]], .i .i64, .b], .st [(0, 117), (1, 3), (2, 4)]⟩),
 (123, ⟨false, [.sl true [.i .i64, .i .i64]], .sl 125⟩),
 (125, ⟨true, [.i .i64, .i .i64], .st [(0, 3), (1, 3)]⟩),
 (128, ⟨false, [.o], .o⟩),
 (135, ⟨true, [.i .i64, .s, .b, .i .i64, .i .i64], .st [(0, 3), (1, 9), (2, 4), (3, 3), (4, 3)]⟩),
 (136, ⟨false, [.sl true [.i .i64, .i .i64]], .sl 172⟩),
 (138, ⟨true, [.i .i64, .sl true [.i .i64, .i .i64]], .st [(0, 3), (1, 136)]⟩),
 (144, ⟨true, [.b, .sl false [.i .u8]], .st [(0, 4), (1, 50)]⟩),
 (150, ⟨false, [.sl true [.s, .i .i64]], .sl 160⟩),
 (151, ⟨false, [.sl true [.s, .s]], .sl 162⟩),
 (153, ⟨true, [.i .i64, .i .i64, .i .i64, .sl false [.i .u8], .sl true [.s, .i .i64], .sl true [.s, .s]], .st [(0, 3), (1, 3), (2, 3), (3, 50), (4, 150), (5, 151)]⟩),
 (160, ⟨true, [.s, .i .i64], .st [(0, 9), (1, 3)]⟩),
 (162, ⟨true, [.s, .s], .st [(0, 9), (1, 9)]⟩),
 (172, ⟨true, [.i .i64, .i .i64], .st [(0, 3), (1, 3)]⟩),
 (186, ⟨false, [.o], .o⟩),
 (188, ⟨true, [.sl false [.i .u8], .i .i64, .b], .st [(0, 50), (1, 3), (2, 4)]⟩),
 (199, ⟨false, [.i .u64], .o⟩),
 (223, ⟨false, [.o], .o⟩),
 (225, ⟨false, [.i .u32], .o⟩)]
noncomputable def fi14 : Fi := ⟨Tryz.f14, [], false, [.ro (.sl false [.i .u8])], [.v (.b)]⟩
noncomputable def fi58 : Fi := ⟨Tryz.f58, [], false, [.v (.i .i64), .v (.i .i64), .v (.i .i64)], [.v (.b)]⟩
def x40_5_0 : List (Ex × List Nat × CSt) := [((.ex 0), [2, 3], ⟨[.bp 1 0, .bp 3 0], [.dead, .box [.rf 2 [] 0 none], .row true [.sl true [.b, .sl false [.i .u8]], .i .i64, .b] [] 0 false, .box [.rf 4 [] 0 none], .row true [.sl true [.b, .sl false [.i .u8]], .i .i64, .b] [] 0 false]⟩)]
noncomputable def fi40 : Fi := ⟨Tryz.f40, [⟨5, [2, 3, 9, 10], [], [(⟨[.bp 1 0, .bp 3 0, .i .i64 0, .i .i64 0], [.dead, .box [.rf 2 [] 0 none], .row true [.sl true [.b, .sl false [.i .u8]], .i .i64, .b] [] 0 false, .box [.rf 4 [] 0 none], .row true [.sl true [.b, .sl false [.i .u8]], .i .i64, .b] [] 0 false]⟩, x40_5_0)]⟩], false, [.v (.i .i64)], [.ag [.ow (.sl true [.sl true [.b, .sl false [.i .u8]], .i .i64, .b])]]⟩
noncomputable def fi41 : Fi := ⟨Tryz.f41, [], false, [.ro (.sl true [.i .i64, .i .i64, .i .i64])], [.ow (.sl true [.i .i64, .i .i64, .i .i64])]⟩
def x83_2_0 : List (Ex × List Nat × CSt) := [(.ret, [2], ⟨[.b false], [.dead]⟩), ((.ex 0), [1], ⟨[.bp 1 0], [.dead, .box [.ro 0 true [.sl true [.b, .sl false [.i .u8]], .i .i64, .b] []]]⟩)]
def x83_7_0 : List (Ex × List Nat × CSt) := [(.ret, [2], ⟨[.b false], [.dead]⟩), ((.ex 2), [1, 8, 9, 10], ⟨[.bp 1 0, .ro 0 true [.sl true [.b, .sl false [.i .u8]], .i .i64, .b] [], .i .i64 0, .i .i64 0], [.dead, .box [.ro 0 true [.sl true [.b, .sl false [.i .u8]], .i .i64, .b] []]]⟩)]
noncomputable def fi83 : Fi := ⟨Tryz.f83, [⟨2, [1, 8, 9, 10], [], [(⟨[.bp 1 0, .ro 0 true [.sl true [.b, .sl false [.i .u8]], .i .i64, .b] [], .i .i64 0, .i .i64 0], [.dead, .box [.ro 0 true [.sl true [.b, .sl false [.i .u8]], .i .i64, .b] []]]⟩, x83_2_0)]⟩, ⟨7, [1, 4, 8, 9, 10, 25, 26, 27], [], [(⟨[.bp 1 0, .bp 2 0, .ro 0 true [.sl true [.b, .sl false [.i .u8]], .i .i64, .b] [], .i .i64 0, .i .i64 0, .ro 0 true [.b, .sl false [.i .u8]] [], .i .i64 0, .i .i64 0], [.dead, .box [.ro 0 true [.sl true [.b, .sl false [.i .u8]], .i .i64, .b] []], .box [.ro 0 true [.b, .sl false [.i .u8]] [], .i .i64 0, .b false]]⟩, x83_7_0)]⟩], false, [.ag [.ro (.sl true [.sl true [.b, .sl false [.i .u8]], .i .i64, .b])]], [.v (.b)]⟩
def x42_2_0 : List (Ex × List Nat × CSt) := [(.ret, [2], ⟨[.b false], [.dead, .dead, .dead, .dead]⟩), ((.ex 0), [1], ⟨[.bp 4 0], [.dead, .dead, .dead, .dead, .box [.ro 0 true [.sl true [.b, .sl false [.i .u8]], .i .i64, .b] [], .i .i64 0, .ro 0 true [.i .i64, .i .i64, .i .i64] [], .b false]]⟩)]
noncomputable def fi42 : Fi := ⟨Tryz.f42, [⟨2, [1, 6, 7, 8], [], [(⟨[.bp 4 0, .ro 0 true [.i .i64, .i .i64, .i .i64] [], .i .i64 0, .i .i64 0], [.dead, .dead, .dead, .dead, .box [.ro 0 true [.sl true [.b, .sl false [.i .u8]], .i .i64, .b] [], .i .i64 0, .ro 0 true [.i .i64, .i .i64, .i .i64] [], .b false]]⟩, x42_2_0)]⟩], false, [.ag [.ro (.sl true [.sl true [.b, .sl false [.i .u8]], .i .i64, .b]), .v (.i .i64), .ro (.sl true [.i .i64, .i .i64, .i .i64]), .v (.b)]], [.v (.b)]⟩
noncomputable def fi15 : Fi := ⟨Tryz.f15, [], false, [.v (.i .i64), .ro (.sl true [.i .i64, .i .i64, .i .i64])], [.ag [.ow (.sl true [.sl true [.b, .sl false [.i .u8]], .i .i64, .b]), .v (.i .i64), .ow (.sl true [.i .i64, .i .i64, .i .i64]), .v (.b)]]⟩
noncomputable def fi54 : Fi := ⟨Tryz.f54, [], false, [.ro (.sl false [.i .u8])], [.ow (.sl false [.i .u8])]⟩
def x143_3_0 : List (Ex × List Nat × CSt) := [((.ex 0), [2, 3], ⟨[.bp 1 0, .bp 3 0], [.dead, .box [.rf 2 [] 0 none], .row true [.sl true [.b, .sl false [.i .u8]], .i .i64, .b] [] 0 false, .box [.rf 4 [] 0 none], .row true [.sl true [.b, .sl false [.i .u8]], .i .i64, .b] [] 0 false]⟩)]
def x143_7_0 : List (Ex × List Nat × CSt) := [((.ex 2), [2, 3, 5, 6, 11, 12, 13], ⟨[.bp 1 0, .bp 3 0, .bp 5 0, .rf 6 [] 0 none, .ro 0 true [.sl true [.b, .sl false [.i .u8]], .i .i64, .b] [], .i .i64 0, .i .i64 0], [.dead, .box [.rf 2 [] 0 none], .row true [.sl true [.b, .sl false [.i .u8]], .i .i64, .b] [] 0 false, .box [.rf 4 [] 0 none], .row true [.sl true [.b, .sl false [.i .u8]], .i .i64, .b] [] 0 false, .box [.ro 0 true [.b, .sl false [.i .u8]] [], .i .i64 0, .b false], .row true [.b, .sl false [.i .u8]] [] 0 false]⟩)]
noncomputable def fi143 : Fi := ⟨Tryz.f143, [⟨3, [2, 3, 11, 12, 13], [], [(⟨[.bp 1 0, .bp 3 0, .ro 0 true [.sl true [.b, .sl false [.i .u8]], .i .i64, .b] [], .i .i64 0, .i .i64 0], [.dead, .box [.rf 2 [] 0 none], .row true [.sl true [.b, .sl false [.i .u8]], .i .i64, .b] [] 0 false, .box [.rf 4 [] 0 none], .row true [.sl true [.b, .sl false [.i .u8]], .i .i64, .b] [] 0 false]⟩, x143_3_0)]⟩, ⟨7, [2, 3, 5, 6, 11, 12, 13, 19, 20, 21], [], [(⟨[.bp 1 0, .bp 3 0, .bp 5 0, .rf 6 [] 0 none, .ro 0 true [.sl true [.b, .sl false [.i .u8]], .i .i64, .b] [], .i .i64 0, .i .i64 0, .ro 0 true [.b, .sl false [.i .u8]] [], .i .i64 0, .i .i64 0], [.dead, .box [.rf 2 [] 0 none], .row true [.sl true [.b, .sl false [.i .u8]], .i .i64, .b] [] 0 false, .box [.rf 4 [] 0 none], .row true [.sl true [.b, .sl false [.i .u8]], .i .i64, .b] [] 0 false, .box [.ro 0 true [.b, .sl false [.i .u8]] [], .i .i64 0, .b false], .row true [.b, .sl false [.i .u8]] [] 0 false]⟩, x143_7_0)]⟩], false, [.ag [.ro (.sl true [.sl true [.b, .sl false [.i .u8]], .i .i64, .b])]], [.ag [.ow (.sl true [.sl true [.b, .sl false [.i .u8]], .i .i64, .b])]]⟩
noncomputable def fi84 : Fi := ⟨Tryz.f84, [], false, [.ag [.ro (.sl true [.sl true [.b, .sl false [.i .u8]], .i .i64, .b]), .v (.i .i64), .ro (.sl true [.i .i64, .i .i64, .i .i64]), .v (.b)]], [.ag [.ow (.sl true [.sl true [.b, .sl false [.i .u8]], .i .i64, .b]), .v (.i .i64), .ow (.sl true [.i .i64, .i .i64, .i .i64]), .v (.b)]]⟩
noncomputable def fi43 : Fi := ⟨Tryz.f43, [], false, [.ag [.ro (.sl true [.sl true [.b, .sl false [.i .u8]], .i .i64, .b]), .v (.i .i64), .ro (.sl true [.i .i64, .i .i64, .i .i64]), .v (.b)]], [.ag [.ow (.sl true [.sl true [.b, .sl false [.i .u8]], .i .i64, .b]), .v (.i .i64), .ow (.sl true [.i .i64, .i .i64, .i .i64]), .v (.b)]]⟩
noncomputable def fi45 : Fi := ⟨Tryz.f45, [], true, [.v .b], []⟩
noncomputable def fi95 : Fi := ⟨Tryz.f95, [], false, [.ag [.ro (.sl true [.sl true [.b, .sl false [.i .u8]], .i .i64, .b])], .v (.i .i64)], [.v (.b)]⟩
noncomputable def fi144 : Fi := ⟨Tryz.f144, [], false, [.ag [.ro (.sl true [.sl true [.b, .sl false [.i .u8]], .i .i64, .b])], .v (.i .i64), .v (.i .i64)], [.ow (.sl false [.i .u8]), .v (.b)]⟩
def x157_3_0 : List (Ex × List Nat × CSt) := [((.ex 0), [3], ⟨[.i .u32 0], [.dead]⟩)]
def x157_7_0 : List (Ex × List Nat × CSt) := [((.ex 2), [3, 7, 8, 9], ⟨[.i .u32 0, .ro 0 false [.i .u8] [], .i .i64 0, .i .i64 0], [.dead]⟩)]
noncomputable def fi157 : Fi := ⟨Tryz.f157, [⟨3, [3, 7, 8, 9], [], [(⟨[.i .u32 0, .ro 0 false [.i .u8] [], .i .i64 0, .i .i64 0], [.dead]⟩, x157_3_0)]⟩, ⟨7, [3, 7, 8, 9, 17], [], [(⟨[.i .u32 0, .ro 0 false [.i .u8] [], .i .i64 0, .i .i64 0, .i .i64 0], [.dead]⟩, x157_7_0)]⟩], false, [.ro (.sl false [.i .u8])], [.v (.i .i64)]⟩
noncomputable def fi99 : Fi := ⟨Tryz.f99, [], false, [.ro (.sl false [.i .u8])], [.ow (.sl false [.i .u8])]⟩
noncomputable def fi195 : Fi := ⟨Tryz.f195, [], false, [.ro (.sl false [.i .u8])], [.ro (.sl false [.i .u8]), .v (.b)]⟩
def x91_6_0 : List (Ex × List Nat × CSt) := [((.ex 0), [], ⟨[], [.dead, .dead]⟩), (.ret, [4, 5, 6], ⟨[.i .i64 0, .i .i64 0, .b false], [.dead, .dead]⟩)]
noncomputable def fi91 : Fi := ⟨Tryz.f91, [⟨6, [0, 1, 7, 8, 9], [], [(⟨[.ro 0 false [.i .u8] [], .i .i64 0, .i .i64 0, .i .i64 0, .i .i64 0], [.dead, .dead]⟩, x91_6_0)]⟩], false, [.ro (.sl false [.i .u8]), .v (.i .i64)], [.v (.i .i64), .v (.i .i64), .v (.b)]⟩
noncomputable def fi148 : Fi := ⟨Tryz.f148, [], false, [.bx [.ro (.sl false [.i .u8]), .v (.i .i64), .v (.b)]], [.v (.i .i64)]⟩
noncomputable def fi198 : Fi := ⟨Tryz.f198, [], false, [.ro (.sl false [.i .u8]), .v (.i .i64)], [.v (.s), .v (.i .i64), .v (.b)]⟩
noncomputable def fi150 : Fi := ⟨Tryz.f150, [], false, [.bx [.ro (.sl false [.i .u8]), .v (.i .i64), .v (.b)]], [.v (.s)]⟩
noncomputable def fi152 : Fi := ⟨Tryz.f152, [], false, [.bx [.ro (.sl false [.i .u8]), .v (.i .i64), .v (.b)]], [.v (.b)]⟩
noncomputable def fi49 : Fi := ⟨Tryz.f49, [], false, [.ag [.v (.i .i64), .v (.i .i64), .ro (.sl false [.i .u8])]], [.v (.b)]⟩
noncomputable def fi145 : Fi := ⟨Tryz.f145, [], false, [.ro (.sl false [.i .u8])], [.ag [.v (.i .i64), .v (.i .i64), .ow (.sl false [.i .u8])], .v (.b)]⟩
noncomputable def fi85 : Fi := ⟨Tryz.f85, [], false, [.ag [.ro (.sl true [.sl true [.b, .sl false [.i .u8]], .i .i64, .b]), .v (.i .i64), .ro (.sl true [.i .i64, .i .i64, .i .i64]), .v (.b), .v (.i .i64)], .v (.i .i64)], [.ag [.v (.i .i64), .v (.i .i64), .ow (.sl false [.i .u8])], .v (.b)]⟩
def x44_2_0 : List (Ex × List Nat × CSt) := [((.ex 0), [], ⟨[], [.box [.rf 1 [] 0 none], .row true [.i .i64, .i .i64] [] 0 false]⟩)]
def x44_2_1 : List (Ex × List Nat × CSt) := [((.ex 0), [], ⟨[], [.row true [.sl true [.b, .sl false [.i .u8]], .i .i64, .b] [] 0 false, .row true [.i .i64, .i .i64, .i .i64] [] 0 false, .box [.rf 0 [] 0 none, .i .i64 0, .rf 1 [] 0 none, .b false, .i .i64 0]]⟩)]
noncomputable def fi44 : Fi := ⟨Tryz.f44, [⟨2, [1, 2, 12, 13], [], [(⟨[.fn 86 [.bp 0 0], .bp 2 0, .i .i64 0, .i .i64 0], [.box [.rf 1 [] 0 none], .row true [.i .i64, .i .i64] [] 0 false, .box [.ro 0 true [.sl true [.b, .sl false [.i .u8]], .i .i64, .b] [], .i .i64 0, .ro 0 true [.i .i64, .i .i64, .i .i64] [], .b false, .i .i64 0]]⟩, x44_2_0), (⟨[.fn 45 [.bp 2 0], .bp 3 0, .i .i64 0, .i .i64 0], [.row true [.sl true [.b, .sl false [.i .u8]], .i .i64, .b] [] 0 false, .row true [.i .i64, .i .i64, .i .i64] [] 0 false, .box [.rf 0 [] 0 none, .i .i64 0, .rf 1 [] 0 none, .b false, .i .i64 0], .box [.rf 0 [] 0 none, .i .i64 0, .rf 1 [] 0 none, .b false, .i .i64 0]]⟩, x44_2_1)]⟩], true, [], []⟩
noncomputable def fi86 : Fi := ⟨Tryz.f86, [], true, [], []⟩
def x196_1_0 : List (Ex × List Nat × CSt) := [((.ex 0), [], ⟨[], [.row true [.i .i64, .i .i64] [] 0 false]⟩)]
def x196_4_0 : List (Ex × List Nat × CSt) := [((.ex 2), [0, 1, 2, 3, 8], ⟨[.rf 0 [] 0 none, .i .i64 0, .i .i64 0, .fn 88 [], .i .i64 0], [.row true [.i .i64, .i .i64] [] 0 false]⟩)]
noncomputable def fi196 : Fi := ⟨Tryz.f196, [⟨1, [0, 1, 2, 3, 8], [], [(⟨[.rf 0 [] 0 none, .i .i64 0, .i .i64 0, .fn 88 [], .i .i64 0], [.row true [.i .i64, .i .i64] [] 0 false]⟩, x196_1_0)]⟩, ⟨4, [0, 1, 2, 3, 8, 9], [], [(⟨[.rf 0 [] 0 none, .i .i64 0, .i .i64 0, .fn 88 [], .i .i64 0, .i .i64 0], [.row true [.i .i64, .i .i64] [] 0 false]⟩, x196_4_0)]⟩], true, [], []⟩
def x146_2_0 : List (Ex × List Nat × CSt) := [((.ex 0), [0, 1, 2, 6, 7], ⟨[.rf 0 [] 0 none, .i .i64 0, .fn 88 [], .i .i64 0, .i .i64 0], [.row true [.i .i64, .i .i64] [] 0 false]⟩)]
def x146_7_0 : List (Ex × List Nat × CSt) := [((.ex 2), [], ⟨[], [.row true [.i .i64, .i .i64] [] 0 false]⟩)]
def x146_9_0 : List (Ex × List Nat × CSt) := [((.ex 4), [0, 1, 2, 6, 7], ⟨[.rf 0 [] 0 none, .i .i64 0, .fn 88 [], .i .i64 0, .i .i64 0], [.row true [.i .i64, .i .i64] [] 0 false]⟩)]
noncomputable def fi146 : Fi := ⟨Tryz.f146, [⟨2, [0, 1, 2, 6, 7, 8], [], [(⟨[.rf 0 [] 0 none, .i .i64 0, .fn 88 [], .i .i64 0, .i .i64 0, .i .i64 0], [.row true [.i .i64, .i .i64] [] 0 false]⟩, x146_2_0)]⟩, ⟨7, [0, 1, 2, 6], [], [(⟨[.rf 0 [] 0 none, .i .i64 0, .fn 88 [], .i .i64 0], [.row true [.i .i64, .i .i64] [] 0 false]⟩, x146_7_0)]⟩, ⟨9, [0, 1, 2, 6, 7, 8], [], [(⟨[.rf 0 [] 0 none, .i .i64 0, .fn 88 [], .i .i64 0, .i .i64 0, .i .i64 0], [.row true [.i .i64, .i .i64] [] 0 false]⟩, x146_9_0)]⟩], true, [], []⟩
noncomputable def fi87 : Fi := ⟨Tryz.f87, [], true, [], []⟩
noncomputable def fi147 : Fi := ⟨Tryz.f147, [], false, [.v (.i .i64)], [.v (.b)]⟩
noncomputable def fi89 : Fi := ⟨Tryz.f89, [], false, [.v (.i .i64), .v (.i .i64)], [.v (.i .i64)]⟩
noncomputable def fi88 : Fi := ⟨Tryz.f88, [], false, [.ag [.v (.i .i64), .v (.i .i64)], .ag [.v (.i .i64), .v (.i .i64)]], [.v (.i .i64)]⟩
def x46_6_0 : List (Ex × List Nat × CSt) := [((.ex 0), [4], ⟨[.rf 5 [] 0 none], [.dead, .dead, .dead, .dead, .dead, .row false [.i .i64] [] 0 false]⟩)]
noncomputable def fi46 : Fi := ⟨Tryz.f46, [⟨6, [4, 14, 15, 16], [], [(⟨[.rf 5 [] 0 none, .rf 6 [] 0 none, .i .i64 0, .i .i64 0], [.dead, .dead, .dead, .dead, .dead, .row false [.i .i64] [] 0 false, .row true [.i .i64, .i .i64] [] 0 false]⟩, x46_6_0)]⟩], false, [.ag [.ro (.sl true [.sl true [.b, .sl false [.i .u8]], .i .i64, .b]), .v (.i .i64), .ro (.sl true [.i .i64, .i .i64, .i .i64]), .v (.b), .v (.i .i64)]], [.ow (.sl false [.i .i64])]⟩
noncomputable def fi90 : Fi := ⟨Tryz.f90, [], false, [.ag [.ro (.sl true [.sl true [.b, .sl false [.i .u8]], .i .i64, .b]), .v (.i .i64), .ro (.sl true [.i .i64, .i .i64, .i .i64]), .v (.b), .v (.i .i64)], .v (.i .i64), .v (.i .i64)], [.ag [.v (.i .i64), .v (.i .i64), .ow (.sl false [.i .u8])], .v (.b)]⟩
noncomputable def fi149 : Fi := ⟨Tryz.f149, [], false, [.bx [.ro (.sl false [.i .u8]), .v (.i .i64), .v (.b)]], [.v (.i .i64)]⟩
noncomputable def fi151 : Fi := ⟨Tryz.f151, [], false, [.bx [.ro (.sl false [.i .u8]), .v (.i .i64), .v (.b)]], [.v (.b)]⟩
def x59_2_0 : List (Ex × List Nat × CSt) := [(.ret, [2], ⟨[.b false], [.dead]⟩), ((.ex 0), [0], ⟨[.s (⟨#[]⟩ : ByteArray)], [.dead]⟩)]
noncomputable def fi59 : Fi := ⟨Tryz.f59, [⟨2, [0, 6, 7], [], [(⟨[.s (⟨#[]⟩ : ByteArray), .i .i64 0, .i .i64 0], [.dead]⟩, x59_2_0)]⟩], false, [.v (.s)], [.v (.b)]⟩
noncomputable def fi61 : Fi := ⟨Tryz.f61, [], false, [.v (.i .i64)], [.v (.b)]⟩
noncomputable def fi200 : Fi := ⟨Tryz.f200, [], true, [], []⟩
def x221_2_0 : List (Ex × List Nat × CSt) := [(.ret, [4], ⟨[.i .i64 0], [.box [.i .i64 0, .s (⟨#[]⟩ : ByteArray), .b false, .i .i64 0, .i .i64 0]]⟩), ((.ex 0), [], ⟨[], [.box [.i .i64 0, .s (⟨#[]⟩ : ByteArray), .b false, .i .i64 0, .i .i64 0]]⟩)]
noncomputable def fi221 : Fi := ⟨Tryz.f221, [⟨2, [0, 1, 7, 8], [], [(⟨[.ro 0 true [.i .i64, .s, .b, .i .i64, .i .i64] [], .fn 200 [.bp 0 0], .i .i64 0, .i .i64 0], [.box [.i .i64 0, .s (⟨#[]⟩ : ByteArray), .b false, .i .i64 0, .i .i64 0]]⟩, x221_2_0)]⟩], true, [], []⟩
noncomputable def fi199 : Fi := ⟨Tryz.f199, [], true, [], []⟩
def x153_2_0 : List (Ex × List Nat × CSt) := [(.ret, [2], ⟨[.b false], [.dead, .dead]⟩), ((.ex 0), [1], ⟨[.bp 2 0], [.dead, .dead, .box [.i .i64 0, .ro 0 true [.i .i64, .s, .b, .i .i64, .i .i64] []]]⟩)]
noncomputable def fi153 : Fi := ⟨Tryz.f153, [⟨2, [1, 6, 7, 8], [], [(⟨[.bp 2 0, .ro 0 true [.i .i64, .s, .b, .i .i64, .i .i64] [], .i .i64 0, .i .i64 0], [.dead, .dead, .box [.i .i64 0, .ro 0 true [.i .i64, .s, .b, .i .i64, .i .i64] []]]⟩, x153_2_0)]⟩], false, [.ag [.v (.i .i64), .ro (.sl true [.i .i64, .s, .b, .i .i64, .i .i64])]], [.v (.b)]⟩
def x92_4_0 : List (Ex × List Nat × CSt) := [((.ex 0), [2, 4, 5], ⟨[.bp 1 0, .bp 3 0, .bp 4 0], [.dead, .box [.i .i64 0, .rf 2 [] 0 none], .row true [.i .i64, .s, .b, .i .i64, .i .i64] [] 0 false, .box [.ro 0 false [.i .u8] [], .i .i64 0, .b false], .box [.i .i64 0, .rf 5 [] 0 none], .row true [.i .i64, .s, .b, .i .i64, .i .i64] [] 0 false]⟩)]
noncomputable def fi92 : Fi := ⟨Tryz.f92, [⟨4, [2, 4, 5, 14, 15], [], [(⟨[.bp 1 0, .bp 3 0, .bp 4 0, .i .i64 0, .i .i64 0], [.dead, .box [.i .i64 0, .rf 2 [] 0 none], .row true [.i .i64, .s, .b, .i .i64, .i .i64] [] 0 false, .box [.ro 0 false [.i .u8] [], .i .i64 0, .b false], .box [.i .i64 0, .rf 5 [] 0 none], .row true [.i .i64, .s, .b, .i .i64, .i .i64] [] 0 false]⟩, x92_4_0)]⟩], false, [.ro (.sl false [.i .u8])], [.ag [.v (.i .i64), .ow (.sl true [.i .i64, .s, .b, .i .i64, .i .i64])], .v (.b)]⟩
noncomputable def fi21 : Fi := ⟨Tryz.f21, [], false, [], [.ag [.ow (.sl true [.i .i64, .s, .b, .i .i64, .sl true [.i .i64, .i .i64, .i .i64, .sl false [.i .u8], .sl true [.s, .i .i64], .sl true [.s, .s]], .i .i64]), .v (.i .i64)]]⟩
noncomputable def fi28 : Fi := ⟨Tryz.f28, [], false, [], [.ag [.ow (.sl true [.i .i64, .s, .b, .i .i64, .sl true [.i .i64, .i .i64, .i .i64, .sl false [.i .u8], .sl true [.s, .i .i64], .sl true [.s, .s]], .i .i64]), .v (.i .i64), .v (.i .i64), .ow (.sl true [.i .i64, .s, .b, .i .i64, .i .i64]), .ow (.sl true [.i .i64, .sl true [.i .i64, .i .i64]]), .v (.i .i64), .v (.i .i64)]]⟩
def x47_9_0 : List (Ex × List Nat × CSt) := [((.ex 0), [2, 4, 15], ⟨[.bp 6 0, .bp 7 0, .bp 11 0], [.dead, .dead, .dead, .dead, .dead, .dead, .box [.ro 0 true [.sl true [.b, .sl false [.i .u8]], .i .i64, .b] [], .i .i64 0, .ro 0 true [.i .i64, .i .i64, .i .i64] [], .b false, .i .i64 0], .box [.rf 8 [] 0 none, .i .i64 0, .i .i64 0, .rf 9 [] 0 none, .rf 10 [] 0 none, .i .i64 0, .i .i64 0], .row true [.i .i64, .s, .b, .i .i64, .sl true [.i .i64, .i .i64, .i .i64, .sl false [.i .u8], .sl true [.s, .i .i64], .sl true [.s, .s]], .i .i64] [] 0 false, .row true [.i .i64, .s, .b, .i .i64, .i .i64] [] 0 false, .row true [.i .i64, .sl true [.i .i64, .i .i64]] [] 0 false, .box [.rf 12 [] 0 none, .i .i64 0, .i .i64 0, .rf 13 [] 0 none, .rf 14 [] 0 none, .i .i64 0, .i .i64 0], .row true [.i .i64, .s, .b, .i .i64, .sl true [.i .i64, .i .i64, .i .i64, .sl false [.i .u8], .sl true [.s, .i .i64], .sl true [.s, .s]], .i .i64] [] 0 false, .row true [.i .i64, .s, .b, .i .i64, .i .i64] [] 0 false, .row true [.i .i64, .sl true [.i .i64, .i .i64]] [] 0 false]⟩)]
noncomputable def fi47 : Fi := ⟨Tryz.f47, [⟨9, [2, 4, 15, 69, 70, 71], [], [(⟨[.bp 6 0, .bp 7 0, .bp 11 0, .rf 13 [] 0 none, .i .i64 0, .i .i64 0], [.dead, .dead, .dead, .dead, .dead, .dead, .box [.ro 0 true [.sl true [.b, .sl false [.i .u8]], .i .i64, .b] [], .i .i64 0, .ro 0 true [.i .i64, .i .i64, .i .i64] [], .b false, .i .i64 0], .box [.rf 8 [] 0 none, .i .i64 0, .i .i64 0, .rf 9 [] 0 none, .rf 10 [] 0 none, .i .i64 0, .i .i64 0], .row true [.i .i64, .s, .b, .i .i64, .sl true [.i .i64, .i .i64, .i .i64, .sl false [.i .u8], .sl true [.s, .i .i64], .sl true [.s, .s]], .i .i64] [] 0 false, .row true [.i .i64, .s, .b, .i .i64, .i .i64] [] 0 false, .row true [.i .i64, .sl true [.i .i64, .i .i64]] [] 0 false, .box [.rf 12 [] 0 none, .i .i64 0, .i .i64 0, .rf 13 [] 0 none, .rf 14 [] 0 none, .i .i64 0, .i .i64 0], .row true [.i .i64, .s, .b, .i .i64, .sl true [.i .i64, .i .i64, .i .i64, .sl false [.i .u8], .sl true [.s, .i .i64], .sl true [.s, .s]], .i .i64] [] 0 false, .row true [.i .i64, .s, .b, .i .i64, .i .i64] [] 0 false, .row true [.i .i64, .sl true [.i .i64, .i .i64]] [] 0 false]⟩, x47_9_0)]⟩], false, [.ag [.ro (.sl true [.sl true [.b, .sl false [.i .u8]], .i .i64, .b]), .v (.i .i64), .ro (.sl true [.i .i64, .i .i64, .i .i64]), .v (.b), .v (.i .i64)], .v (.i .i64)], [.ag [.ow (.sl true [.i .i64, .s, .b, .i .i64, .sl true [.i .i64, .i .i64, .i .i64, .sl false [.i .u8], .sl true [.s, .i .i64], .sl true [.s, .s]], .i .i64]), .v (.i .i64), .v (.i .i64), .ow (.sl true [.i .i64, .s, .b, .i .i64, .i .i64]), .ow (.sl true [.i .i64, .sl true [.i .i64, .i .i64]]), .v (.i .i64), .v (.i .i64)], .v (.b)]⟩
def x16_4_0 : List (Ex × List Nat × CSt) := [(.ret, [2, 3], ⟨[.bp 5 0, .bp 8 0], [.dead, .dead, .dead, .dead, .dead, .box [.rf 6 [] 0 none, .i .i64 0, .rf 7 [] 0 none, .b false, .i .i64 0], .row true [.sl true [.b, .sl false [.i .u8]], .i .i64, .b] [] 0 false, .row true [.i .i64, .i .i64, .i .i64] [] 0 false, .box [.rf 9 [] 0 none, .i .i64 0, .i .i64 0, .rf 10 [] 0 none, .rf 11 [] 0 none, .i .i64 0, .i .i64 0], .row true [.i .i64, .s, .b, .i .i64, .sl true [.i .i64, .i .i64, .i .i64, .sl false [.i .u8], .sl true [.s, .i .i64], .sl true [.s, .s]], .i .i64] [] 0 false, .row true [.i .i64, .s, .b, .i .i64, .i .i64] [] 0 false, .row true [.i .i64, .sl true [.i .i64, .i .i64]] [] 0 false]⟩), ((.ex 0), [1, 2, 3], ⟨[.bp 5 0, .bp 8 0, .bp 11 0], [.dead, .dead, .dead, .dead, .dead, .box [.rf 6 [] 0 none, .i .i64 0, .rf 7 [] 0 none, .b false, .i .i64 0], .row true [.sl true [.b, .sl false [.i .u8]], .i .i64, .b] [] 0 false, .row true [.i .i64, .i .i64, .i .i64] [] 0 false, .box [.rf 9 [] 0 none, .i .i64 0, .rf 10 [] 0 none, .b false, .i .i64 0], .row true [.sl true [.b, .sl false [.i .u8]], .i .i64, .b] [] 0 false, .row true [.i .i64, .i .i64, .i .i64] [] 0 false, .box [.rf 12 [] 0 none, .i .i64 0, .i .i64 0, .rf 13 [] 0 none, .rf 14 [] 0 none, .i .i64 0, .i .i64 0], .row true [.i .i64, .s, .b, .i .i64, .sl true [.i .i64, .i .i64, .i .i64, .sl false [.i .u8], .sl true [.s, .i .i64], .sl true [.s, .s]], .i .i64] [] 0 false, .row true [.i .i64, .s, .b, .i .i64, .i .i64] [] 0 false, .row true [.i .i64, .sl true [.i .i64, .i .i64]] [] 0 false]⟩)]
noncomputable def fi16 : Fi := ⟨Tryz.f16, [⟨4, [1, 2, 3, 16, 17, 18], [], [(⟨[.bp 5 0, .bp 8 0, .bp 11 0, .rf 15 [] 0 none, .i .i64 0, .i .i64 0], [.dead, .dead, .dead, .dead, .dead, .box [.rf 6 [] 0 none, .i .i64 0, .rf 7 [] 0 none, .b false, .i .i64 0], .row true [.sl true [.b, .sl false [.i .u8]], .i .i64, .b] [] 0 false, .row true [.i .i64, .i .i64, .i .i64] [] 0 false, .box [.rf 9 [] 0 none, .i .i64 0, .rf 10 [] 0 none, .b false, .i .i64 0], .row true [.sl true [.b, .sl false [.i .u8]], .i .i64, .b] [] 0 false, .row true [.i .i64, .i .i64, .i .i64] [] 0 false, .box [.rf 12 [] 0 none, .i .i64 0, .i .i64 0, .rf 13 [] 0 none, .rf 14 [] 0 none, .i .i64 0, .i .i64 0], .row true [.i .i64, .s, .b, .i .i64, .sl true [.i .i64, .i .i64, .i .i64, .sl false [.i .u8], .sl true [.s, .i .i64], .sl true [.s, .s]], .i .i64] [] 0 false, .row true [.i .i64, .s, .b, .i .i64, .i .i64] [] 0 false, .row true [.i .i64, .sl true [.i .i64, .i .i64]] [] 0 false, .row false [.i .i64] [] 0 false]⟩, x16_4_0)]⟩], false, [.ag [.ro (.sl true [.sl true [.b, .sl false [.i .u8]], .i .i64, .b]), .v (.i .i64), .ro (.sl true [.i .i64, .i .i64, .i .i64]), .v (.b), .v (.i .i64)]], [.ag [.ow (.sl true [.sl true [.b, .sl false [.i .u8]], .i .i64, .b]), .v (.i .i64), .ow (.sl true [.i .i64, .i .i64, .i .i64]), .v (.b), .v (.i .i64)], .ag [.ow (.sl true [.i .i64, .s, .b, .i .i64, .sl true [.i .i64, .i .i64, .i .i64, .sl false [.i .u8], .sl true [.s, .i .i64], .sl true [.s, .s]], .i .i64]), .v (.i .i64), .v (.i .i64), .ow (.sl true [.i .i64, .s, .b, .i .i64, .i .i64]), .ow (.sl true [.i .i64, .sl true [.i .i64, .i .i64]]), .v (.i .i64), .v (.i .i64)]]⟩
noncomputable def fi19 : Fi := ⟨Tryz.f19, [], false, [.ro (.sl false [.i .u8]), .v (.i .i64)], [.v (.i .i64)]⟩
def x18_3_0 : List (Ex × List Nat × CSt) := [((.ex 0), [1, 5], ⟨[.i .i64 0, .rf 2 [] 0 none], [.dead, .dead, .row false [.i .u8] [] 0 false]⟩)]
noncomputable def fi18 : Fi := ⟨Tryz.f18, [⟨3, [1, 5], [], [(⟨[.i .i64 0, .rf 2 [] 0 none], [.dead, .dead, .row false [.i .u8] [] 0 false]⟩, x18_3_0)]⟩], false, [.ro (.sl false [.i .u8]), .v (.i .i64)], [.ow (.sl false [.i .u8])]⟩
noncomputable def fi48 : Fi := ⟨Tryz.f48, [], false, [.ag [.ro (.sl true [.sl true [.b, .sl false [.i .u8]], .i .i64, .b]), .v (.i .i64), .ro (.sl true [.i .i64, .i .i64, .i .i64]), .v (.b), .v (.i .i64)]], [.ag [.ow (.sl true [.sl true [.b, .sl false [.i .u8]], .i .i64, .b]), .v (.i .i64), .ow (.sl true [.i .i64, .i .i64, .i .i64]), .v (.b), .v (.i .i64)]]⟩
def x51_5_0 : List (Ex × List Nat × CSt) := [((.ex 0), [5], ⟨[.i .i64 0], [.dead, .dead]⟩)]
noncomputable def fi51 : Fi := ⟨Tryz.f51, [⟨5, [5, 17, 18, 19], [], [(⟨[.i .i64 0, .ro 0 true [.b, .sl false [.i .u8]] [], .i .i64 0, .i .i64 0], [.dead, .dead]⟩, x51_5_0)]⟩], false, [.ag [.ro (.sl true [.sl true [.b, .sl false [.i .u8]], .i .i64, .b])], .v (.i .i64)], [.v (.i .i64)]⟩
def x94_3_0 : List (Ex × List Nat × CSt) := [((.ex 0), [3], ⟨[.i .i64 0], [.dead, .dead, .dead, .dead, .dead]⟩)]
noncomputable def fi94 : Fi := ⟨Tryz.f94, [⟨3, [1, 3, 9, 10, 11], [], [(⟨[.bp 5 0, .i .i64 0, .ro 0 true [.sl true [.b, .sl false [.i .u8]], .i .i64, .b] [], .i .i64 0, .i .i64 0], [.dead, .dead, .dead, .dead, .dead, .box [.ro 0 true [.sl true [.b, .sl false [.i .u8]], .i .i64, .b] [], .i .i64 0, .ro 0 true [.i .i64, .i .i64, .i .i64] [], .b false, .i .i64 0]]⟩, x94_3_0)]⟩], false, [.ag [.ro (.sl true [.sl true [.b, .sl false [.i .u8]], .i .i64, .b]), .v (.i .i64), .ro (.sl true [.i .i64, .i .i64, .i .i64]), .v (.b), .v (.i .i64)]], [.v (.i .i64)]⟩
def x50_3_0 : List (Ex × List Nat × CSt) := [(.ret, [4], ⟨[.i .i64 0], [.dead, .dead, .dead, .dead, .dead, .dead]⟩), ((.ex 0), [1, 2, 5], ⟨[.i .i64 0, .bp 6 0, .i .i64 0], [.dead, .dead, .dead, .dead, .dead, .dead, .box [.ro 0 true [.sl true [.b, .sl false [.i .u8]], .i .i64, .b] [], .i .i64 0, .ro 0 true [.i .i64, .i .i64, .i .i64] [], .b false, .i .i64 0]]⟩)]
noncomputable def fi50 : Fi := ⟨Tryz.f50, [⟨3, [1, 2, 5, 12, 13, 14], [], [(⟨[.i .i64 0, .bp 6 0, .i .i64 0, .ro 0 true [.sl true [.b, .sl false [.i .u8]], .i .i64, .b] [], .i .i64 0, .i .i64 0], [.dead, .dead, .dead, .dead, .dead, .dead, .box [.ro 0 true [.sl true [.b, .sl false [.i .u8]], .i .i64, .b] [], .i .i64 0, .ro 0 true [.i .i64, .i .i64, .i .i64] [], .b false, .i .i64 0]]⟩, x50_3_0)]⟩], false, [.ag [.ro (.sl true [.sl true [.b, .sl false [.i .u8]], .i .i64, .b]), .v (.i .i64), .ro (.sl true [.i .i64, .i .i64, .i .i64]), .v (.b), .v (.i .i64)], .v (.i .i64)], [.v (.i .i64)]⟩
noncomputable def fi100 : Fi := ⟨Tryz.f100, [], false, [.ro (.sl false [.i .u8]), .v (.s)], [.ow (.sl false [.i .u8])]⟩
noncomputable def fi53 : Fi := ⟨Tryz.f53, [], false, [.ag [.v (.i .i64), .v (.i .i64), .ro (.sl false [.i .u8])]], [.ow (.sl false [.i .u8])]⟩
noncomputable def fi96 : Fi := ⟨Tryz.f96, [], false, [.ag [.ro (.sl true [.sl true [.b, .sl false [.i .u8]], .i .i64, .b])], .v (.i .i64), .ro (.sl false [.i .u8])], [.ag [.ow (.sl true [.sl true [.b, .sl false [.i .u8]], .i .i64, .b])], .v (.i .i64)]⟩
noncomputable def fi98 : Fi := ⟨Tryz.f98, [], true, [.v .b], []⟩
def x156_2_0 : List (Ex × List Nat × CSt) := [(.ret, [2, 3], ⟨[.bp 4 0, .b false], [.dead, .dead, .dead, .dead, .box [.i .i64 0, .i .i64 0, .i .i64 0]]⟩), ((.ex 0), [2], ⟨[.bp 4 0], [.dead, .dead, .dead, .dead, .box [.i .i64 0, .i .i64 0, .i .i64 0]]⟩)]
noncomputable def fi156 : Fi := ⟨Tryz.f156, [⟨2, [1, 2, 7, 8, 9], [], [(⟨[.bp 4 0, .bp 5 0, .ro 0 true [.i .i64, .i .i64, .i .i64] [], .i .i64 0, .i .i64 0], [.dead, .dead, .dead, .dead, .box [.ro 0 true [.sl true [.b, .sl false [.i .u8]], .i .i64, .b] [], .i .i64 0, .ro 0 true [.i .i64, .i .i64, .i .i64] [], .b false], .box [.i .i64 0, .i .i64 0, .i .i64 0]]⟩, x156_2_0)]⟩], false, [.ag [.ro (.sl true [.sl true [.b, .sl false [.i .u8]], .i .i64, .b]), .v (.i .i64), .ro (.sl true [.i .i64, .i .i64, .i .i64]), .v (.b)]], [.ag [.v (.i .i64), .v (.i .i64), .v (.i .i64)], .v (.b)]⟩
noncomputable def fi97 : Fi := ⟨Tryz.f97, [], true, [], []⟩
noncomputable def fi52 : Fi := ⟨Tryz.f52, [], false, [.ag [.ro (.sl true [.sl true [.b, .sl false [.i .u8]], .i .i64, .b]), .v (.i .i64), .ro (.sl true [.i .i64, .i .i64, .i .i64]), .v (.b)], .v (.i .i64), .ro (.sl false [.i .u8])], [.ag [.ow (.sl true [.sl true [.b, .sl false [.i .u8]], .i .i64, .b]), .v (.i .i64), .ow (.sl true [.i .i64, .i .i64, .i .i64]), .v (.b)], .v (.i .i64)]⟩
def x17_5_0 : List (Ex × List Nat × CSt) := [(.ret, [8, 9, 10], ⟨[.bp 8 0, .i .i64 0, .i .i64 0], [.dead, .dead, .dead, .dead, .dead, .dead, .dead, .dead, .box [.rf 9 [] 0 none, .i .i64 0, .rf 10 [] 0 none, .b false, .i .i64 0], .row true [.sl true [.b, .sl false [.i .u8]], .i .i64, .b] [] 0 false, .row true [.i .i64, .i .i64, .i .i64] [] 0 false]⟩)]
noncomputable def fi17 : Fi := ⟨Tryz.f17, [⟨5, [3, 4, 8, 11], [], [(⟨[.i .i64 0, .bp 8 0, .bp 11 0, .bp 14 0], [.dead, .dead, .dead, .dead, .dead, .dead, .dead, .dead, .box [.rf 9 [] 0 none, .i .i64 0, .rf 10 [] 0 none, .b false, .i .i64 0], .row true [.sl true [.b, .sl false [.i .u8]], .i .i64, .b] [] 0 false, .row true [.i .i64, .i .i64, .i .i64] [] 0 false, .box [.rf 12 [] 0 none, .i .i64 0, .rf 13 [] 0 none, .b false, .i .i64 0], .row true [.sl true [.b, .sl false [.i .u8]], .i .i64, .b] [] 0 false, .row true [.i .i64, .i .i64, .i .i64] [] 0 false, .box [.i .i64 0, .i .i64 0, .ro 0 false [.i .u8] []]]⟩, x17_5_0)]⟩], false, [.ag [.ro (.sl true [.sl true [.b, .sl false [.i .u8]], .i .i64, .b]), .v (.i .i64), .ro (.sl true [.i .i64, .i .i64, .i .i64]), .v (.b), .v (.i .i64)], .v (.i .i64), .ro (.sl false [.i .u8]), .v (.i .i64)], [.ag [.ow (.sl true [.sl true [.b, .sl false [.i .u8]], .i .i64, .b]), .v (.i .i64), .ow (.sl true [.i .i64, .i .i64, .i .i64]), .v (.b), .v (.i .i64)], .v (.i .i64), .v (.i .i64)]⟩
def x55_4_0 : List (Ex × List Nat × CSt) := [(.ret, [6], ⟨[.b false], []⟩), ((.ex 0), [], ⟨[], []⟩)]
noncomputable def fi55 : Fi := ⟨Tryz.f55, [⟨4, [1, 2, 15, 16, 17], [], [(⟨[.ro 0 true [.i .i64, .s, .b, .i .i64, .sl true [.i .i64, .i .i64, .i .i64, .sl false [.i .u8], .sl true [.s, .i .i64], .sl true [.s, .s]], .i .i64] [], .fn 56 [], .ro 0 true [.i .i64, .s, .b, .i .i64, .sl true [.i .i64, .i .i64, .i .i64, .sl false [.i .u8], .sl true [.s, .i .i64], .sl true [.s, .s]], .i .i64] [], .i .i64 0, .i .i64 0], []⟩, x55_4_0)]⟩], true, [], []⟩
noncomputable def fi56 : Fi := ⟨Tryz.f56, [], false, [.ag [.v (.i .i64), .v (.s), .v (.b), .v (.i .i64), .ro (.sl true [.i .i64, .i .i64, .i .i64, .sl false [.i .u8], .sl true [.s, .i .i64], .sl true [.s, .s]]), .v (.i .i64)], .ag [.v (.i .i64), .v (.s), .v (.b), .v (.i .i64), .ro (.sl true [.i .i64, .i .i64, .i .i64, .sl false [.i .u8], .sl true [.s, .i .i64], .sl true [.s, .s]]), .v (.i .i64)]], [.v (.b)]⟩
noncomputable def fi20 : Fi := ⟨Tryz.f20, [], false, [.ag [.ro (.sl true [.i .i64, .s, .b, .i .i64, .sl true [.i .i64, .i .i64, .i .i64, .sl false [.i .u8], .sl true [.s, .i .i64], .sl true [.s, .s]], .i .i64]), .v (.i .i64)], .ag [.ro (.sl true [.i .i64, .s, .b, .i .i64, .sl true [.i .i64, .i .i64, .i .i64, .sl false [.i .u8], .sl true [.s, .i .i64], .sl true [.s, .s]], .i .i64]), .v (.i .i64)]], [.v (.b)]⟩
def x22_4_0 : List (Ex × List Nat × CSt) := [(.ret, [2], ⟨[.b false], [.dead, .dead]⟩), ((.ex 0), [], ⟨[], [.dead, .dead]⟩)]
noncomputable def fi22 : Fi := ⟨Tryz.f22, [⟨4, [1, 16, 17, 18], [], [(⟨[.bp 2 0, .ro 0 true [.i .i64, .s, .b, .i .i64, .sl true [.i .i64, .i .i64, .i .i64, .sl false [.i .u8], .sl true [.s, .i .i64], .sl true [.s, .s]], .i .i64] [], .i .i64 0, .i .i64 0], [.dead, .dead, .box [.ro 0 true [.i .i64, .s, .b, .i .i64, .sl true [.i .i64, .i .i64, .i .i64, .sl false [.i .u8], .sl true [.s, .i .i64], .sl true [.s, .s]], .i .i64] [], .i .i64 0]]⟩, x22_4_0)]⟩], false, [.ag [.ro (.sl true [.i .i64, .s, .b, .i .i64, .sl true [.i .i64, .i .i64, .i .i64, .sl false [.i .u8], .sl true [.s, .i .i64], .sl true [.s, .s]], .i .i64]), .v (.i .i64)]], [.v (.b)]⟩
noncomputable def fi4 : Fi := ⟨Tryz.f4, [], false, [.ro (.sl false [.i .u8])], [.v (.b)]⟩
noncomputable def fiTab : List (Nat × Fi) := [(14, fi14), (58, fi58), (40, fi40), (41, fi41), (83, fi83), (42, fi42), (15, fi15), (54, fi54), (143, fi143), (84, fi84), (43, fi43), (45, fi45), (95, fi95), (144, fi144), (157, fi157), (99, fi99), (195, fi195), (91, fi91), (148, fi148), (198, fi198), (150, fi150), (152, fi152), (49, fi49), (145, fi145), (85, fi85), (44, fi44), (86, fi86), (196, fi196), (146, fi146), (87, fi87), (147, fi147), (89, fi89), (88, fi88), (46, fi46), (90, fi90), (149, fi149), (151, fi151), (59, fi59), (61, fi61), (200, fi200), (221, fi221), (199, fi199), (153, fi153), (92, fi92), (21, fi21), (28, fi28), (47, fi47), (16, fi16), (19, fi19), (18, fi18), (48, fi48), (51, fi51), (94, fi94), (50, fi50), (100, fi100), (53, fi53), (96, fi96), (98, fi98), (156, fi156), (97, fi97), (52, fi52), (17, fi17), (55, fi55), (56, fi56), (20, fi20), (22, fi22), (4, fi4)]
def X : Nat → Option (List T → Option (List T)) := lookN [(41, cloneF), (54, cloneF)]
noncomputable def env : Env := ⟨lookN fiTab, lookN tyTab⟩
def f14_t (c : Orc) (lf : Nat) (l0 : List T) : Option (List T) :=
 some [T.b (iLt 1048576 (l0.length : Int))]
def f14 (c : Orc) (lf : Nat) (l0 : List T) : Option (List T) := f14_t c lf l0
theorem f14_eq (c : Orc) (lf : Nat) (l0 : List T) : funK c env lf 6 fi14 [.sl l0] = f14 c lf l0 := by kernel_rfl
def f58_t (c : Orc) (lf : Nat) (n0 n1 n2 : Int) : Option (List T) :=
 bif iLe n1 n0 then
  some [T.b (iLe n0 n2)]
 else
  some [T.b false]
def f58 (c : Orc) (lf : Nat) (n0 n1 n2 : Int) : Option (List T) := f58_t c lf n0 n1 n2
theorem f58_eq (c : Orc) (lf : Nat) (n0 n1 n2 : Int) : funK c env lf 6 fi58 [.i .i64 n0, .i .i64 n1, .i .i64 n2] = f58 c lf n0 n1 n2 := by kernel_rfl
def f40_0_s (c : Orc) (lf : Nat) (n0 : Int) (L : Int → List T → Option (List T)) (x6 : Int) (x7 : List T) : Option (List T) :=
 bif iLt x6 n0 then
  bif nLe (x7.length + ([T.st [T.sl ([T.st [T.b false, T.sl []], T.st [T.b false, T.sl []], T.st [T.b false, T.sl []], T.st [T.b false, T.sl []], T.st [T.b false, T.sl []], T.st [T.b false, T.sl []], T.st [T.b false, T.sl []], T.st [T.b false, T.sl []]] : List T), T.i .i64 0, T.b false]] : List T).length) LIM then
  L (IntKind.wrap .i64 (x6 + 1)) (x7 ++ ([T.st [T.sl ([T.st [T.b false, T.sl []], T.st [T.b false, T.sl []], T.st [T.b false, T.sl []], T.st [T.b false, T.sl []], T.st [T.b false, T.sl []], T.st [T.b false, T.sl []], T.st [T.b false, T.sl []], T.st [T.b false, T.sl []]] : List T), T.i .i64 0, T.b false]] : List T))
  else none
 else
  some [T.i .i64 0, T.sl ([] : List T), T.sl x7]
def f40_0_c (n0 x6 : Int) (x7 : List T) : CSt := ⟨[.bp 1 0, .bp 3 0, .i .i64 n0, .i .i64 x6], [.dead, .box [.rf 2 [] 0 none], .row true [.sl true [.b, .sl false [.i .u8]], .i .i64, .b] ([] : List T) 0 false, .box [.rf 4 [] 0 none], .row true [.sl true [.b, .sl false [.i .u8]], .i .i64, .b] x7 0 false]⟩
theorem f40_0_round (c : Orc) (lf : Nat) (n0 : Int) (L : CSt → Option (List T)) (x6 : Int) (x7 : List T) :
 roundK c env lf 6 fi40 1 5 [] [2, 3, 9, 10] (x40_5_0) L (f40_0_c n0 x6 x7) = f40_0_s c lf n0 (fun x6 x7 => L (f40_0_c n0 x6 x7)) x6 x7 := by kernel_rfl
def f40_0 (c : Orc) (lf : Nat) (n0 : Int) : Nat → Int → List T → Option (List T)
 | 0 => fun _ _ => none
 | n + 1 => fun x6 x7 => f40_0_s c lf n0 (f40_0 c lf n0 n) x6 x7
theorem f40_0_u (c : Orc) (lf : Nat) (n0 : Int) (n : Nat) (x6 : Int) (x7 : List T) : f40_0 c lf n0 (n + 1) x6 x7 = f40_0_s c lf n0 (f40_0 c lf n0 n) x6 x7 := rfl
theorem f40_0_eq (c : Orc) (lf : Nat) (n0 : Int) (n : Nat) (x6 : Int) (x7 : List T) :
 lpK c env lf 6 fi40 1 5 [] [2, 3, 9, 10] (x40_5_0) n (f40_0_c n0 x6 x7) = f40_0 c lf n0 n x6 x7 := by
 induction n generalizing x6 x7 with
 | zero => rfl
 | succ n ih =>
  refine (f40_0_round c lf n0 _ x6 x7).trans ?_
  have e : (fun x6 x7 => lpK c env lf 6 fi40 1 5 [] [2, 3, 9, 10] (x40_5_0) n (f40_0_c n0 x6 x7)) = f40_0 c lf n0 n := by funext x6 x7; exact ih x6 x7
  show f40_0_s c lf n0 (fun x6 x7 => lpK c env lf 6 fi40 1 5 [] [2, 3, 9, 10] (x40_5_0) n (f40_0_c n0 x6 x7)) x6 x7 = _
  rw [e]; rfl
def f40_t (c : Orc) (lf : Nat) (lp0 : Int → Int → List T → Option (List T)) (n0 : Int) : Option (List T) :=
 (c 58 [T.i .i64 n0, T.i .i64 3, T.i .i64 24]).bind fun r5 =>
 bif !(asB (nth r5 0)) then
  some [T.st [T.sl []]]
 else
  (lp0 n0 0 ([] : List T)).bind fun r8 =>
  some [T.st [T.sl (asL (nth r8 2))]]
def f40 (c : Orc) (lf : Nat) (n0 : Int) : Option (List T) := f40_t c lf (fun (n0 x6 : Int) (x7 : List T) => f40_0 c lf n0 lf x6 x7) n0
theorem f40_raw (c : Orc) (lf : Nat) (n0 : Int) : funK c env lf 6 fi40 [.i .i64 n0] = f40_t c lf (fun (n0 x6 : Int) (x7 : List T) => lpK c env lf 6 fi40 1 5 [] [2, 3, 9, 10] (x40_5_0) lf (f40_0_c n0 x6 x7)) n0 := by kernel_rfl
theorem f40_eq (c : Orc) (lf : Nat) (n0 : Int) : funK c env lf 6 fi40 [.i .i64 n0] = f40 c lf n0 := by
 refine (f40_raw c lf n0).trans ?_
 have e0 : (fun (n0 x6 : Int) (x7 : List T) => lpK c env lf 6 fi40 1 5 [] [2, 3, 9, 10] (x40_5_0) lf (f40_0_c n0 x6 x7)) = (fun (n0 x6 : Int) (x7 : List T) => f40_0 c lf n0 lf x6 x7) := by funext n0 x6 x7; exact f40_0_eq c lf n0 lf x6 x7
 rw [e0]; rfl
def f83_1_s (c : Orc) (lf : Nat) (x24 : List T) (x25 x26 : Int) (x27 : List T) (L : Int → Option (List T)) (x29 : Int) : Option (List T) :=
 bif iLt x29 ((asL (T.cell (x24.getD x26.toNat T.u) 0)).length : Int) then
  bif inR x29 ((asL (T.cell (x24.getD x26.toNat T.u) 0)).length) then
  bif iLt 400 ((asL (T.cell ((asL (T.cell (x24.getD x26.toNat T.u) 0)).getD x29.toNat T.u) 1)).length : Int) then
   some [T.i .i64 0, T.b false]
  else
   bif !(asB (T.cell ((asL (T.cell (x24.getD x26.toNat T.u) 0)).getD x29.toNat T.u) 0)) then
    bif iLt 0 ((asL (T.cell ((asL (T.cell (x24.getD x26.toNat T.u) 0)).getD x29.toNat T.u) 1)).length : Int) then
     some [T.i .i64 0, T.b false]
    else
     bif iLt 0 x29 then
      bif asB (T.cell ((asL (T.cell (x24.getD x26.toNat T.u) 0)).getD x29.toNat T.u) 0) then
       bif inR (IntKind.wrap .i64 (x29 - 1)) ((asL (T.cell (x24.getD x26.toNat T.u) 0)).length) then
       bif !(asB (T.cell ((asL (T.cell (x24.getD x26.toNat T.u) 0)).getD ((IntKind.wrap .i64 (x29 - 1)).toNat) T.u) 0)) then
        some [T.i .i64 0, T.b false]
       else
        L (IntKind.wrap .i64 (x29 + 1))
       else none
      else
       L (IntKind.wrap .i64 (x29 + 1))
     else
      L (IntKind.wrap .i64 (x29 + 1))
   else
    bif iLt 0 x29 then
     bif asB (T.cell ((asL (T.cell (x24.getD x26.toNat T.u) 0)).getD x29.toNat T.u) 0) then
      bif inR (IntKind.wrap .i64 (x29 - 1)) ((asL (T.cell (x24.getD x26.toNat T.u) 0)).length) then
      bif !(asB (T.cell ((asL (T.cell (x24.getD x26.toNat T.u) 0)).getD ((IntKind.wrap .i64 (x29 - 1)).toNat) T.u) 0)) then
       some [T.i .i64 0, T.b false]
      else
       L (IntKind.wrap .i64 (x29 + 1))
      else none
     else
      L (IntKind.wrap .i64 (x29 + 1))
    else
     L (IntKind.wrap .i64 (x29 + 1))
  else none
 else
  some [T.i .i64 1, T.sl x24, T.i .i64 x25, T.i .i64 x26, T.sl x27]
def f83_1_c (x24 : List T) (x25 x26 : Int) (x27 : List T) (x29 : Int) : CSt := ⟨[.bp 1 0, .bp 2 0, .ro 0 true [.sl true [.b, .sl false [.i .u8]], .i .i64, .b] x24, .i .i64 x25, .i .i64 x26, .ro 0 true [.b, .sl false [.i .u8]] (asL (T.cell (x24.getD x26.toNat T.u) 0)), .i .i64 ((asL (T.cell (x24.getD x26.toNat T.u) 0)).length : Int), .i .i64 x29], [.dead, .box [.ro 0 true [.sl true [.b, .sl false [.i .u8]], .i .i64, .b] x27], .box [.ro 0 true [.b, .sl false [.i .u8]] (asL (T.cell (x24.getD x26.toNat T.u) 0)), .i .i64 (asI (T.cell (x24.getD x26.toNat T.u) 1)), .b (asB (T.cell (x24.getD x26.toNat T.u) 2))]]⟩
theorem f83_1_round (c : Orc) (lf : Nat) (x24 : List T) (x25 x26 : Int) (x27 : List T) (L : CSt → Option (List T)) (x29 : Int) :
 roundK c env lf 6 fi83 1 7 [] [1, 4, 8, 9, 10, 25, 26, 27] (x83_7_0) L (f83_1_c x24 x25 x26 x27 x29) = f83_1_s c lf x24 x25 x26 x27 (fun x29 => L (f83_1_c x24 x25 x26 x27 x29)) x29 := by kernel_rfl
def f83_1 (c : Orc) (lf : Nat) (x24 : List T) (x25 x26 : Int) (x27 : List T) : Nat → Int → Option (List T)
 | 0 => fun _ => none
 | n + 1 => fun x29 => f83_1_s c lf x24 x25 x26 x27 (f83_1 c lf x24 x25 x26 x27 n) x29
theorem f83_1_u (c : Orc) (lf : Nat) (x24 : List T) (x25 x26 : Int) (x27 : List T) (n : Nat) (x29 : Int) : f83_1 c lf x24 x25 x26 x27 (n + 1) x29 = f83_1_s c lf x24 x25 x26 x27 (f83_1 c lf x24 x25 x26 x27 n) x29 := rfl
theorem f83_1_eq (c : Orc) (lf : Nat) (x24 : List T) (x25 x26 : Int) (x27 : List T) (n : Nat) (x29 : Int) :
 lpK c env lf 6 fi83 1 7 [] [1, 4, 8, 9, 10, 25, 26, 27] (x83_7_0) n (f83_1_c x24 x25 x26 x27 x29) = f83_1 c lf x24 x25 x26 x27 n x29 := by
 induction n generalizing x29 with
 | zero => rfl
 | succ n ih =>
  refine (f83_1_round c lf x24 x25 x26 x27 _ x29).trans ?_
  have e : (fun x29 => lpK c env lf 6 fi83 1 7 [] [1, 4, 8, 9, 10, 25, 26, 27] (x83_7_0) n (f83_1_c x24 x25 x26 x27 x29)) = f83_1 c lf x24 x25 x26 x27 n := by funext x29; exact ih x29
  show f83_1_s c lf x24 x25 x26 x27 (fun x29 => lpK c env lf 6 fi83 1 7 [] [1, 4, 8, 9, 10, 25, 26, 27] (x83_7_0) n (f83_1_c x24 x25 x26 x27 x29)) x29 = _
  rw [e]; rfl
def f83_0_s (c : Orc) (lf : Nat) (L : List T → Int → Int → List T → Option (List T)) (lp0 : List T → Int → Int → List T → Int → Option (List T)) (x24 : List T) (x25 x26 : Int) (x27 : List T) : Option (List T) :=
 bif iLt x26 x25 then
  bif inR x26 x24.length then
  bif ((asL (T.cell (x24.getD x26.toNat T.u) 0)).length : Int) != 8 then
   some [T.i .i64 0, T.b false]
  else
   (c 58 [T.i .i64 (asI (T.cell (x24.getD x26.toNat T.u) 1)), T.i .i64 0, T.i .i64 100000]).bind fun r28 =>
   bif !(asB (nth r28 0)) then
    some [T.i .i64 0, T.b false]
   else
    (lp0 x24 x25 x26 x27 0).bind fun r30 =>
    bif asI (nth r30 0) == 0 then
     some [T.i .i64 0, T.b (asB (nth r30 1))]
    else
     L (asL (nth r30 1)) (asI (nth r30 2)) (IntKind.wrap .i64 ((asI (nth r30 3)) + 1)) (asL (nth r30 4))
  else none
 else
  some [T.i .i64 1, T.sl x27]
def f83_0_c (x24 : List T) (x25 x26 : Int) (x27 : List T) : CSt := ⟨[.bp 1 0, .ro 0 true [.sl true [.b, .sl false [.i .u8]], .i .i64, .b] x24, .i .i64 x25, .i .i64 x26], [.dead, .box [.ro 0 true [.sl true [.b, .sl false [.i .u8]], .i .i64, .b] x27]]⟩
theorem f83_0_round (c : Orc) (lf : Nat) (L : CSt → Option (List T)) (x24 : List T) (x25 x26 : Int) (x27 : List T) :
 roundK c env lf 6 fi83 1 2 [] [1, 8, 9, 10] (x83_2_0) L (f83_0_c x24 x25 x26 x27) = f83_0_s c lf (fun x24 x25 x26 x27 => L (f83_0_c x24 x25 x26 x27)) (fun (x24 : List T) (x25 x26 : Int) (x27 : List T) (x29 : Int) => lpK c env lf 6 fi83 1 7 [] [1, 4, 8, 9, 10, 25, 26, 27] (x83_7_0) lf (f83_1_c x24 x25 x26 x27 x29)) x24 x25 x26 x27 := by kernel_rfl
def f83_0 (c : Orc) (lf : Nat) : Nat → List T → Int → Int → List T → Option (List T)
 | 0 => fun _ _ _ _ => none
 | n + 1 => fun x24 x25 x26 x27 => f83_0_s c lf (f83_0 c lf n) (fun (x24 : List T) (x25 x26 : Int) (x27 : List T) (x29 : Int) => f83_1 c lf x24 x25 x26 x27 lf x29) x24 x25 x26 x27
theorem f83_0_u (c : Orc) (lf n : Nat) (x24 : List T) (x25 x26 : Int) (x27 : List T) : f83_0 c lf (n + 1) x24 x25 x26 x27 = f83_0_s c lf (f83_0 c lf n) (fun (x24 : List T) (x25 x26 : Int) (x27 : List T) (x29 : Int) => f83_1 c lf x24 x25 x26 x27 lf x29) x24 x25 x26 x27 := rfl
theorem f83_0_eq (c : Orc) (lf n : Nat) (x24 : List T) (x25 x26 : Int) (x27 : List T) :
 lpK c env lf 6 fi83 1 2 [] [1, 8, 9, 10] (x83_2_0) n (f83_0_c x24 x25 x26 x27) = f83_0 c lf n x24 x25 x26 x27 := by
 induction n generalizing x24 x25 x26 x27 with
 | zero => rfl
 | succ n ih =>
  refine (f83_0_round c lf _ x24 x25 x26 x27).trans ?_
  have e : (fun x24 x25 x26 x27 => lpK c env lf 6 fi83 1 2 [] [1, 8, 9, 10] (x83_2_0) n (f83_0_c x24 x25 x26 x27)) = f83_0 c lf n := by funext x24 x25 x26 x27; exact ih x24 x25 x26 x27
  have e0 : (fun (x24 : List T) (x25 x26 : Int) (x27 : List T) (x29 : Int) => lpK c env lf 6 fi83 1 7 [] [1, 4, 8, 9, 10, 25, 26, 27] (x83_7_0) lf (f83_1_c x24 x25 x26 x27 x29)) = (fun (x24 : List T) (x25 x26 : Int) (x27 : List T) (x29 : Int) => f83_1 c lf x24 x25 x26 x27 lf x29) := by funext x24 x25 x26 x27 x29; exact f83_1_eq c lf x24 x25 x26 x27 lf x29
  show f83_0_s c lf (fun x24 x25 x26 x27 => lpK c env lf 6 fi83 1 2 [] [1, 8, 9, 10] (x83_2_0) n (f83_0_c x24 x25 x26 x27)) (fun (x24 : List T) (x25 x26 : Int) (x27 : List T) (x29 : Int) => lpK c env lf 6 fi83 1 7 [] [1, 4, 8, 9, 10, 25, 26, 27] (x83_7_0) lf (f83_1_c x24 x25 x26 x27 x29)) x24 x25 x26 x27 = _
  rw [e, e0]; rfl
def f83_t (c : Orc) (lf : Nat) (lp0 : List T → Int → Int → List T → Option (List T)) (l0_0 : List T) : Option (List T) :=
 (lp0 l0_0 (l0_0.length : Int) 0 l0_0).bind fun r31 =>
 bif asI (nth r31 0) == 0 then
  some [T.b (asB (nth r31 1))]
 else
  (c 58 [T.i .i64 ((asL (nth r31 1)).length : Int), T.i .i64 3, T.i .i64 24]).bind fun r32 =>
  some [T.b (asB (nth r32 0))]
def f83 (c : Orc) (lf : Nat) (l0_0 : List T) : Option (List T) := f83_t c lf (fun (x24 : List T) (x25 x26 : Int) (x27 : List T) => f83_0 c lf lf x24 x25 x26 x27) l0_0
theorem f83_raw (c : Orc) (lf : Nat) (l0_0 : List T) : funK c env lf 6 fi83 [.st [.sl l0_0]] = f83_t c lf (fun (x24 : List T) (x25 x26 : Int) (x27 : List T) => lpK c env lf 6 fi83 1 2 [] [1, 8, 9, 10] (x83_2_0) lf (f83_0_c x24 x25 x26 x27)) l0_0 := by kernel_rfl
theorem f83_eq (c : Orc) (lf : Nat) (l0_0 : List T) : funK c env lf 6 fi83 [.st [.sl l0_0]] = f83 c lf l0_0 := by
 refine (f83_raw c lf l0_0).trans ?_
 have e0 : (fun (x24 : List T) (x25 x26 : Int) (x27 : List T) => lpK c env lf 6 fi83 1 2 [] [1, 8, 9, 10] (x83_2_0) lf (f83_0_c x24 x25 x26 x27)) = (fun (x24 : List T) (x25 x26 : Int) (x27 : List T) => f83_0 c lf lf x24 x25 x26 x27) := by funext x24 x25 x26 x27; exact f83_0_eq c lf lf x24 x25 x26 x27
 rw [e0]; rfl
def f42_0_s (c : Orc) (lf : Nat) (b0_3 : Bool) (l0_0 l0_2 : List T) (n0_1 : Int) (L : Int → Option (List T)) (x46 : Int) : Option (List T) :=
 bif iLt x46 (l0_2.length : Int) then
  bif inR x46 l0_2.length then
  (c 58 [T.i .i64 (asI (T.cell (l0_2.getD x46.toNat T.u) 0)), T.i .i64 0, T.i .i64 100000]).bind fun r47 =>
  bif !(asB (nth r47 0)) then
   some [T.i .i64 0, T.b false]
  else
   (c 58 [T.i .i64 (asI (T.cell (l0_2.getD x46.toNat T.u) 1)), T.i .i64 1, T.i .i64 2]).bind fun r48 =>
   bif !(asB (nth r48 0)) then
    some [T.i .i64 0, T.b false]
   else
    (c 58 [T.i .i64 (asI (T.cell (l0_2.getD x46.toNat T.u) 2)), T.i .i64 0, T.i .i64 400]).bind fun r49 =>
    bif !(asB (nth r49 0)) then
     some [T.i .i64 0, T.b false]
    else
     bif iLt 0 x46 then
      bif inR (IntKind.wrap .i64 (x46 - 1)) l0_2.length then
      bif iLe (asI (T.cell (l0_2.getD x46.toNat T.u) 0)) (asI (T.cell (l0_2.getD ((IntKind.wrap .i64 (x46 - 1)).toNat) T.u) 0)) then
       some [T.i .i64 0, T.b false]
      else
       L (IntKind.wrap .i64 (x46 + 1))
      else none
     else
      L (IntKind.wrap .i64 (x46 + 1))
  else none
 else
  some [T.i .i64 1, T.sl l0_0, T.i .i64 n0_1, T.sl l0_2, T.b b0_3]
def f42_0_c (b0_3 : Bool) (l0_0 l0_2 : List T) (n0_1 x46 : Int) : CSt := ⟨[.bp 4 0, .ro 0 true [.i .i64, .i .i64, .i .i64] l0_2, .i .i64 (l0_2.length : Int), .i .i64 x46], [.dead, .dead, .dead, .dead, .box [.ro 0 true [.sl true [.b, .sl false [.i .u8]], .i .i64, .b] l0_0, .i .i64 n0_1, .ro 0 true [.i .i64, .i .i64, .i .i64] l0_2, .b b0_3]]⟩
theorem f42_0_round (c : Orc) (lf : Nat) (b0_3 : Bool) (l0_0 l0_2 : List T) (n0_1 : Int) (L : CSt → Option (List T)) (x46 : Int) :
 roundK c env lf 6 fi42 4 2 [] [1, 6, 7, 8] (x42_2_0) L (f42_0_c b0_3 l0_0 l0_2 n0_1 x46) = f42_0_s c lf b0_3 l0_0 l0_2 n0_1 (fun x46 => L (f42_0_c b0_3 l0_0 l0_2 n0_1 x46)) x46 := by kernel_rfl
def f42_0 (c : Orc) (lf : Nat) (b0_3 : Bool) (l0_0 l0_2 : List T) (n0_1 : Int) : Nat → Int → Option (List T)
 | 0 => fun _ => none
 | n + 1 => fun x46 => f42_0_s c lf b0_3 l0_0 l0_2 n0_1 (f42_0 c lf b0_3 l0_0 l0_2 n0_1 n) x46
theorem f42_0_u (c : Orc) (lf : Nat) (b0_3 : Bool) (l0_0 l0_2 : List T) (n0_1 : Int) (n : Nat) (x46 : Int) : f42_0 c lf b0_3 l0_0 l0_2 n0_1 (n + 1) x46 = f42_0_s c lf b0_3 l0_0 l0_2 n0_1 (f42_0 c lf b0_3 l0_0 l0_2 n0_1 n) x46 := rfl
theorem f42_0_eq (c : Orc) (lf : Nat) (b0_3 : Bool) (l0_0 l0_2 : List T) (n0_1 : Int) (n : Nat) (x46 : Int) :
 lpK c env lf 6 fi42 4 2 [] [1, 6, 7, 8] (x42_2_0) n (f42_0_c b0_3 l0_0 l0_2 n0_1 x46) = f42_0 c lf b0_3 l0_0 l0_2 n0_1 n x46 := by
 induction n generalizing x46 with
 | zero => rfl
 | succ n ih =>
  refine (f42_0_round c lf b0_3 l0_0 l0_2 n0_1 _ x46).trans ?_
  have e : (fun x46 => lpK c env lf 6 fi42 4 2 [] [1, 6, 7, 8] (x42_2_0) n (f42_0_c b0_3 l0_0 l0_2 n0_1 x46)) = f42_0 c lf b0_3 l0_0 l0_2 n0_1 n := by funext x46; exact ih x46
  show f42_0_s c lf b0_3 l0_0 l0_2 n0_1 (fun x46 => lpK c env lf 6 fi42 4 2 [] [1, 6, 7, 8] (x42_2_0) n (f42_0_c b0_3 l0_0 l0_2 n0_1 x46)) x46 = _
  rw [e]; rfl
def f42_t (c : Orc) (lf : Nat) (lp0 : Bool → List T → List T → Int → Int → Option (List T)) (l0_0 : List T) (n0_1 : Int) (l0_2 : List T) (b0_3 : Bool) : Option (List T) :=
 (lp0 b0_3 l0_0 l0_2 n0_1 0).bind fun r50 =>
 bif asI (nth r50 0) == 0 then
  some [T.b (asB (nth r50 1))]
 else
  (c 83 [T.st [T.sl (asL (nth r50 1))]]).bind fun r51 =>
  bif asB (nth r51 0) then
   (c 58 [T.i .i64 (asI (nth r50 2)), T.i .i64 0, T.i .i64 100000]).bind fun r52 =>
   bif asB (nth r52 0) then
    some [T.b (iLe ((asL (nth r50 3)).length : Int) 20)]
   else
    some [T.b false]
  else
   some [T.b false]
def f42 (c : Orc) (lf : Nat) (l0_0 : List T) (n0_1 : Int) (l0_2 : List T) (b0_3 : Bool) : Option (List T) := f42_t c lf (fun (b0_3 : Bool) (l0_0 l0_2 : List T) (n0_1 x46 : Int) => f42_0 c lf b0_3 l0_0 l0_2 n0_1 lf x46) l0_0 n0_1 l0_2 b0_3
theorem f42_raw (c : Orc) (lf : Nat) (l0_0 : List T) (n0_1 : Int) (l0_2 : List T) (b0_3 : Bool) : funK c env lf 6 fi42 [.st [.sl l0_0, .i .i64 n0_1, .sl l0_2, .b b0_3]] = f42_t c lf (fun (b0_3 : Bool) (l0_0 l0_2 : List T) (n0_1 x46 : Int) => lpK c env lf 6 fi42 4 2 [] [1, 6, 7, 8] (x42_2_0) lf (f42_0_c b0_3 l0_0 l0_2 n0_1 x46)) l0_0 n0_1 l0_2 b0_3 := by kernel_rfl
theorem f42_eq (c : Orc) (lf : Nat) (l0_0 : List T) (n0_1 : Int) (l0_2 : List T) (b0_3 : Bool) : funK c env lf 6 fi42 [.st [.sl l0_0, .i .i64 n0_1, .sl l0_2, .b b0_3]] = f42 c lf l0_0 n0_1 l0_2 b0_3 := by
 refine (f42_raw c lf l0_0 n0_1 l0_2 b0_3).trans ?_
 have e0 : (fun (b0_3 : Bool) (l0_0 l0_2 : List T) (n0_1 x46 : Int) => lpK c env lf 6 fi42 4 2 [] [1, 6, 7, 8] (x42_2_0) lf (f42_0_c b0_3 l0_0 l0_2 n0_1 x46)) = (fun (b0_3 : Bool) (l0_0 l0_2 : List T) (n0_1 x46 : Int) => f42_0 c lf b0_3 l0_0 l0_2 n0_1 lf x46) := by funext b0_3 l0_0 l0_2 n0_1 x46; exact f42_0_eq c lf b0_3 l0_0 l0_2 n0_1 lf x46
 rw [e0]; rfl
def f15_t (c : Orc) (lf : Nat) (n0 : Int) (l1 : List T) : Option (List T) :=
 (c 40 [T.i .i64 n0]).bind fun r53 =>
 (c 41 [T.sl l1]).bind fun r54 =>
 (c 42 [T.st [T.sl (asL (T.cell (nth r53 0) 0)), T.i .i64 0, T.sl (asL (nth r54 0)), T.b false]]).bind fun r55 =>
 bif !(asB (nth r55 0)) then
  some [T.st [T.sl [], T.i .i64 0, T.sl [], T.b false]]
 else
  some [T.st [T.sl (asL (T.cell (nth r53 0) 0)), T.i .i64 0, T.sl (asL (nth r54 0)), T.b false]]
def f15 (c : Orc) (lf : Nat) (n0 : Int) (l1 : List T) : Option (List T) := f15_t c lf n0 l1
theorem f15_eq (c : Orc) (lf : Nat) (n0 : Int) (l1 : List T) : funK c env lf 6 fi15 [.i .i64 n0, .sl l1] = f15 c lf n0 l1 := by kernel_rfl
def f143_1_s (c : Orc) (lf : Nat) (x77 : List T) (x78 x79 : Int) (x80 x81 : List T) (L : Int → List T → Option (List T)) (x83 : Int) (x84 : List T) : Option (List T) :=
 bif iLt x83 ((asL (T.cell (x77.getD x79.toNat T.u) 0)).length : Int) then
  bif inR x83 ((asL (T.cell (x77.getD x79.toNat T.u) 0)).length) then
  (c 54 [T.sl (asL (T.cell ((asL (T.cell (x77.getD x79.toNat T.u) 0)).getD x83.toNat T.u) 1))]).bind fun r85 =>
  bif nLe (x84.length + ([T.st [T.b (asB (T.cell ((asL (T.cell (x77.getD x79.toNat T.u) 0)).getD x83.toNat T.u) 0)), T.sl (asL (nth r85 0))]] : List T).length) LIM then
  L (IntKind.wrap .i64 (x83 + 1)) (x84 ++ ([T.st [T.b (asB (T.cell ((asL (T.cell (x77.getD x79.toNat T.u) 0)).getD x83.toNat T.u) 0)), T.sl (asL (nth r85 0))]] : List T))
  else none
  else none
 else
  some [T.i .i64 0, T.sl x77, T.i .i64 x78, T.i .i64 x79, T.sl x80, T.sl x81, T.sl (asL (T.cell (x77.getD x79.toNat T.u) 0)), T.i .i64 (asI (T.cell (x77.getD x79.toNat T.u) 1)), T.b (asB (T.cell (x77.getD x79.toNat T.u) 2)), T.sl x84]
def f143_1_c (x77 : List T) (x78 x79 : Int) (x80 x81 : List T) (x83 : Int) (x84 : List T) : CSt := ⟨[.bp 1 0, .bp 3 0, .bp 5 0, .rf 6 [] 0 none, .ro 0 true [.sl true [.b, .sl false [.i .u8]], .i .i64, .b] x77, .i .i64 x78, .i .i64 x79, .ro 0 true [.b, .sl false [.i .u8]] (asL (T.cell (x77.getD x79.toNat T.u) 0)), .i .i64 ((asL (T.cell (x77.getD x79.toNat T.u) 0)).length : Int), .i .i64 x83], [.dead, .box [.rf 2 [] 0 none], .row true [.sl true [.b, .sl false [.i .u8]], .i .i64, .b] x80 0 false, .box [.rf 4 [] 0 none], .row true [.sl true [.b, .sl false [.i .u8]], .i .i64, .b] x81 0 false, .box [.ro 0 true [.b, .sl false [.i .u8]] (asL (T.cell (x77.getD x79.toNat T.u) 0)), .i .i64 (asI (T.cell (x77.getD x79.toNat T.u) 1)), .b (asB (T.cell (x77.getD x79.toNat T.u) 2))], .row true [.b, .sl false [.i .u8]] x84 0 false]⟩
theorem f143_1_round (c : Orc) (lf : Nat) (x77 : List T) (x78 x79 : Int) (x80 x81 : List T) (L : CSt → Option (List T)) (x83 : Int) (x84 : List T) :
 roundK c env lf 6 fi143 1 7 [] [2, 3, 5, 6, 11, 12, 13, 19, 20, 21] (x143_7_0) L (f143_1_c x77 x78 x79 x80 x81 x83 x84) = f143_1_s c lf x77 x78 x79 x80 x81 (fun x83 x84 => L (f143_1_c x77 x78 x79 x80 x81 x83 x84)) x83 x84 := by kernel_rfl
def f143_1 (c : Orc) (lf : Nat) (x77 : List T) (x78 x79 : Int) (x80 x81 : List T) : Nat → Int → List T → Option (List T)
 | 0 => fun _ _ => none
 | n + 1 => fun x83 x84 => f143_1_s c lf x77 x78 x79 x80 x81 (f143_1 c lf x77 x78 x79 x80 x81 n) x83 x84
theorem f143_1_u (c : Orc) (lf : Nat) (x77 : List T) (x78 x79 : Int) (x80 x81 : List T) (n : Nat) (x83 : Int) (x84 : List T) : f143_1 c lf x77 x78 x79 x80 x81 (n + 1) x83 x84 = f143_1_s c lf x77 x78 x79 x80 x81 (f143_1 c lf x77 x78 x79 x80 x81 n) x83 x84 := rfl
theorem f143_1_eq (c : Orc) (lf : Nat) (x77 : List T) (x78 x79 : Int) (x80 x81 : List T) (n : Nat) (x83 : Int) (x84 : List T) :
 lpK c env lf 6 fi143 1 7 [] [2, 3, 5, 6, 11, 12, 13, 19, 20, 21] (x143_7_0) n (f143_1_c x77 x78 x79 x80 x81 x83 x84) = f143_1 c lf x77 x78 x79 x80 x81 n x83 x84 := by
 induction n generalizing x83 x84 with
 | zero => rfl
 | succ n ih =>
  refine (f143_1_round c lf x77 x78 x79 x80 x81 _ x83 x84).trans ?_
  have e : (fun x83 x84 => lpK c env lf 6 fi143 1 7 [] [2, 3, 5, 6, 11, 12, 13, 19, 20, 21] (x143_7_0) n (f143_1_c x77 x78 x79 x80 x81 x83 x84)) = f143_1 c lf x77 x78 x79 x80 x81 n := by funext x83 x84; exact ih x83 x84
  show f143_1_s c lf x77 x78 x79 x80 x81 (fun x83 x84 => lpK c env lf 6 fi143 1 7 [] [2, 3, 5, 6, 11, 12, 13, 19, 20, 21] (x143_7_0) n (f143_1_c x77 x78 x79 x80 x81 x83 x84)) x83 x84 = _
  rw [e]; rfl
def f143_0_s (c : Orc) (lf : Nat) (L : List T → Int → Int → List T → List T → Option (List T)) (lp0 : List T → Int → Int → List T → List T → Int → List T → Option (List T)) (x77 : List T) (x78 x79 : Int) (x80 x81 : List T) : Option (List T) :=
 bif iLt x79 x78 then
  bif inR x79 x77.length then
  (lp0 x77 x78 x79 x80 x81 0 ([] : List T)).bind fun r86 =>
  bif nLe ((asL (nth r86 5)).length + ([T.st [T.sl (asL (nth r86 9)), T.i .i64 (asI (nth r86 7)), T.b (asB (nth r86 8))]] : List T).length) LIM then
  L (asL (nth r86 1)) (asI (nth r86 2)) (IntKind.wrap .i64 ((asI (nth r86 3)) + 1)) (asL (nth r86 4)) ((asL (nth r86 5)) ++ ([T.st [T.sl (asL (nth r86 9)), T.i .i64 (asI (nth r86 7)), T.b (asB (nth r86 8))]] : List T))
  else none
  else none
 else
  some [T.i .i64 0, T.sl x80, T.sl x81]
def f143_0_c (x77 : List T) (x78 x79 : Int) (x80 x81 : List T) : CSt := ⟨[.bp 1 0, .bp 3 0, .ro 0 true [.sl true [.b, .sl false [.i .u8]], .i .i64, .b] x77, .i .i64 x78, .i .i64 x79], [.dead, .box [.rf 2 [] 0 none], .row true [.sl true [.b, .sl false [.i .u8]], .i .i64, .b] x80 0 false, .box [.rf 4 [] 0 none], .row true [.sl true [.b, .sl false [.i .u8]], .i .i64, .b] x81 0 false]⟩
theorem f143_0_round (c : Orc) (lf : Nat) (L : CSt → Option (List T)) (x77 : List T) (x78 x79 : Int) (x80 x81 : List T) :
 roundK c env lf 6 fi143 1 3 [] [2, 3, 11, 12, 13] (x143_3_0) L (f143_0_c x77 x78 x79 x80 x81) = f143_0_s c lf (fun x77 x78 x79 x80 x81 => L (f143_0_c x77 x78 x79 x80 x81)) (fun (x77 : List T) (x78 x79 : Int) (x80 x81 : List T) (x83 : Int) (x84 : List T) => lpK c env lf 6 fi143 1 7 [] [2, 3, 5, 6, 11, 12, 13, 19, 20, 21] (x143_7_0) lf (f143_1_c x77 x78 x79 x80 x81 x83 x84)) x77 x78 x79 x80 x81 := by kernel_rfl
def f143_0 (c : Orc) (lf : Nat) : Nat → List T → Int → Int → List T → List T → Option (List T)
 | 0 => fun _ _ _ _ _ => none
 | n + 1 => fun x77 x78 x79 x80 x81 => f143_0_s c lf (f143_0 c lf n) (fun (x77 : List T) (x78 x79 : Int) (x80 x81 : List T) (x83 : Int) (x84 : List T) => f143_1 c lf x77 x78 x79 x80 x81 lf x83 x84) x77 x78 x79 x80 x81
theorem f143_0_u (c : Orc) (lf n : Nat) (x77 : List T) (x78 x79 : Int) (x80 x81 : List T) : f143_0 c lf (n + 1) x77 x78 x79 x80 x81 = f143_0_s c lf (f143_0 c lf n) (fun (x77 : List T) (x78 x79 : Int) (x80 x81 : List T) (x83 : Int) (x84 : List T) => f143_1 c lf x77 x78 x79 x80 x81 lf x83 x84) x77 x78 x79 x80 x81 := rfl
theorem f143_0_eq (c : Orc) (lf n : Nat) (x77 : List T) (x78 x79 : Int) (x80 x81 : List T) :
 lpK c env lf 6 fi143 1 3 [] [2, 3, 11, 12, 13] (x143_3_0) n (f143_0_c x77 x78 x79 x80 x81) = f143_0 c lf n x77 x78 x79 x80 x81 := by
 induction n generalizing x77 x78 x79 x80 x81 with
 | zero => rfl
 | succ n ih =>
  refine (f143_0_round c lf _ x77 x78 x79 x80 x81).trans ?_
  have e : (fun x77 x78 x79 x80 x81 => lpK c env lf 6 fi143 1 3 [] [2, 3, 11, 12, 13] (x143_3_0) n (f143_0_c x77 x78 x79 x80 x81)) = f143_0 c lf n := by funext x77 x78 x79 x80 x81; exact ih x77 x78 x79 x80 x81
  have e0 : (fun (x77 : List T) (x78 x79 : Int) (x80 x81 : List T) (x83 : Int) (x84 : List T) => lpK c env lf 6 fi143 1 7 [] [2, 3, 5, 6, 11, 12, 13, 19, 20, 21] (x143_7_0) lf (f143_1_c x77 x78 x79 x80 x81 x83 x84)) = (fun (x77 : List T) (x78 x79 : Int) (x80 x81 : List T) (x83 : Int) (x84 : List T) => f143_1 c lf x77 x78 x79 x80 x81 lf x83 x84) := by funext x77 x78 x79 x80 x81 x83 x84; exact f143_1_eq c lf x77 x78 x79 x80 x81 lf x83 x84
  show f143_0_s c lf (fun x77 x78 x79 x80 x81 => lpK c env lf 6 fi143 1 3 [] [2, 3, 11, 12, 13] (x143_3_0) n (f143_0_c x77 x78 x79 x80 x81)) (fun (x77 : List T) (x78 x79 : Int) (x80 x81 : List T) (x83 : Int) (x84 : List T) => lpK c env lf 6 fi143 1 7 [] [2, 3, 5, 6, 11, 12, 13, 19, 20, 21] (x143_7_0) lf (f143_1_c x77 x78 x79 x80 x81 x83 x84)) x77 x78 x79 x80 x81 = _
  rw [e, e0]; rfl
def f143_t (c : Orc) (lf : Nat) (lp0 : List T → Int → Int → List T → List T → Option (List T)) (l0_0 : List T) : Option (List T) :=
 (lp0 l0_0 (l0_0.length : Int) 0 ([] : List T) ([] : List T)).bind fun r87 =>
 some [T.st [T.sl (asL (nth r87 2))]]
def f143 (c : Orc) (lf : Nat) (l0_0 : List T) : Option (List T) := f143_t c lf (fun (x77 : List T) (x78 x79 : Int) (x80 x81 : List T) => f143_0 c lf lf x77 x78 x79 x80 x81) l0_0
theorem f143_raw (c : Orc) (lf : Nat) (l0_0 : List T) : funK c env lf 6 fi143 [.st [.sl l0_0]] = f143_t c lf (fun (x77 : List T) (x78 x79 : Int) (x80 x81 : List T) => lpK c env lf 6 fi143 1 3 [] [2, 3, 11, 12, 13] (x143_3_0) lf (f143_0_c x77 x78 x79 x80 x81)) l0_0 := by kernel_rfl
theorem f143_eq (c : Orc) (lf : Nat) (l0_0 : List T) : funK c env lf 6 fi143 [.st [.sl l0_0]] = f143 c lf l0_0 := by
 refine (f143_raw c lf l0_0).trans ?_
 have e0 : (fun (x77 : List T) (x78 x79 : Int) (x80 x81 : List T) => lpK c env lf 6 fi143 1 3 [] [2, 3, 11, 12, 13] (x143_3_0) lf (f143_0_c x77 x78 x79 x80 x81)) = (fun (x77 : List T) (x78 x79 : Int) (x80 x81 : List T) => f143_0 c lf lf x77 x78 x79 x80 x81) := by funext x77 x78 x79 x80 x81; exact f143_0_eq c lf lf x77 x78 x79 x80 x81
 rw [e0]; rfl
def f84_t (c : Orc) (lf : Nat) (l0_0 : List T) (n0_1 : Int) (l0_2 : List T) (b0_3 : Bool) : Option (List T) :=
 (c 143 [T.st [T.sl l0_0]]).bind fun r88 =>
 (c 41 [T.sl l0_2]).bind fun r89 =>
 some [T.st [T.sl (asL (T.cell (nth r88 0) 0)), T.i .i64 n0_1, T.sl (asL (nth r89 0)), T.b b0_3]]
def f84 (c : Orc) (lf : Nat) (l0_0 : List T) (n0_1 : Int) (l0_2 : List T) (b0_3 : Bool) : Option (List T) := f84_t c lf l0_0 n0_1 l0_2 b0_3
theorem f84_eq (c : Orc) (lf : Nat) (l0_0 : List T) (n0_1 : Int) (l0_2 : List T) (b0_3 : Bool) : funK c env lf 6 fi84 [.st [.sl l0_0, .i .i64 n0_1, .sl l0_2, .b b0_3]] = f84 c lf l0_0 n0_1 l0_2 b0_3 := by kernel_rfl
def f43_t (c : Orc) (lf : Nat) (l0_0 : List T) (n0_1 : Int) (l0_2 : List T) (b0_3 : Bool) : Option (List T) :=
 (c 84 [T.st [T.sl l0_0, T.i .i64 n0_1, T.sl l0_2, T.b b0_3]]).bind fun r90 =>
 some [T.st [T.sl (asL (T.cell (nth r90 0) 0)), T.i .i64 (asI (T.cell (nth r90 0) 1)), T.sl (asL (T.cell (nth r90 0) 2)), T.b false]]
def f43 (c : Orc) (lf : Nat) (l0_0 : List T) (n0_1 : Int) (l0_2 : List T) (b0_3 : Bool) : Option (List T) := f43_t c lf l0_0 n0_1 l0_2 b0_3
theorem f43_eq (c : Orc) (lf : Nat) (l0_0 : List T) (n0_1 : Int) (l0_2 : List T) (b0_3 : Bool) : funK c env lf 6 fi43 [.st [.sl l0_0, .i .i64 n0_1, .sl l0_2, .b b0_3]] = f43 c lf l0_0 n0_1 l0_2 b0_3 := by kernel_rfl
def f95_t (c : Orc) (lf : Nat) (l0_0 : List T) (n1 : Int) : Option (List T) :=
 (c 58 [T.i .i64 n1, T.i .i64 0, T.i .i64 (IntKind.wrap .i64 ((l0_0.length : Int) - 1))]).bind fun r91 =>
 some [T.b (asB (nth r91 0))]
def f95 (c : Orc) (lf : Nat) (l0_0 : List T) (n1 : Int) : Option (List T) := f95_t c lf l0_0 n1
theorem f95_eq (c : Orc) (lf : Nat) (l0_0 : List T) (n1 : Int) : funK c env lf 6 fi95 [.st [.sl l0_0], .i .i64 n1] = f95 c lf l0_0 n1 := by kernel_rfl
def f144_t (c : Orc) (lf : Nat) (l0_0 : List T) (n1 n2 : Int) : Option (List T) :=
 (c 95 [T.st [T.sl l0_0], T.i .i64 n1]).bind fun r92 =>
 bif !(asB (nth r92 0)) then
  some [T.sl [], T.b false]
 else
  bif inR n1 l0_0.length then
  (c 58 [T.i .i64 n2, T.i .i64 0, T.i .i64 (IntKind.wrap .i64 (((asL (T.cell (l0_0.getD n1.toNat T.u) 0)).length : Int) - 1))]).bind fun r93 =>
  bif !(asB (nth r93 0)) then
   some [T.sl [], T.b false]
  else
   bif inR n1 l0_0.length then
   bif inR n2 ((asL (T.cell (l0_0.getD n1.toNat T.u) 0)).length) then
   bif !(asB (T.cell ((asL (T.cell (l0_0.getD n1.toNat T.u) 0)).getD n2.toNat T.u) 0)) then
    some [T.sl [], T.b false]
   else
    bif inR n1 l0_0.length then
    bif inR n2 ((asL (T.cell (l0_0.getD n1.toNat T.u) 0)).length) then
    (c 54 [T.sl (asL (T.cell ((asL (T.cell (l0_0.getD n1.toNat T.u) 0)).getD n2.toNat T.u) 1))]).bind fun r94 =>
    some [T.sl (asL (nth r94 0)), T.b true]
    else none
    else none
   else none
   else none
  else none
def f144 (c : Orc) (lf : Nat) (l0_0 : List T) (n1 n2 : Int) : Option (List T) := f144_t c lf l0_0 n1 n2
theorem f144_eq (c : Orc) (lf : Nat) (l0_0 : List T) (n1 n2 : Int) : funK c env lf 6 fi144 [.st [.sl l0_0], .i .i64 n1, .i .i64 n2] = f144 c lf l0_0 n1 n2 := by kernel_rfl
def f157_1_s (c : Orc) (lf : Nat) (x110 : List T) (x111 x112 : Int) (L : Int → Int → Option (List T)) (x113 x114 : Int) : Option (List T) :=
 bif iLt x114 8 then
  bif (intBits .and .u32 x113 1) == 1 then
   L (intBits .xor .u32 (shiftI .shr .u32 x113 1) 2197175160) (IntKind.wrap .i64 (x114 + 1))
  else
   L (shiftI .shr .u32 x113 1) (IntKind.wrap .i64 (x114 + 1))
 else
  some [T.i .i64 0, T.i .u32 x113, T.sl x110, T.i .i64 x111, T.i .i64 x112]
def f157_1_c (x110 : List T) (x111 x112 : Int) (x113 x114 : Int) : CSt := ⟨[.i .u32 x113, .ro 0 false [.i .u8] x110, .i .i64 x111, .i .i64 x112, .i .i64 x114], [.dead]⟩
theorem f157_1_round (c : Orc) (lf : Nat) (x110 : List T) (x111 x112 : Int) (L : CSt → Option (List T)) (x113 x114 : Int) :
 roundK c env lf 6 fi157 1 7 [] [3, 7, 8, 9, 17] (x157_7_0) L (f157_1_c x110 x111 x112 x113 x114) = f157_1_s c lf x110 x111 x112 (fun x113 x114 => L (f157_1_c x110 x111 x112 x113 x114)) x113 x114 := by kernel_rfl
def f157_1 (c : Orc) (lf : Nat) (x110 : List T) (x111 x112 : Int) : Nat → Int → Int → Option (List T)
 | 0 => fun _ _ => none
 | n + 1 => fun x113 x114 => f157_1_s c lf x110 x111 x112 (f157_1 c lf x110 x111 x112 n) x113 x114
theorem f157_1_u (c : Orc) (lf : Nat) (x110 : List T) (x111 x112 : Int) (n : Nat) (x113 x114 : Int) : f157_1 c lf x110 x111 x112 (n + 1) x113 x114 = f157_1_s c lf x110 x111 x112 (f157_1 c lf x110 x111 x112 n) x113 x114 := rfl
theorem f157_1_eq (c : Orc) (lf : Nat) (x110 : List T) (x111 x112 : Int) (n : Nat) (x113 x114 : Int) :
 lpK c env lf 6 fi157 1 7 [] [3, 7, 8, 9, 17] (x157_7_0) n (f157_1_c x110 x111 x112 x113 x114) = f157_1 c lf x110 x111 x112 n x113 x114 := by
 induction n generalizing x113 x114 with
 | zero => rfl
 | succ n ih =>
  refine (f157_1_round c lf x110 x111 x112 _ x113 x114).trans ?_
  have e : (fun x113 x114 => lpK c env lf 6 fi157 1 7 [] [3, 7, 8, 9, 17] (x157_7_0) n (f157_1_c x110 x111 x112 x113 x114)) = f157_1 c lf x110 x111 x112 n := by funext x113 x114; exact ih x113 x114
  show f157_1_s c lf x110 x111 x112 (fun x113 x114 => lpK c env lf 6 fi157 1 7 [] [3, 7, 8, 9, 17] (x157_7_0) n (f157_1_c x110 x111 x112 x113 x114)) x113 x114 = _
  rw [e]; rfl
def f157_0_s (c : Orc) (lf : Nat) (L : Int → List T → Int → Int → Option (List T)) (lp0 : List T → Int → Int → Int → Int → Option (List T)) (x109 : Int) (x110 : List T) (x111 x112 : Int) : Option (List T) :=
 bif iLt x112 x111 then
  bif inR x112 x110.length then
  (lp0 x110 x111 x112 (intBits .xor .u32 x109 (IntKind.wrap .u32 (asI (x110.getD x112.toNat T.u)))) 0).bind fun r115 =>
  L (asI (nth r115 1)) (asL (nth r115 2)) (asI (nth r115 3)) (IntKind.wrap .i64 ((asI (nth r115 4)) + 1))
  else none
 else
  some [T.i .i64 0, T.i .u32 x109]
def f157_0_c (x109 : Int) (x110 : List T) (x111 x112 : Int) : CSt := ⟨[.i .u32 x109, .ro 0 false [.i .u8] x110, .i .i64 x111, .i .i64 x112], [.dead]⟩
theorem f157_0_round (c : Orc) (lf : Nat) (L : CSt → Option (List T)) (x109 : Int) (x110 : List T) (x111 x112 : Int) :
 roundK c env lf 6 fi157 1 3 [] [3, 7, 8, 9] (x157_3_0) L (f157_0_c x109 x110 x111 x112) = f157_0_s c lf (fun x109 x110 x111 x112 => L (f157_0_c x109 x110 x111 x112)) (fun (x110 : List T) (x111 x112 : Int) (x113 x114 : Int) => lpK c env lf 6 fi157 1 7 [] [3, 7, 8, 9, 17] (x157_7_0) lf (f157_1_c x110 x111 x112 x113 x114)) x109 x110 x111 x112 := by kernel_rfl
def f157_0 (c : Orc) (lf : Nat) : Nat → Int → List T → Int → Int → Option (List T)
 | 0 => fun _ _ _ _ => none
 | n + 1 => fun x109 x110 x111 x112 => f157_0_s c lf (f157_0 c lf n) (fun (x110 : List T) (x111 x112 : Int) (x113 x114 : Int) => f157_1 c lf x110 x111 x112 lf x113 x114) x109 x110 x111 x112
theorem f157_0_u (c : Orc) (lf n : Nat) (x109 : Int) (x110 : List T) (x111 x112 : Int) : f157_0 c lf (n + 1) x109 x110 x111 x112 = f157_0_s c lf (f157_0 c lf n) (fun (x110 : List T) (x111 x112 : Int) (x113 x114 : Int) => f157_1 c lf x110 x111 x112 lf x113 x114) x109 x110 x111 x112 := rfl
theorem f157_0_eq (c : Orc) (lf n : Nat) (x109 : Int) (x110 : List T) (x111 x112 : Int) :
 lpK c env lf 6 fi157 1 3 [] [3, 7, 8, 9] (x157_3_0) n (f157_0_c x109 x110 x111 x112) = f157_0 c lf n x109 x110 x111 x112 := by
 induction n generalizing x109 x110 x111 x112 with
 | zero => rfl
 | succ n ih =>
  refine (f157_0_round c lf _ x109 x110 x111 x112).trans ?_
  have e : (fun x109 x110 x111 x112 => lpK c env lf 6 fi157 1 3 [] [3, 7, 8, 9] (x157_3_0) n (f157_0_c x109 x110 x111 x112)) = f157_0 c lf n := by funext x109 x110 x111 x112; exact ih x109 x110 x111 x112
  have e0 : (fun (x110 : List T) (x111 x112 : Int) (x113 x114 : Int) => lpK c env lf 6 fi157 1 7 [] [3, 7, 8, 9, 17] (x157_7_0) lf (f157_1_c x110 x111 x112 x113 x114)) = (fun (x110 : List T) (x111 x112 : Int) (x113 x114 : Int) => f157_1 c lf x110 x111 x112 lf x113 x114) := by funext x110 x111 x112 x113 x114; exact f157_1_eq c lf x110 x111 x112 lf x113 x114
  show f157_0_s c lf (fun x109 x110 x111 x112 => lpK c env lf 6 fi157 1 3 [] [3, 7, 8, 9] (x157_3_0) n (f157_0_c x109 x110 x111 x112)) (fun (x110 : List T) (x111 x112 : Int) (x113 x114 : Int) => lpK c env lf 6 fi157 1 7 [] [3, 7, 8, 9, 17] (x157_7_0) lf (f157_1_c x110 x111 x112 x113 x114)) x109 x110 x111 x112 = _
  rw [e, e0]; rfl
def f157_t (c : Orc) (lf : Nat) (lp0 : Int → List T → Int → Int → Option (List T)) (l0 : List T) : Option (List T) :=
 (lp0 4294967295 l0 (l0.length : Int) 0).bind fun r116 =>
 some [T.i .i64 (IntKind.wrap .i64 (intBits .xor .u32 4294967295 (asI (nth r116 1))))]
def f157 (c : Orc) (lf : Nat) (l0 : List T) : Option (List T) := f157_t c lf (fun (x109 : Int) (x110 : List T) (x111 x112 : Int) => f157_0 c lf lf x109 x110 x111 x112) l0
theorem f157_raw (c : Orc) (lf : Nat) (l0 : List T) : funK c env lf 6 fi157 [.sl l0] = f157_t c lf (fun (x109 : Int) (x110 : List T) (x111 x112 : Int) => lpK c env lf 6 fi157 1 3 [] [3, 7, 8, 9] (x157_3_0) lf (f157_0_c x109 x110 x111 x112)) l0 := by kernel_rfl
theorem f157_eq (c : Orc) (lf : Nat) (l0 : List T) : funK c env lf 6 fi157 [.sl l0] = f157 c lf l0 := by
 refine (f157_raw c lf l0).trans ?_
 have e0 : (fun (x109 : Int) (x110 : List T) (x111 x112 : Int) => lpK c env lf 6 fi157 1 3 [] [3, 7, 8, 9] (x157_3_0) lf (f157_0_c x109 x110 x111 x112)) = (fun (x109 : Int) (x110 : List T) (x111 x112 : Int) => f157_0 c lf lf x109 x110 x111 x112) := by funext x109 x110 x111 x112; exact f157_0_eq c lf lf x109 x110 x111 x112
 rw [e0]; rfl
def f99_t (c : Orc) (lf : Nat) (l0 : List T) : Option (List T) :=
 (c 157 [T.sl l0]).bind fun r117 =>
 (c 54 [T.sl l0]).bind fun r118 =>
 bif nLe ((asL (nth r118 0)).length + ([T.i .u8 (IntKind.wrap .u8 (shiftI .shr .i64 (asI (nth r117 0)) 24)), T.i .u8 (IntKind.wrap .u8 (shiftI .shr .i64 (asI (nth r117 0)) 16)), T.i .u8 (IntKind.wrap .u8 (shiftI .shr .i64 (asI (nth r117 0)) 8)), T.i .u8 (IntKind.wrap .u8 (asI (nth r117 0)))] : List T).length) LIM then
 some [T.sl ((asL (nth r118 0)) ++ ([T.i .u8 (IntKind.wrap .u8 (shiftI .shr .i64 (asI (nth r117 0)) 24)), T.i .u8 (IntKind.wrap .u8 (shiftI .shr .i64 (asI (nth r117 0)) 16)), T.i .u8 (IntKind.wrap .u8 (shiftI .shr .i64 (asI (nth r117 0)) 8)), T.i .u8 (IntKind.wrap .u8 (asI (nth r117 0)))] : List T))]
 else none
def f99 (c : Orc) (lf : Nat) (l0 : List T) : Option (List T) := f99_t c lf l0
theorem f99_eq (c : Orc) (lf : Nat) (l0 : List T) : funK c env lf 6 fi99 [.sl l0] = f99 c lf l0 := by kernel_rfl
def f195_t (c : Orc) (lf : Nat) (l0 : List T) : Option (List T) :=
 bif iLt (IntKind.wrap .i64 ((l0.length : Int) - 4)) 0 then
  some [T.sl [], T.b false]
 else
  bif iLe 0 (IntKind.wrap .i64 ((l0.length : Int) - 4)) && iLe (IntKind.wrap .i64 ((l0.length : Int) - 4)) (l0.length : Int) then
  (c 99 [T.sl (l0.take ((IntKind.wrap .i64 ((l0.length : Int) - 4)).toNat))]).bind fun r120 =>
  bif !((bytesOf (asL (nth r120 0))).toList == (bytesOf l0).toList) then
   some [T.sl [], T.b false]
  else
   bif iLe 0 (IntKind.wrap .i64 ((l0.length : Int) - 4)) && iLe (IntKind.wrap .i64 ((l0.length : Int) - 4)) (l0.length : Int) then
   some [T.sl (l0.take ((IntKind.wrap .i64 ((l0.length : Int) - 4)).toNat)), T.b true]
   else none
  else none
def f195 (c : Orc) (lf : Nat) (l0 : List T) : Option (List T) := f195_t c lf l0
theorem f195_eq (c : Orc) (lf : Nat) (l0 : List T) : funK c env lf 6 fi195 [.sl l0] = f195 c lf l0 := by kernel_rfl
def f91_0_s (c : Orc) (lf : Nat) (l0 : List T) (n1 : Int) (L : Int → Int → Int → Option (List T)) (x125 x126 x127 : Int) : Option (List T) :=
 bif iLt x127 3 then
  bif iLt n1 (IntKind.wrap .i64 ((l0.length : Int) - x127)) then
   bif inR (IntKind.wrap .i64 (n1 + x127)) l0.length then
   bif iLe 128 (IntKind.wrap .i64 (asI (l0.getD ((IntKind.wrap .i64 (n1 + x127)).toNat) T.u))) then
    L (IntKind.wrap .i64 (x125 + (IntKind.wrap .i64 (((IntKind.wrap .i64 (asI (l0.getD ((IntKind.wrap .i64 (n1 + x127)).toNat) T.u))).tmod 128) * x126)))) (IntKind.wrap .i64 (x126 * 128)) (IntKind.wrap .i64 (x127 + 1))
   else
    bif iLt 1000000 (IntKind.wrap .i64 (x125 + (IntKind.wrap .i64 (((IntKind.wrap .i64 (asI (l0.getD ((IntKind.wrap .i64 (n1 + x127)).toNat) T.u))).tmod 128) * x126)))) then
     some [T.i .i64 0]
    else
     bif (IntKind.wrap .i64 (asI (l0.getD ((IntKind.wrap .i64 (n1 + x127)).toNat) T.u))) == 0 then
      bif iLt 0 x127 then
       some [T.i .i64 0]
      else
       some [T.i .i64 1, T.i .i64 (IntKind.wrap .i64 (x125 + (IntKind.wrap .i64 (((IntKind.wrap .i64 (asI (l0.getD ((IntKind.wrap .i64 (n1 + x127)).toNat) T.u))).tmod 128) * x126)))), T.i .i64 (IntKind.wrap .i64 ((IntKind.wrap .i64 (n1 + x127)) + 1)), T.b true]
     else
      some [T.i .i64 1, T.i .i64 (IntKind.wrap .i64 (x125 + (IntKind.wrap .i64 (((IntKind.wrap .i64 (asI (l0.getD ((IntKind.wrap .i64 (n1 + x127)).toNat) T.u))).tmod 128) * x126)))), T.i .i64 (IntKind.wrap .i64 ((IntKind.wrap .i64 (n1 + x127)) + 1)), T.b true]
   else none
  else
   some [T.i .i64 0]
 else
  some [T.i .i64 0]
def f91_0_c (l0 : List T) (n1 x125 : Int) (x126 x127 : Int) : CSt := ⟨[.ro 0 false [.i .u8] l0, .i .i64 n1, .i .i64 x125, .i .i64 x126, .i .i64 x127], [.dead, .dead]⟩
theorem f91_0_round (c : Orc) (lf : Nat) (l0 : List T) (n1 : Int) (L : CSt → Option (List T)) (x125 x126 x127 : Int) :
 roundK c env lf 6 fi91 2 6 [] [0, 1, 7, 8, 9] (x91_6_0) L (f91_0_c l0 n1 x125 x126 x127) = f91_0_s c lf l0 n1 (fun x125 x126 x127 => L (f91_0_c l0 n1 x125 x126 x127)) x125 x126 x127 := by kernel_rfl
def f91_0 (c : Orc) (lf : Nat) (l0 : List T) (n1 : Int) : Nat → Int → Int → Int → Option (List T)
 | 0 => fun _ _ _ => none
 | n + 1 => fun x125 x126 x127 => f91_0_s c lf l0 n1 (f91_0 c lf l0 n1 n) x125 x126 x127
theorem f91_0_u (c : Orc) (lf : Nat) (l0 : List T) (n1 : Int) (n : Nat) (x125 x126 x127 : Int) : f91_0 c lf l0 n1 (n + 1) x125 x126 x127 = f91_0_s c lf l0 n1 (f91_0 c lf l0 n1 n) x125 x126 x127 := rfl
theorem f91_0_eq (c : Orc) (lf : Nat) (l0 : List T) (n1 : Int) (n : Nat) (x125 x126 x127 : Int) :
 lpK c env lf 6 fi91 2 6 [] [0, 1, 7, 8, 9] (x91_6_0) n (f91_0_c l0 n1 x125 x126 x127) = f91_0 c lf l0 n1 n x125 x126 x127 := by
 induction n generalizing x125 x126 x127 with
 | zero => rfl
 | succ n ih =>
  refine (f91_0_round c lf l0 n1 _ x125 x126 x127).trans ?_
  have e : (fun x125 x126 x127 => lpK c env lf 6 fi91 2 6 [] [0, 1, 7, 8, 9] (x91_6_0) n (f91_0_c l0 n1 x125 x126 x127)) = f91_0 c lf l0 n1 n := by funext x125 x126 x127; exact ih x125 x126 x127
  show f91_0_s c lf l0 n1 (fun x125 x126 x127 => lpK c env lf 6 fi91 2 6 [] [0, 1, 7, 8, 9] (x91_6_0) n (f91_0_c l0 n1 x125 x126 x127)) x125 x126 x127 = _
  rw [e]; rfl
def f91_t (c : Orc) (lf : Nat) (lp0 : List T → Int → Int → Int → Int → Option (List T)) (l0 : List T) (n1 : Int) : Option (List T) :=
 bif iLt n1 0 then
  some [T.i .i64 0, T.i .i64 0, T.b false]
 else
  (lp0 l0 n1 0 1 0).bind fun r128 =>
  bif asI (nth r128 0) == 0 then
   some [T.i .i64 0, T.i .i64 0, T.b false]
  else
   some [T.i .i64 (asI (nth r128 1)), T.i .i64 (asI (nth r128 2)), T.b (asB (nth r128 3))]
def f91 (c : Orc) (lf : Nat) (l0 : List T) (n1 : Int) : Option (List T) := f91_t c lf (fun (l0 : List T) (n1 x125 : Int) (x126 x127 : Int) => f91_0 c lf l0 n1 lf x125 x126 x127) l0 n1
theorem f91_raw (c : Orc) (lf : Nat) (l0 : List T) (n1 : Int) : funK c env lf 6 fi91 [.sl l0, .i .i64 n1] = f91_t c lf (fun (l0 : List T) (n1 x125 : Int) (x126 x127 : Int) => lpK c env lf 6 fi91 2 6 [] [0, 1, 7, 8, 9] (x91_6_0) lf (f91_0_c l0 n1 x125 x126 x127)) l0 n1 := by kernel_rfl
theorem f91_eq (c : Orc) (lf : Nat) (l0 : List T) (n1 : Int) : funK c env lf 6 fi91 [.sl l0, .i .i64 n1] = f91 c lf l0 n1 := by
 refine (f91_raw c lf l0 n1).trans ?_
 have e0 : (fun (l0 : List T) (n1 x125 : Int) (x126 x127 : Int) => lpK c env lf 6 fi91 2 6 [] [0, 1, 7, 8, 9] (x91_6_0) lf (f91_0_c l0 n1 x125 x126 x127)) = (fun (l0 : List T) (n1 x125 : Int) (x126 x127 : Int) => f91_0 c lf l0 n1 lf x125 x126 x127) := by funext l0 n1 x125 x126 x127; exact f91_0_eq c lf l0 n1 lf x125 x126 x127
 rw [e0]; rfl
def f148_t (c : Orc) (lf : Nat) (l0_0 : List T) (n0_1 : Int) (b0_2 : Bool) : Option (List T) :=
 bif !b0_2 then
  some [T.i .i64 0, T.st [T.sl l0_0, T.i .i64 n0_1, T.b b0_2]]
 else
  (c 91 [T.sl l0_0, T.i .i64 n0_1]).bind fun r129 =>
  some [T.i .i64 (asI (nth r129 0)), T.st [T.sl l0_0, T.i .i64 (asI (nth r129 1)), T.b (asB (nth r129 2))]]
def f148 (c : Orc) (lf : Nat) (l0_0 : List T) (n0_1 : Int) (b0_2 : Bool) : Option (List T) := f148_t c lf l0_0 n0_1 b0_2
theorem f148_eq (c : Orc) (lf : Nat) (l0_0 : List T) (n0_1 : Int) (b0_2 : Bool) : funK c env lf 6 fi148 [.st [.sl l0_0, .i .i64 n0_1, .b b0_2]] = f148 c lf l0_0 n0_1 b0_2 := by kernel_rfl
def f198_t (c : Orc) (lf : Nat) (l0 : List T) (n1 : Int) : Option (List T) :=
 (c 91 [T.sl l0, T.i .i64 n1]).bind fun r130 =>
 bif !(asB (nth r130 2)) then
  some [T.s (⟨#[]⟩ : ByteArray), T.i .i64 0, T.b false]
 else
  bif iLt (IntKind.wrap .i64 ((l0.length : Int) - (asI (nth r130 1)))) (asI (nth r130 0)) then
   some [T.s (⟨#[]⟩ : ByteArray), T.i .i64 0, T.b false]
  else
   bif iLe 0 (asI (nth r130 1)) && iLe (asI (nth r130 1)) (IntKind.wrap .i64 ((asI (nth r130 1)) + (asI (nth r130 0)))) && iLe (IntKind.wrap .i64 ((asI (nth r130 1)) + (asI (nth r130 0)))) (l0.length : Int) then
   some [T.s (bytesOf ((l0.drop ((asI (nth r130 1)).toNat)).take (((IntKind.wrap .i64 ((asI (nth r130 1)) + (asI (nth r130 0)))).toNat) - ((asI (nth r130 1)).toNat)))), T.i .i64 (IntKind.wrap .i64 ((asI (nth r130 1)) + (asI (nth r130 0)))), T.b true]
   else none
def f198 (c : Orc) (lf : Nat) (l0 : List T) (n1 : Int) : Option (List T) := f198_t c lf l0 n1
theorem f198_eq (c : Orc) (lf : Nat) (l0 : List T) (n1 : Int) : funK c env lf 6 fi198 [.sl l0, .i .i64 n1] = f198 c lf l0 n1 := by kernel_rfl
def f150_t (c : Orc) (lf : Nat) (l0_0 : List T) (n0_1 : Int) (b0_2 : Bool) : Option (List T) :=
 bif !b0_2 then
  some [T.s (⟨#[]⟩ : ByteArray), T.st [T.sl l0_0, T.i .i64 n0_1, T.b b0_2]]
 else
  (c 198 [T.sl l0_0, T.i .i64 n0_1]).bind fun r131 =>
  some [T.s (asS (nth r131 0)), T.st [T.sl l0_0, T.i .i64 (asI (nth r131 1)), T.b (asB (nth r131 2))]]
def f150 (c : Orc) (lf : Nat) (l0_0 : List T) (n0_1 : Int) (b0_2 : Bool) : Option (List T) := f150_t c lf l0_0 n0_1 b0_2
theorem f150_eq (c : Orc) (lf : Nat) (l0_0 : List T) (n0_1 : Int) (b0_2 : Bool) : funK c env lf 6 fi150 [.st [.sl l0_0, .i .i64 n0_1, .b b0_2]] = f150 c lf l0_0 n0_1 b0_2 := by kernel_rfl
def f152_t (c : Orc) (lf : Nat) (l0_0 : List T) (n0_1 : Int) (b0_2 : Bool) : Option (List T) :=
 bif b0_2 then
  some [T.b (n0_1 == (l0_0.length : Int)), T.st [T.sl l0_0, T.i .i64 n0_1, T.b b0_2]]
 else
  some [T.b false, T.st [T.sl l0_0, T.i .i64 n0_1, T.b b0_2]]
def f152 (c : Orc) (lf : Nat) (l0_0 : List T) (n0_1 : Int) (b0_2 : Bool) : Option (List T) := f152_t c lf l0_0 n0_1 b0_2
theorem f152_eq (c : Orc) (lf : Nat) (l0_0 : List T) (n0_1 : Int) (b0_2 : Bool) : funK c env lf 6 fi152 [.st [.sl l0_0, .i .i64 n0_1, .b b0_2]] = f152 c lf l0_0 n0_1 b0_2 := by kernel_rfl
def f49_t (c : Orc) (lf : Nat) (n0_0 n0_1 : Int) (l0_2 : List T) : Option (List T) :=
 (c 58 [T.i .i64 n0_0, T.i .i64 1, T.i .i64 4]).bind fun r132 =>
 bif asB (nth r132 0) then
  (c 58 [T.i .i64 n0_1, T.i .i64 0, T.i .i64 1000000]).bind fun r133 =>
  bif asB (nth r133 0) then
   some [T.b (iLe (l0_2.length : Int) 380)]
  else
   some [T.b false]
 else
  some [T.b false]
def f49 (c : Orc) (lf : Nat) (n0_0 n0_1 : Int) (l0_2 : List T) : Option (List T) := f49_t c lf n0_0 n0_1 l0_2
theorem f49_eq (c : Orc) (lf : Nat) (n0_0 n0_1 : Int) (l0_2 : List T) : funK c env lf 6 fi49 [.st [.i .i64 n0_0, .i .i64 n0_1, .sl l0_2]] = f49 c lf n0_0 n0_1 l0_2 := by kernel_rfl
def f145_t (c : Orc) (lf : Nat) (l0 : List T) : Option (List T) :=
 (c 195 [T.sl l0]).bind fun r134 =>
 (c 148 [T.st [T.sl (asL (nth r134 0)), T.i .i64 0, T.b (asB (nth r134 1))]]).bind fun r135 =>
 (c 148 [T.st [T.sl (asL (nth r134 0)), T.i .i64 (asI (T.cell (nth r135 1) 1)), T.b (asB (T.cell (nth r135 1) 2))]]).bind fun r136 =>
 (c 150 [T.st [T.sl (asL (nth r134 0)), T.i .i64 (asI (T.cell (nth r136 1) 1)), T.b (asB (T.cell (nth r136 1) 2))]]).bind fun r137 =>
 bif nLe (asS (nth r137 0)).size LIM then
 (c 152 [T.st [T.sl (asL (nth r134 0)), T.i .i64 (asI (T.cell (nth r137 1) 1)), T.b (asB (T.cell (nth r137 1) 2))]]).bind fun r138 =>
 bif !(asB (nth r138 0)) then
  some [T.st [T.i .i64 0, T.i .i64 0, T.sl []], T.b false]
 else
  (c 49 [T.st [T.i .i64 (asI (nth r135 0)), T.i .i64 (asI (nth r136 0)), T.sl (listOf (asS (nth r137 0)))]]).bind fun r139 =>
  bif !(asB (nth r139 0)) then
   some [T.st [T.i .i64 0, T.i .i64 0, T.sl []], T.b false]
  else
   some [T.st [T.i .i64 (asI (nth r135 0)), T.i .i64 (asI (nth r136 0)), T.sl (listOf (asS (nth r137 0)))], T.b true]
 else none
def f145 (c : Orc) (lf : Nat) (l0 : List T) : Option (List T) := f145_t c lf l0
theorem f145_eq (c : Orc) (lf : Nat) (l0 : List T) : funK c env lf 6 fi145 [.sl l0] = f145 c lf l0 := by kernel_rfl
def f85_t (c : Orc) (lf : Nat) (l0_0 : List T) (n0_1 : Int) (l0_2 : List T) (b0_3 : Bool) (n0_4 n1 : Int) : Option (List T) :=
 bif iLt n1 0 then
  some [T.st [T.i .i64 0, T.i .i64 0, T.sl []], T.b false]
 else
  (c 144 [T.st [T.sl l0_0], T.i .i64 (IntKind.wrap .i64 (n1.tdiv 8)), T.i .i64 (n1.tmod 8)]).bind fun r140 =>
  bif !(asB (nth r140 1)) then
   some [T.st [T.i .i64 0, T.i .i64 0, T.sl []], T.b false]
  else
   (c 145 [T.sl (asL (nth r140 0))]).bind fun r141 =>
   some [T.st [T.i .i64 (asI (T.cell (nth r141 0) 0)), T.i .i64 (asI (T.cell (nth r141 0) 1)), T.sl (asL (T.cell (nth r141 0) 2))], T.b (asB (nth r141 1))]
def f85 (c : Orc) (lf : Nat) (l0_0 : List T) (n0_1 : Int) (l0_2 : List T) (b0_3 : Bool) (n0_4 n1 : Int) : Option (List T) := f85_t c lf l0_0 n0_1 l0_2 b0_3 n0_4 n1
theorem f85_eq (c : Orc) (lf : Nat) (l0_0 : List T) (n0_1 : Int) (l0_2 : List T) (b0_3 : Bool) (n0_4 n1 : Int) : funK c env lf 6 fi85 [.st [.sl l0_0, .i .i64 n0_1, .sl l0_2, .b b0_3, .i .i64 n0_4], .i .i64 n1] = f85 c lf l0_0 n0_1 l0_2 b0_3 n0_4 n1 := by kernel_rfl
def f147_t (c : Orc) (lf : Nat) (n0 : Int) : Option (List T) :=
 some [T.b (n0 != n0)]
def f147 (c : Orc) (lf : Nat) (n0 : Int) : Option (List T) := f147_t c lf n0
def f89_t (c : Orc) (lf : Nat) (n0 n1 : Int) : Option (List T) :=
 (c 147 [T.i .i64 n0]).bind fun r142 =>
 (c 147 [T.i .i64 n1]).bind fun r143 =>
 bif asB (nth r142 0) then
  bif asB (nth r143 0) then
   some [T.i .i64 0]
  else
   some [T.i .i64 (-1)]
 else
  bif asB (nth r143 0) then
   some [T.i .i64 1]
  else
   bif iLt n0 n1 then
    some [T.i .i64 (-1)]
   else
    bif iLt n1 n0 then
     some [T.i .i64 1]
    else
     some [T.i .i64 0]
def f89 (c : Orc) (lf : Nat) (n0 n1 : Int) : Option (List T) := f89_t c lf n0 n1
def f88_t (c : Orc) (lf : Nat) (n0_0 n0_1 : Int) (n1_0 n1_1 : Int) : Option (List T) :=
 (c 89 [T.i .i64 n1_1, T.i .i64 n0_1]).bind fun r144 =>
 some [T.i .i64 (asI (nth r144 0))]
def f88 (c : Orc) (lf : Nat) (n0_0 n0_1 : Int) (n1_0 n1_1 : Int) : Option (List T) := f88_t c lf n0_0 n0_1 n1_0 n1_1
def f46_0_s (c : Orc) (lf : Nat) (b0_3 : Bool) (l0_0 l0_2 : List T) (n0_1 n0_4 : Int) (L : Int → List T → Option (List T)) (x209 : Int) (x210 : List T) : Option (List T) :=
 bif iLt x209 (IntKind.wrap .i64 ((l0_0.length : Int) * 8)) then
  (c 85 [T.st [T.sl l0_0, T.i .i64 n0_1, T.sl l0_2, T.b b0_3, T.i .i64 n0_4], T.i .i64 x209]).bind fun r211 =>
  bif asB (nth r211 1) then
   bif (asI (T.cell (nth r211 0) 0)) == 4 then
    bif nLe (x210.length + ([T.st [T.i .i64 x209, T.i .i64 (asI (T.cell (nth r211 0) 1))]] : List T).length) LIM then
    L (IntKind.wrap .i64 (x209 + 1)) (x210 ++ ([T.st [T.i .i64 x209, T.i .i64 (asI (T.cell (nth r211 0) 1))]] : List T))
    else none
   else
    L (IntKind.wrap .i64 (x209 + 1)) x210
  else
   L (IntKind.wrap .i64 (x209 + 1)) x210
 else
  some [T.i .i64 0, T.sl x210]
def f46_0_c (b0_3 : Bool) (l0_0 l0_2 : List T) (n0_1 n0_4 x209 : Int) (x210 : List T) : CSt := ⟨[.fn 86 [.bp 0 0], .bp 2 0, .i .i64 (IntKind.wrap .i64 ((l0_0.length : Int) * 8)), .i .i64 x209], [.box [.rf 1 [] 0 none], .row true [.i .i64, .i .i64] x210 0 false, .box [.ro 0 true [.sl true [.b, .sl false [.i .u8]], .i .i64, .b] l0_0, .i .i64 n0_1, .ro 0 true [.i .i64, .i .i64, .i .i64] l0_2, .b b0_3, .i .i64 n0_4]]⟩
theorem f46_0_round (c : Orc) (lf : Nat) (b0_3 : Bool) (l0_0 l0_2 : List T) (n0_1 n0_4 : Int) (L : CSt → Option (List T)) (x209 : Int) (x210 : List T) :
 roundK c env lf 5 fi44 1 2 [] [1, 2, 12, 13] (x44_2_0) L (f46_0_c b0_3 l0_0 l0_2 n0_1 n0_4 x209 x210) = f46_0_s c lf b0_3 l0_0 l0_2 n0_1 n0_4 (fun x209 x210 => L (f46_0_c b0_3 l0_0 l0_2 n0_1 n0_4 x209 x210)) x209 x210 := by kernel_rfl
def f46_0 (c : Orc) (lf : Nat) (b0_3 : Bool) (l0_0 l0_2 : List T) (n0_1 n0_4 : Int) : Nat → Int → List T → Option (List T)
 | 0 => fun _ _ => none
 | n + 1 => fun x209 x210 => f46_0_s c lf b0_3 l0_0 l0_2 n0_1 n0_4 (f46_0 c lf b0_3 l0_0 l0_2 n0_1 n0_4 n) x209 x210
theorem f46_0_u (c : Orc) (lf : Nat) (b0_3 : Bool) (l0_0 l0_2 : List T) (n0_1 n0_4 : Int) (n : Nat) (x209 : Int) (x210 : List T) : f46_0 c lf b0_3 l0_0 l0_2 n0_1 n0_4 (n + 1) x209 x210 = f46_0_s c lf b0_3 l0_0 l0_2 n0_1 n0_4 (f46_0 c lf b0_3 l0_0 l0_2 n0_1 n0_4 n) x209 x210 := rfl
theorem f46_0_eq (c : Orc) (lf : Nat) (b0_3 : Bool) (l0_0 l0_2 : List T) (n0_1 n0_4 : Int) (n : Nat) (x209 : Int) (x210 : List T) :
 lpK c env lf 5 fi44 1 2 [] [1, 2, 12, 13] (x44_2_0) n (f46_0_c b0_3 l0_0 l0_2 n0_1 n0_4 x209 x210) = f46_0 c lf b0_3 l0_0 l0_2 n0_1 n0_4 n x209 x210 := by
 induction n generalizing x209 x210 with
 | zero => rfl
 | succ n ih =>
  refine (f46_0_round c lf b0_3 l0_0 l0_2 n0_1 n0_4 _ x209 x210).trans ?_
  have e : (fun x209 x210 => lpK c env lf 5 fi44 1 2 [] [1, 2, 12, 13] (x44_2_0) n (f46_0_c b0_3 l0_0 l0_2 n0_1 n0_4 x209 x210)) = f46_0 c lf b0_3 l0_0 l0_2 n0_1 n0_4 n := by funext x209 x210; exact ih x209 x210
  show f46_0_s c lf b0_3 l0_0 l0_2 n0_1 n0_4 (fun x209 x210 => lpK c env lf 5 fi44 1 2 [] [1, 2, 12, 13] (x44_2_0) n (f46_0_c b0_3 l0_0 l0_2 n0_1 n0_4 x209 x210)) x209 x210 = _
  rw [e]; rfl
def f46_3_s (c : Orc) (lf : Nat) (x236 x237 x238 : Int) (L : Int → List T → Option (List T)) (x241 : Int) (x242 : List T) : Option (List T) :=
 bif iLt x236 x241 then
  bif inR x241 x242.length then
  bif inR (IntKind.wrap .i64 (x241 - 1)) x242.length then
  (c 88 [T.st [T.i .i64 (asI (T.cell (x242.getD x241.toNat T.u) 0)), T.i .i64 (asI (T.cell (x242.getD x241.toNat T.u) 1))], T.st [T.i .i64 (asI (T.cell (x242.getD ((IntKind.wrap .i64 (x241 - 1)).toNat) T.u) 0)), T.i .i64 (asI (T.cell (x242.getD ((IntKind.wrap .i64 (x241 - 1)).toNat) T.u) 1))]]).bind fun r243 =>
  bif iLt (asI (nth r243 0)) 0 then
   bif inR (IntKind.wrap .i64 (x241 - 1)) x242.length then
   bif inR x241 x242.length then
   bif inR x241 x242.length then
   bif inR (IntKind.wrap .i64 (x241 - 1)) ((x242.set x241.toNat (T.st [T.i .i64 (asI (T.cell (x242.getD ((IntKind.wrap .i64 (x241 - 1)).toNat) T.u) 0)), T.i .i64 (asI (T.cell (x242.getD ((IntKind.wrap .i64 (x241 - 1)).toNat) T.u) 1))])).length) then
   L (IntKind.wrap .i64 (x241 - 1)) ((x242.set x241.toNat (T.st [T.i .i64 (asI (T.cell (x242.getD ((IntKind.wrap .i64 (x241 - 1)).toNat) T.u) 0)), T.i .i64 (asI (T.cell (x242.getD ((IntKind.wrap .i64 (x241 - 1)).toNat) T.u) 1))])).set ((IntKind.wrap .i64 (x241 - 1)).toNat) (T.st [T.i .i64 (asI (T.cell (x242.getD x241.toNat T.u) 0)), T.i .i64 (asI (T.cell (x242.getD x241.toNat T.u) 1))]))
   else none
   else none
   else none
   else none
  else
   some [T.i .i64 0, T.i .i64 x236, T.i .i64 x237, T.i .i64 x238, T.sl x242]
  else none
  else none
 else
  some [T.i .i64 0, T.i .i64 x236, T.i .i64 x237, T.i .i64 x238, T.sl x242]
def f46_3_c (x236 x237 : Int) (x238 x241 : Int) (x242 : List T) : CSt := ⟨[.rf 0 [] 0 none, .i .i64 x236, .i .i64 x237, .fn 88 [], .i .i64 x238, .i .i64 x241], [.row true [.i .i64, .i .i64] x242 0 false]⟩
theorem f46_3_round (c : Orc) (lf : Nat) (x236 x237 x238 : Int) (L : CSt → Option (List T)) (x241 : Int) (x242 : List T) :
 roundK c env lf 3 fi196 1 4 [] [0, 1, 2, 3, 8, 9] (x196_4_0) L (f46_3_c x236 x237 x238 x241 x242) = f46_3_s c lf x236 x237 x238 (fun x241 x242 => L (f46_3_c x236 x237 x238 x241 x242)) x241 x242 := by kernel_rfl
def f46_3 (c : Orc) (lf : Nat) (x236 x237 x238 : Int) : Nat → Int → List T → Option (List T)
 | 0 => fun _ _ => none
 | n + 1 => fun x241 x242 => f46_3_s c lf x236 x237 x238 (f46_3 c lf x236 x237 x238 n) x241 x242
theorem f46_3_eq (c : Orc) (lf : Nat) (x236 x237 x238 : Int) (n : Nat) (x241 : Int) (x242 : List T) :
 lpK c env lf 3 fi196 1 4 [] [0, 1, 2, 3, 8, 9] (x196_4_0) n (f46_3_c x236 x237 x238 x241 x242) = f46_3 c lf x236 x237 x238 n x241 x242 := by
 induction n generalizing x241 x242 with
 | zero => rfl
 | succ n ih =>
  refine (f46_3_round c lf x236 x237 x238 _ x241 x242).trans ?_
  have e : (fun x241 x242 => lpK c env lf 3 fi196 1 4 [] [0, 1, 2, 3, 8, 9] (x196_4_0) n (f46_3_c x236 x237 x238 x241 x242)) = f46_3 c lf x236 x237 x238 n := by funext x241 x242; exact ih x241 x242
  show f46_3_s c lf x236 x237 x238 (fun x241 x242 => lpK c env lf 3 fi196 1 4 [] [0, 1, 2, 3, 8, 9] (x196_4_0) n (f46_3_c x236 x237 x238 x241 x242)) x241 x242 = _
  rw [e]; rfl
def f46_2_s (c : Orc) (lf : Nat) (L : Int → Int → Int → List T → Option (List T)) (lp0 : Int → Int → Int → Int → List T → Option (List T)) (x236 x237 x238 : Int) (x239 : List T) : Option (List T) :=
 bif iLt x238 x237 then
  (lp0 x236 x237 x238 x238 x239).bind fun r244 =>
  L (asI (nth r244 1)) (asI (nth r244 2)) (IntKind.wrap .i64 ((asI (nth r244 3)) + 1)) (asL (nth r244 4))
 else
  some [T.i .i64 0, T.sl x239]
def f46_2_c (x236 x237 x238 : Int) (x239 : List T) : CSt := ⟨[.rf 0 [] 0 none, .i .i64 x236, .i .i64 x237, .fn 88 [], .i .i64 x238], [.row true [.i .i64, .i .i64] x239 0 false]⟩
theorem f46_2_round (c : Orc) (lf : Nat) (L : CSt → Option (List T)) (x236 x237 x238 : Int) (x239 : List T) :
 roundK c env lf 3 fi196 1 1 [] [0, 1, 2, 3, 8] (x196_1_0) L (f46_2_c x236 x237 x238 x239) = f46_2_s c lf (fun x236 x237 x238 x239 => L (f46_2_c x236 x237 x238 x239)) (fun (x236 x237 : Int) (x238 x241 : Int) (x242 : List T) => lpK c env lf 3 fi196 1 4 [] [0, 1, 2, 3, 8, 9] (x196_4_0) lf (f46_3_c x236 x237 x238 x241 x242)) x236 x237 x238 x239 := by kernel_rfl
def f46_2 (c : Orc) (lf : Nat) : Nat → Int → Int → Int → List T → Option (List T)
 | 0 => fun _ _ _ _ => none
 | n + 1 => fun x236 x237 x238 x239 => f46_2_s c lf (f46_2 c lf n) (fun (x236 x237 : Int) (x238 x241 : Int) (x242 : List T) => f46_3 c lf x236 x237 x238 lf x241 x242) x236 x237 x238 x239
theorem f46_2_eq (c : Orc) (lf n : Nat) (x236 x237 x238 : Int) (x239 : List T) :
 lpK c env lf 3 fi196 1 1 [] [0, 1, 2, 3, 8] (x196_1_0) n (f46_2_c x236 x237 x238 x239) = f46_2 c lf n x236 x237 x238 x239 := by
 induction n generalizing x236 x237 x238 x239 with
 | zero => rfl
 | succ n ih =>
  refine (f46_2_round c lf _ x236 x237 x238 x239).trans ?_
  have e : (fun x236 x237 x238 x239 => lpK c env lf 3 fi196 1 1 [] [0, 1, 2, 3, 8] (x196_1_0) n (f46_2_c x236 x237 x238 x239)) = f46_2 c lf n := by funext x236 x237 x238 x239; exact ih x236 x237 x238 x239
  have e0 : (fun (x236 x237 : Int) (x238 x241 : Int) (x242 : List T) => lpK c env lf 3 fi196 1 4 [] [0, 1, 2, 3, 8, 9] (x196_4_0) lf (f46_3_c x236 x237 x238 x241 x242)) = (fun (x236 x237 : Int) (x238 x241 : Int) (x242 : List T) => f46_3 c lf x236 x237 x238 lf x241 x242) := by funext x236 x237 x238 x241 x242; exact f46_3_eq c lf x236 x237 x238 lf x241 x242
  show f46_2_s c lf (fun x236 x237 x238 x239 => lpK c env lf 3 fi196 1 1 [] [0, 1, 2, 3, 8] (x196_1_0) n (f46_2_c x236 x237 x238 x239)) (fun (x236 x237 : Int) (x238 x241 : Int) (x242 : List T) => lpK c env lf 3 fi196 1 4 [] [0, 1, 2, 3, 8, 9] (x196_4_0) lf (f46_3_c x236 x237 x238 x241 x242)) x236 x237 x238 x239 = _
  rw [e, e0]; rfl
def f46_1_s (c : Orc) (lf : Nat) (r212 : List T) (L : Int → Int → List T → Option (List T)) (lp0 : Int → Int → Int → List T → Option (List T)) (x228 x229 : Int) (x230 : List T) : Option (List T) :=
 bif iLe x229 ((asL (nth r212 1)).length : Int) then
  (lp0 x228 x229 (IntKind.wrap .i64 (x228 + 1)) x230).bind fun r245 =>
  L x229 (IntKind.wrap .i64 (x229 + 20)) (asL (nth r245 1))
 else
  some [T.i .i64 0, T.i .i64 ((asL (nth r212 1)).length : Int), T.i .i64 20, T.i .i64 x228, T.sl x230]
def f46_1_c (r212 : List T) (x228 x229 : Int) (x230 : List T) : CSt := ⟨[.rf 0 [] 0 none, .i .i64 ((asL (nth r212 1)).length : Int), .fn 88 [], .i .i64 20, .i .i64 x228, .i .i64 x229], [.row true [.i .i64, .i .i64] x230 0 false]⟩
theorem f46_1_round (c : Orc) (lf : Nat) (r212 : List T) (L : CSt → Option (List T)) (x228 x229 : Int) (x230 : List T) :
 roundK c env lf 4 fi146 1 2 [] [0, 1, 2, 6, 7, 8] (x146_2_0) L (f46_1_c r212 x228 x229 x230) = f46_1_s c lf r212 (fun x228 x229 x230 => L (f46_1_c r212 x228 x229 x230)) (fun (x236 x237 x238 : Int) (x239 : List T) => lpK c env lf 3 fi196 1 1 [] [0, 1, 2, 3, 8] (x196_1_0) lf (f46_2_c x236 x237 x238 x239)) x228 x229 x230 := by kernel_rfl
def f46_1 (c : Orc) (lf : Nat) (r212 : List T) : Nat → Int → Int → List T → Option (List T)
 | 0 => fun _ _ _ => none
 | n + 1 => fun x228 x229 x230 => f46_1_s c lf r212 (f46_1 c lf r212 n) (fun (x236 x237 x238 : Int) (x239 : List T) => f46_2 c lf lf x236 x237 x238 x239) x228 x229 x230
theorem f46_1_eq (c : Orc) (lf : Nat) (r212 : List T) (n : Nat) (x228 x229 : Int) (x230 : List T) :
 lpK c env lf 4 fi146 1 2 [] [0, 1, 2, 6, 7, 8] (x146_2_0) n (f46_1_c r212 x228 x229 x230) = f46_1 c lf r212 n x228 x229 x230 := by
 induction n generalizing x228 x229 x230 with
 | zero => rfl
 | succ n ih =>
  refine (f46_1_round c lf r212 _ x228 x229 x230).trans ?_
  have e : (fun x228 x229 x230 => lpK c env lf 4 fi146 1 2 [] [0, 1, 2, 6, 7, 8] (x146_2_0) n (f46_1_c r212 x228 x229 x230)) = f46_1 c lf r212 n := by funext x228 x229 x230; exact ih x228 x229 x230
  have e0 : (fun (x236 x237 x238 : Int) (x239 : List T) => lpK c env lf 3 fi196 1 1 [] [0, 1, 2, 3, 8] (x196_1_0) lf (f46_2_c x236 x237 x238 x239)) = (fun (x236 x237 x238 : Int) (x239 : List T) => f46_2 c lf lf x236 x237 x238 x239) := by funext x236 x237 x238 x239; exact f46_2_eq c lf lf x236 x237 x238 x239
  show f46_1_s c lf r212 (fun x228 x229 x230 => lpK c env lf 4 fi146 1 2 [] [0, 1, 2, 6, 7, 8] (x146_2_0) n (f46_1_c r212 x228 x229 x230)) (fun (x236 x237 x238 : Int) (x239 : List T) => lpK c env lf 3 fi196 1 1 [] [0, 1, 2, 3, 8] (x196_1_0) lf (f46_2_c x236 x237 x238 x239)) x228 x229 x230 = _
  rw [e, e0]; rfl
def f46_5_s (c : Orc) (lf : Nat) (x252 x253 x254 : Int) (L : Int → List T → Option (List T)) (x257 : Int) (x258 : List T) : Option (List T) :=
 bif iLt x252 x257 then
  bif inR x257 x258.length then
  bif inR (IntKind.wrap .i64 (x257 - 1)) x258.length then
  (c 88 [T.st [T.i .i64 (asI (T.cell (x258.getD x257.toNat T.u) 0)), T.i .i64 (asI (T.cell (x258.getD x257.toNat T.u) 1))], T.st [T.i .i64 (asI (T.cell (x258.getD ((IntKind.wrap .i64 (x257 - 1)).toNat) T.u) 0)), T.i .i64 (asI (T.cell (x258.getD ((IntKind.wrap .i64 (x257 - 1)).toNat) T.u) 1))]]).bind fun r259 =>
  bif iLt (asI (nth r259 0)) 0 then
   bif inR (IntKind.wrap .i64 (x257 - 1)) x258.length then
   bif inR x257 x258.length then
   bif inR x257 x258.length then
   bif inR (IntKind.wrap .i64 (x257 - 1)) ((x258.set x257.toNat (T.st [T.i .i64 (asI (T.cell (x258.getD ((IntKind.wrap .i64 (x257 - 1)).toNat) T.u) 0)), T.i .i64 (asI (T.cell (x258.getD ((IntKind.wrap .i64 (x257 - 1)).toNat) T.u) 1))])).length) then
   L (IntKind.wrap .i64 (x257 - 1)) ((x258.set x257.toNat (T.st [T.i .i64 (asI (T.cell (x258.getD ((IntKind.wrap .i64 (x257 - 1)).toNat) T.u) 0)), T.i .i64 (asI (T.cell (x258.getD ((IntKind.wrap .i64 (x257 - 1)).toNat) T.u) 1))])).set ((IntKind.wrap .i64 (x257 - 1)).toNat) (T.st [T.i .i64 (asI (T.cell (x258.getD x257.toNat T.u) 0)), T.i .i64 (asI (T.cell (x258.getD x257.toNat T.u) 1))]))
   else none
   else none
   else none
   else none
  else
   some [T.i .i64 0, T.i .i64 x252, T.i .i64 x253, T.i .i64 x254, T.sl x258]
  else none
  else none
 else
  some [T.i .i64 0, T.i .i64 x252, T.i .i64 x253, T.i .i64 x254, T.sl x258]
def f46_5_c (x252 x253 : Int) (x254 x257 : Int) (x258 : List T) : CSt := ⟨[.rf 0 [] 0 none, .i .i64 x252, .i .i64 x253, .fn 88 [], .i .i64 x254, .i .i64 x257], [.row true [.i .i64, .i .i64] x258 0 false]⟩
theorem f46_5_round (c : Orc) (lf : Nat) (x252 x253 x254 : Int) (L : CSt → Option (List T)) (x257 : Int) (x258 : List T) :
 roundK c env lf 3 fi196 1 4 [] [0, 1, 2, 3, 8, 9] (x196_4_0) L (f46_5_c x252 x253 x254 x257 x258) = f46_5_s c lf x252 x253 x254 (fun x257 x258 => L (f46_5_c x252 x253 x254 x257 x258)) x257 x258 := by kernel_rfl
def f46_5 (c : Orc) (lf : Nat) (x252 x253 x254 : Int) : Nat → Int → List T → Option (List T)
 | 0 => fun _ _ => none
 | n + 1 => fun x257 x258 => f46_5_s c lf x252 x253 x254 (f46_5 c lf x252 x253 x254 n) x257 x258
theorem f46_5_eq (c : Orc) (lf : Nat) (x252 x253 x254 : Int) (n : Nat) (x257 : Int) (x258 : List T) :
 lpK c env lf 3 fi196 1 4 [] [0, 1, 2, 3, 8, 9] (x196_4_0) n (f46_5_c x252 x253 x254 x257 x258) = f46_5 c lf x252 x253 x254 n x257 x258 := by
 induction n generalizing x257 x258 with
 | zero => rfl
 | succ n ih =>
  refine (f46_5_round c lf x252 x253 x254 _ x257 x258).trans ?_
  have e : (fun x257 x258 => lpK c env lf 3 fi196 1 4 [] [0, 1, 2, 3, 8, 9] (x196_4_0) n (f46_5_c x252 x253 x254 x257 x258)) = f46_5 c lf x252 x253 x254 n := by funext x257 x258; exact ih x257 x258
  show f46_5_s c lf x252 x253 x254 (fun x257 x258 => lpK c env lf 3 fi196 1 4 [] [0, 1, 2, 3, 8, 9] (x196_4_0) n (f46_5_c x252 x253 x254 x257 x258)) x257 x258 = _
  rw [e]; rfl
def f46_4_s (c : Orc) (lf : Nat) (L : Int → Int → Int → List T → Option (List T)) (lp0 : Int → Int → Int → Int → List T → Option (List T)) (x252 x253 x254 : Int) (x255 : List T) : Option (List T) :=
 bif iLt x254 x253 then
  (lp0 x252 x253 x254 x254 x255).bind fun r260 =>
  L (asI (nth r260 1)) (asI (nth r260 2)) (IntKind.wrap .i64 ((asI (nth r260 3)) + 1)) (asL (nth r260 4))
 else
  some [T.i .i64 0, T.sl x255]
def f46_4_c (x252 x253 x254 : Int) (x255 : List T) : CSt := ⟨[.rf 0 [] 0 none, .i .i64 x252, .i .i64 x253, .fn 88 [], .i .i64 x254], [.row true [.i .i64, .i .i64] x255 0 false]⟩
theorem f46_4_round (c : Orc) (lf : Nat) (L : CSt → Option (List T)) (x252 x253 x254 : Int) (x255 : List T) :
 roundK c env lf 3 fi196 1 1 [] [0, 1, 2, 3, 8] (x196_1_0) L (f46_4_c x252 x253 x254 x255) = f46_4_s c lf (fun x252 x253 x254 x255 => L (f46_4_c x252 x253 x254 x255)) (fun (x252 x253 : Int) (x254 x257 : Int) (x258 : List T) => lpK c env lf 3 fi196 1 4 [] [0, 1, 2, 3, 8, 9] (x196_4_0) lf (f46_5_c x252 x253 x254 x257 x258)) x252 x253 x254 x255 := by kernel_rfl
def f46_4 (c : Orc) (lf : Nat) : Nat → Int → Int → Int → List T → Option (List T)
 | 0 => fun _ _ _ _ => none
 | n + 1 => fun x252 x253 x254 x255 => f46_4_s c lf (f46_4 c lf n) (fun (x252 x253 : Int) (x254 x257 : Int) (x258 : List T) => f46_5 c lf x252 x253 x254 lf x257 x258) x252 x253 x254 x255
theorem f46_4_eq (c : Orc) (lf n : Nat) (x252 x253 x254 : Int) (x255 : List T) :
 lpK c env lf 3 fi196 1 1 [] [0, 1, 2, 3, 8] (x196_1_0) n (f46_4_c x252 x253 x254 x255) = f46_4 c lf n x252 x253 x254 x255 := by
 induction n generalizing x252 x253 x254 x255 with
 | zero => rfl
 | succ n ih =>
  refine (f46_4_round c lf _ x252 x253 x254 x255).trans ?_
  have e : (fun x252 x253 x254 x255 => lpK c env lf 3 fi196 1 1 [] [0, 1, 2, 3, 8] (x196_1_0) n (f46_4_c x252 x253 x254 x255)) = f46_4 c lf n := by funext x252 x253 x254 x255; exact ih x252 x253 x254 x255
  have e0 : (fun (x252 x253 : Int) (x254 x257 : Int) (x258 : List T) => lpK c env lf 3 fi196 1 4 [] [0, 1, 2, 3, 8, 9] (x196_4_0) lf (f46_5_c x252 x253 x254 x257 x258)) = (fun (x252 x253 : Int) (x254 x257 : Int) (x258 : List T) => f46_5 c lf x252 x253 x254 lf x257 x258) := by funext x252 x253 x254 x257 x258; exact f46_5_eq c lf x252 x253 x254 lf x257 x258
  show f46_4_s c lf (fun x252 x253 x254 x255 => lpK c env lf 3 fi196 1 1 [] [0, 1, 2, 3, 8] (x196_1_0) n (f46_4_c x252 x253 x254 x255)) (fun (x252 x253 : Int) (x254 x257 : Int) (x258 : List T) => lpK c env lf 3 fi196 1 4 [] [0, 1, 2, 3, 8, 9] (x196_4_0) lf (f46_5_c x252 x253 x254 x257 x258)) x252 x253 x254 x255 = _
  rw [e, e0]; rfl
def f46_7_s (c : Orc) (lf : Nat) (x263 x264 : Int) (x265 : List T) (L : Unit → Option (List T)) : Option (List T) :=
 bif iLe (IntKind.wrap .i64 (2 * x264)) x263 then
  none
 else
  some [T.i .i64 0, T.i .i64 x263, T.i .i64 x264, T.i .i64 0, T.sl x265]
def f46_7_c (x263 x264 : Int) (x265 : List T) : CSt := ⟨[.rf 0 [] 0 none, .i .i64 x263, .fn 88 [], .i .i64 x264, .i .i64 0, .i .i64 (IntKind.wrap .i64 (2 * x264))], [.row true [.i .i64, .i .i64] x265 0 false]⟩
theorem f46_7_round (c : Orc) (lf : Nat) (x263 x264 : Int) (x265 : List T) (L : CSt → Option (List T)) :
 roundK c env lf 4 fi146 1 9 [] [0, 1, 2, 6, 7, 8] (x146_9_0) L (f46_7_c x263 x264 x265) = f46_7_s c lf x263 x264 x265 (fun _ => L (f46_7_c x263 x264 x265)) := by kernel_rfl
def f46_7 (c : Orc) (lf : Nat) (x263 x264 : Int) (x265 : List T) : Nat → Unit → Option (List T)
 | 0 => fun _ => none
 | n + 1 => fun _ => f46_7_s c lf x263 x264 x265 (f46_7 c lf x263 x264 x265 n)
theorem f46_7_eq (c : Orc) (lf : Nat) (x263 x264 : Int) (x265 : List T) (n : Nat) :
 lpK c env lf 4 fi146 1 9 [] [0, 1, 2, 6, 7, 8] (x146_9_0) n (f46_7_c x263 x264 x265) = f46_7 c lf x263 x264 x265 n () := by
 induction n with
 | zero => rfl
 | succ n ih =>
  refine (f46_7_round c lf x263 x264 x265 _).trans ?_
  have e : (fun (_ : Unit) => lpK c env lf 4 fi146 1 9 [] [0, 1, 2, 6, 7, 8] (x146_9_0) n (f46_7_c x263 x264 x265)) = f46_7 c lf x263 x264 x265 n := by funext _; exact ih
  show f46_7_s c lf x263 x264 x265 (fun _ => lpK c env lf 4 fi146 1 9 [] [0, 1, 2, 6, 7, 8] (x146_9_0) n (f46_7_c x263 x264 x265)) = _
  rw [e]; rfl
def f46_6_s (c : Orc) (lf : Nat) (L : Int → Int → List T → Option (List T)) (lp0 : Int → Int → List T → Option (List T)) (x263 x264 : Int) (x265 : List T) : Option (List T) :=
 bif iLt x264 x263 then
  (lp0 x263 x264 x265).bind fun r266 =>
  bif iLt (IntKind.wrap .i64 ((asI (nth r266 3)) + (asI (nth r266 2)))) (asI (nth r266 1)) then
   none
  else
   L (asI (nth r266 1)) (IntKind.wrap .i64 ((asI (nth r266 2)) * 2)) (asL (nth r266 4))
 else
  some [T.i .i64 0, T.sl x265]
def f46_6_c (x263 x264 : Int) (x265 : List T) : CSt := ⟨[.rf 0 [] 0 none, .i .i64 x263, .fn 88 [], .i .i64 x264], [.row true [.i .i64, .i .i64] x265 0 false]⟩
theorem f46_6_round (c : Orc) (lf : Nat) (L : CSt → Option (List T)) (x263 x264 : Int) (x265 : List T) :
 roundK c env lf 4 fi146 1 7 [] [0, 1, 2, 6] (x146_7_0) L (f46_6_c x263 x264 x265) = f46_6_s c lf (fun x263 x264 x265 => L (f46_6_c x263 x264 x265)) (fun (x263 x264 : Int) (x265 : List T) => lpK c env lf 4 fi146 1 9 [] [0, 1, 2, 6, 7, 8] (x146_9_0) lf (f46_7_c x263 x264 x265)) x263 x264 x265 := by kernel_rfl
def f46_6 (c : Orc) (lf : Nat) : Nat → Int → Int → List T → Option (List T)
 | 0 => fun _ _ _ => none
 | n + 1 => fun x263 x264 x265 => f46_6_s c lf (f46_6 c lf n) (fun (x263 x264 : Int) (x265 : List T) => f46_7 c lf x263 x264 x265 lf ()) x263 x264 x265
theorem f46_6_eq (c : Orc) (lf n : Nat) (x263 x264 : Int) (x265 : List T) :
 lpK c env lf 4 fi146 1 7 [] [0, 1, 2, 6] (x146_7_0) n (f46_6_c x263 x264 x265) = f46_6 c lf n x263 x264 x265 := by
 induction n generalizing x263 x264 x265 with
 | zero => rfl
 | succ n ih =>
  refine (f46_6_round c lf _ x263 x264 x265).trans ?_
  have e : (fun x263 x264 x265 => lpK c env lf 4 fi146 1 7 [] [0, 1, 2, 6] (x146_7_0) n (f46_6_c x263 x264 x265)) = f46_6 c lf n := by funext x263 x264 x265; exact ih x263 x264 x265
  have e0 : (fun (x263 x264 : Int) (x265 : List T) => lpK c env lf 4 fi146 1 9 [] [0, 1, 2, 6, 7, 8] (x146_9_0) lf (f46_7_c x263 x264 x265)) = (fun (x263 x264 : Int) (x265 : List T) => f46_7 c lf x263 x264 x265 lf ()) := by funext x263 x264 x265; exact f46_7_eq c lf x263 x264 x265 lf
  show f46_6_s c lf (fun x263 x264 x265 => lpK c env lf 4 fi146 1 7 [] [0, 1, 2, 6] (x146_7_0) n (f46_6_c x263 x264 x265)) (fun (x263 x264 : Int) (x265 : List T) => lpK c env lf 4 fi146 1 9 [] [0, 1, 2, 6, 7, 8] (x146_9_0) lf (f46_7_c x263 x264 x265)) x263 x264 x265 = _
  rw [e, e0]; rfl
def f46_8_s (c : Orc) (lf : Nat) (r267 : List T) (L : Int → List T → Option (List T)) (x268 : Int) (x269 : List T) : Option (List T) :=
 bif iLt x268 ((asL (nth r267 1)).length : Int) then
  bif inR x268 ((asL (nth r267 1)).length) then
  bif nLe (x269.length + ([T.i .i64 (asI (T.cell ((asL (nth r267 1)).getD x268.toNat T.u) 0))] : List T).length) LIM then
  L (IntKind.wrap .i64 (x268 + 1)) (x269 ++ ([T.i .i64 (asI (T.cell ((asL (nth r267 1)).getD x268.toNat T.u) 0))] : List T))
  else none
  else none
 else
  some [T.i .i64 0, T.sl x269]
def f46_8_c (r267 : List T) (x268 : Int) (x269 : List T) : CSt := ⟨[.rf 5 [] 0 none, .rf 6 [] 0 none, .i .i64 ((asL (nth r267 1)).length : Int), .i .i64 x268], [.dead, .dead, .dead, .dead, .dead, .row false [.i .i64] x269 0 false, .row true [.i .i64, .i .i64] (asL (nth r267 1)) 0 false]⟩
theorem f46_8_round (c : Orc) (lf : Nat) (r267 : List T) (L : CSt → Option (List T)) (x268 : Int) (x269 : List T) :
 roundK c env lf 6 fi46 5 6 [] [4, 14, 15, 16] (x46_6_0) L (f46_8_c r267 x268 x269) = f46_8_s c lf r267 (fun x268 x269 => L (f46_8_c r267 x268 x269)) x268 x269 := by kernel_rfl
def f46_8 (c : Orc) (lf : Nat) (r267 : List T) : Nat → Int → List T → Option (List T)
 | 0 => fun _ _ => none
 | n + 1 => fun x268 x269 => f46_8_s c lf r267 (f46_8 c lf r267 n) x268 x269
theorem f46_8_eq (c : Orc) (lf : Nat) (r267 : List T) (n : Nat) (x268 : Int) (x269 : List T) :
 lpK c env lf 6 fi46 5 6 [] [4, 14, 15, 16] (x46_6_0) n (f46_8_c r267 x268 x269) = f46_8 c lf r267 n x268 x269 := by
 induction n generalizing x268 x269 with
 | zero => rfl
 | succ n ih =>
  refine (f46_8_round c lf r267 _ x268 x269).trans ?_
  have e : (fun x268 x269 => lpK c env lf 6 fi46 5 6 [] [4, 14, 15, 16] (x46_6_0) n (f46_8_c r267 x268 x269)) = f46_8 c lf r267 n := by funext x268 x269; exact ih x268 x269
  show f46_8_s c lf r267 (fun x268 x269 => lpK c env lf 6 fi46 5 6 [] [4, 14, 15, 16] (x46_6_0) n (f46_8_c r267 x268 x269)) x268 x269 = _
  rw [e]; rfl
def f46_t (c : Orc) (lf : Nat) (lp0 : Bool → List T → List T → Int → Int → Int → List T → Option (List T)) (lp1 : List T → Int → Int → List T → Option (List T)) (lp2 : Int → Int → Int → List T → Option (List T)) (lp3 : Int → Int → List T → Option (List T)) (lp4 : List T → Int → List T → Option (List T)) (l0_0 : List T) (n0_1 : Int) (l0_2 : List T) (b0_3 : Bool) (n0_4 : Int) : Option (List T) :=
 (lp0 b0_3 l0_0 l0_2 n0_1 n0_4 0 ([] : List T)).bind fun r212 =>
 (lp1 r212 0 20 (asL (nth r212 1))).bind fun r246 =>
 (lp2 (asI (nth r246 3)) (asI (nth r246 1)) (IntKind.wrap .i64 ((asI (nth r246 3)) + 1)) (asL (nth r246 4))).bind fun r261 =>
 (lp3 (asI (nth r246 1)) (asI (nth r246 2)) (asL (nth r261 1))).bind fun r267 =>
 (lp4 r267 0 ([] : List T)).bind fun r270 =>
 some [T.sl (asL (nth r270 1))]
def f46 (c : Orc) (lf : Nat) (l0_0 : List T) (n0_1 : Int) (l0_2 : List T) (b0_3 : Bool) (n0_4 : Int) : Option (List T) := f46_t c lf (fun (b0_3 : Bool) (l0_0 l0_2 : List T) (n0_1 n0_4 x209 : Int) (x210 : List T) => f46_0 c lf b0_3 l0_0 l0_2 n0_1 n0_4 lf x209 x210) (fun (r212 : List T) (x228 x229 : Int) (x230 : List T) => f46_1 c lf r212 lf x228 x229 x230) (fun (x252 x253 x254 : Int) (x255 : List T) => f46_4 c lf lf x252 x253 x254 x255) (fun (x263 x264 : Int) (x265 : List T) => f46_6 c lf lf x263 x264 x265) (fun (r267 : List T) (x268 : Int) (x269 : List T) => f46_8 c lf r267 lf x268 x269) l0_0 n0_1 l0_2 b0_3 n0_4
theorem f46_raw (c : Orc) (lf : Nat) (l0_0 : List T) (n0_1 : Int) (l0_2 : List T) (b0_3 : Bool) (n0_4 : Int) : funK c env lf 6 fi46 [.st [.sl l0_0, .i .i64 n0_1, .sl l0_2, .b b0_3, .i .i64 n0_4]] = f46_t c lf (fun (b0_3 : Bool) (l0_0 l0_2 : List T) (n0_1 n0_4 x209 : Int) (x210 : List T) => lpK c env lf 5 fi44 1 2 [] [1, 2, 12, 13] (x44_2_0) lf (f46_0_c b0_3 l0_0 l0_2 n0_1 n0_4 x209 x210)) (fun (r212 : List T) (x228 x229 : Int) (x230 : List T) => lpK c env lf 4 fi146 1 2 [] [0, 1, 2, 6, 7, 8] (x146_2_0) lf (f46_1_c r212 x228 x229 x230)) (fun (x252 x253 x254 : Int) (x255 : List T) => lpK c env lf 3 fi196 1 1 [] [0, 1, 2, 3, 8] (x196_1_0) lf (f46_4_c x252 x253 x254 x255)) (fun (x263 x264 : Int) (x265 : List T) => lpK c env lf 4 fi146 1 7 [] [0, 1, 2, 6] (x146_7_0) lf (f46_6_c x263 x264 x265)) (fun (r267 : List T) (x268 : Int) (x269 : List T) => lpK c env lf 6 fi46 5 6 [] [4, 14, 15, 16] (x46_6_0) lf (f46_8_c r267 x268 x269)) l0_0 n0_1 l0_2 b0_3 n0_4 := by kernel_rfl
theorem f46_eq (c : Orc) (lf : Nat) (l0_0 : List T) (n0_1 : Int) (l0_2 : List T) (b0_3 : Bool) (n0_4 : Int) : funK c env lf 6 fi46 [.st [.sl l0_0, .i .i64 n0_1, .sl l0_2, .b b0_3, .i .i64 n0_4]] = f46 c lf l0_0 n0_1 l0_2 b0_3 n0_4 := by
 refine (f46_raw c lf l0_0 n0_1 l0_2 b0_3 n0_4).trans ?_
 have e0 : (fun (b0_3 : Bool) (l0_0 l0_2 : List T) (n0_1 n0_4 x209 : Int) (x210 : List T) => lpK c env lf 5 fi44 1 2 [] [1, 2, 12, 13] (x44_2_0) lf (f46_0_c b0_3 l0_0 l0_2 n0_1 n0_4 x209 x210)) = (fun (b0_3 : Bool) (l0_0 l0_2 : List T) (n0_1 n0_4 x209 : Int) (x210 : List T) => f46_0 c lf b0_3 l0_0 l0_2 n0_1 n0_4 lf x209 x210) := by funext b0_3 l0_0 l0_2 n0_1 n0_4 x209 x210; exact f46_0_eq c lf b0_3 l0_0 l0_2 n0_1 n0_4 lf x209 x210
 have e1 : (fun (r212 : List T) (x228 x229 : Int) (x230 : List T) => lpK c env lf 4 fi146 1 2 [] [0, 1, 2, 6, 7, 8] (x146_2_0) lf (f46_1_c r212 x228 x229 x230)) = (fun (r212 : List T) (x228 x229 : Int) (x230 : List T) => f46_1 c lf r212 lf x228 x229 x230) := by funext r212 x228 x229 x230; exact f46_1_eq c lf r212 lf x228 x229 x230
 have e2 : (fun (x252 x253 x254 : Int) (x255 : List T) => lpK c env lf 3 fi196 1 1 [] [0, 1, 2, 3, 8] (x196_1_0) lf (f46_4_c x252 x253 x254 x255)) = (fun (x252 x253 x254 : Int) (x255 : List T) => f46_4 c lf lf x252 x253 x254 x255) := by funext x252 x253 x254 x255; exact f46_4_eq c lf lf x252 x253 x254 x255
 have e3 : (fun (x263 x264 : Int) (x265 : List T) => lpK c env lf 4 fi146 1 7 [] [0, 1, 2, 6] (x146_7_0) lf (f46_6_c x263 x264 x265)) = (fun (x263 x264 : Int) (x265 : List T) => f46_6 c lf lf x263 x264 x265) := by funext x263 x264 x265; exact f46_6_eq c lf lf x263 x264 x265
 have e4 : (fun (r267 : List T) (x268 : Int) (x269 : List T) => lpK c env lf 6 fi46 5 6 [] [4, 14, 15, 16] (x46_6_0) lf (f46_8_c r267 x268 x269)) = (fun (r267 : List T) (x268 : Int) (x269 : List T) => f46_8 c lf r267 lf x268 x269) := by funext r267 x268 x269; exact f46_8_eq c lf r267 lf x268 x269
 rw [e0, e1, e2, e3, e4]; rfl
def f90_t (c : Orc) (lf : Nat) (l0_0 : List T) (n0_1 : Int) (l0_2 : List T) (b0_3 : Bool) (n0_4 n1 n2 : Int) : Option (List T) :=
 (c 85 [T.st [T.sl l0_0, T.i .i64 n0_1, T.sl l0_2, T.b b0_3, T.i .i64 n0_4], T.i .i64 n1]).bind fun r271 =>
 bif !(asB (nth r271 1)) then
  some [T.st [T.i .i64 0, T.i .i64 0, T.sl []], T.b false]
 else
  bif (asI (T.cell (nth r271 0) 0)) != n2 then
   some [T.st [T.i .i64 0, T.i .i64 0, T.sl []], T.b false]
  else
   some [T.st [T.i .i64 (asI (T.cell (nth r271 0) 0)), T.i .i64 (asI (T.cell (nth r271 0) 1)), T.sl (asL (T.cell (nth r271 0) 2))], T.b true]
def f90 (c : Orc) (lf : Nat) (l0_0 : List T) (n0_1 : Int) (l0_2 : List T) (b0_3 : Bool) (n0_4 n1 n2 : Int) : Option (List T) := f90_t c lf l0_0 n0_1 l0_2 b0_3 n0_4 n1 n2
theorem f90_eq (c : Orc) (lf : Nat) (l0_0 : List T) (n0_1 : Int) (l0_2 : List T) (b0_3 : Bool) (n0_4 n1 n2 : Int) : funK c env lf 6 fi90 [.st [.sl l0_0, .i .i64 n0_1, .sl l0_2, .b b0_3, .i .i64 n0_4], .i .i64 n1, .i .i64 n2] = f90 c lf l0_0 n0_1 l0_2 b0_3 n0_4 n1 n2 := by kernel_rfl
def f149_t (c : Orc) (lf : Nat) (l0_0 : List T) (n0_1 : Int) (b0_2 : Bool) : Option (List T) :=
 (c 148 [T.st [T.sl l0_0, T.i .i64 n0_1, T.b b0_2]]).bind fun r272 =>
 bif iLt (IntKind.wrap .i64 ((l0_0.length : Int) - (asI (T.cell (nth r272 1) 1)))) (asI (nth r272 0)) then
  some [T.i .i64 0, T.st [T.sl l0_0, T.i .i64 (asI (T.cell (nth r272 1) 1)), T.b false]]
 else
  some [T.i .i64 (asI (nth r272 0)), T.st [T.sl l0_0, T.i .i64 (asI (T.cell (nth r272 1) 1)), T.b (asB (T.cell (nth r272 1) 2))]]
def f149 (c : Orc) (lf : Nat) (l0_0 : List T) (n0_1 : Int) (b0_2 : Bool) : Option (List T) := f149_t c lf l0_0 n0_1 b0_2
theorem f149_eq (c : Orc) (lf : Nat) (l0_0 : List T) (n0_1 : Int) (b0_2 : Bool) : funK c env lf 6 fi149 [.st [.sl l0_0, .i .i64 n0_1, .b b0_2]] = f149 c lf l0_0 n0_1 b0_2 := by kernel_rfl
def f151_t (c : Orc) (lf : Nat) (l0_0 : List T) (n0_1 : Int) (b0_2 : Bool) : Option (List T) :=
 (c 148 [T.st [T.sl l0_0, T.i .i64 n0_1, T.b b0_2]]).bind fun r273 =>
 bif asB (T.cell (nth r273 1) 2) then
  some [T.b ((asI (nth r273 0)) == 1), T.st [T.sl l0_0, T.i .i64 (asI (T.cell (nth r273 1) 1)), T.b (iLt (asI (nth r273 0)) 2)]]
 else
  some [T.b ((asI (nth r273 0)) == 1), T.st [T.sl l0_0, T.i .i64 (asI (T.cell (nth r273 1) 1)), T.b false]]
def f151 (c : Orc) (lf : Nat) (l0_0 : List T) (n0_1 : Int) (b0_2 : Bool) : Option (List T) := f151_t c lf l0_0 n0_1 b0_2
theorem f151_eq (c : Orc) (lf : Nat) (l0_0 : List T) (n0_1 : Int) (b0_2 : Bool) : funK c env lf 6 fi151 [.st [.sl l0_0, .i .i64 n0_1, .b b0_2]] = f151 c lf l0_0 n0_1 b0_2 := by kernel_rfl
def f59_0_s (c : Orc) (lf : Nat) (s0 : ByteArray) (L : Int → Option (List T)) (x276 : Int) : Option (List T) :=
 bif iLt x276 (s0.size : Int) then
  bif inR x276 s0.size then
  bif iLt (byteAt s0 x276) 97 then
   bif iLt (byteAt s0 x276) 48 then
    bif (byteAt s0 x276) != 95 then
     bif (byteAt s0 x276) != 45 then
      bif (byteAt s0 x276) != 46 then
       some [T.i .i64 0, T.b false]
      else
       L (IntKind.wrap .i64 (x276 + 1))
     else
      L (IntKind.wrap .i64 (x276 + 1))
    else
     L (IntKind.wrap .i64 (x276 + 1))
   else
    bif iLt 57 (byteAt s0 x276) then
     bif (byteAt s0 x276) != 95 then
      bif (byteAt s0 x276) != 45 then
       bif (byteAt s0 x276) != 46 then
        some [T.i .i64 0, T.b false]
       else
        L (IntKind.wrap .i64 (x276 + 1))
      else
       L (IntKind.wrap .i64 (x276 + 1))
     else
      L (IntKind.wrap .i64 (x276 + 1))
    else
     L (IntKind.wrap .i64 (x276 + 1))
  else
   bif iLt 122 (byteAt s0 x276) then
    bif iLt (byteAt s0 x276) 48 then
     bif (byteAt s0 x276) != 95 then
      bif (byteAt s0 x276) != 45 then
       bif (byteAt s0 x276) != 46 then
        some [T.i .i64 0, T.b false]
       else
        L (IntKind.wrap .i64 (x276 + 1))
      else
       L (IntKind.wrap .i64 (x276 + 1))
     else
      L (IntKind.wrap .i64 (x276 + 1))
    else
     bif iLt 57 (byteAt s0 x276) then
      bif (byteAt s0 x276) != 95 then
       bif (byteAt s0 x276) != 45 then
        bif (byteAt s0 x276) != 46 then
         some [T.i .i64 0, T.b false]
        else
         L (IntKind.wrap .i64 (x276 + 1))
       else
        L (IntKind.wrap .i64 (x276 + 1))
      else
       L (IntKind.wrap .i64 (x276 + 1))
     else
      L (IntKind.wrap .i64 (x276 + 1))
   else
    L (IntKind.wrap .i64 (x276 + 1))
  else none
 else
  some [T.i .i64 1, T.s s0]
def f59_0_c (s0 : ByteArray) (x276 : Int) : CSt := ⟨[.s s0, .i .i64 (s0.size : Int), .i .i64 x276], [.dead]⟩
theorem f59_0_round (c : Orc) (lf : Nat) (s0 : ByteArray) (L : CSt → Option (List T)) (x276 : Int) :
 roundK c env lf 6 fi59 1 2 [] [0, 6, 7] (x59_2_0) L (f59_0_c s0 x276) = f59_0_s c lf s0 (fun x276 => L (f59_0_c s0 x276)) x276 := by kernel_rfl
def f59_0 (c : Orc) (lf : Nat) (s0 : ByteArray) : Nat → Int → Option (List T)
 | 0 => fun _ => none
 | n + 1 => fun x276 => f59_0_s c lf s0 (f59_0 c lf s0 n) x276
theorem f59_0_eq (c : Orc) (lf : Nat) (s0 : ByteArray) (n : Nat) (x276 : Int) :
 lpK c env lf 6 fi59 1 2 [] [0, 6, 7] (x59_2_0) n (f59_0_c s0 x276) = f59_0 c lf s0 n x276 := by
 induction n generalizing x276 with
 | zero => rfl
 | succ n ih =>
  refine (f59_0_round c lf s0 _ x276).trans ?_
  have e : (fun x276 => lpK c env lf 6 fi59 1 2 [] [0, 6, 7] (x59_2_0) n (f59_0_c s0 x276)) = f59_0 c lf s0 n := by funext x276; exact ih x276
  show f59_0_s c lf s0 (fun x276 => lpK c env lf 6 fi59 1 2 [] [0, 6, 7] (x59_2_0) n (f59_0_c s0 x276)) x276 = _
  rw [e]; rfl
def f59_t (c : Orc) (lf : Nat) (lp0 : ByteArray → Int → Option (List T)) (s0 : ByteArray) : Option (List T) :=
 (lp0 s0 0).bind fun r277 =>
 bif asI (nth r277 0) == 0 then
  some [T.b (asB (nth r277 1))]
 else
  bif iLe 1 ((asS (nth r277 1)).size : Int) then
   bif iLe ((asS (nth r277 1)).size : Int) 14 then
    bif !((asS (nth r277 1)).toList == (⟨#[46]⟩ : ByteArray).toList) then
     some [T.b (!((asS (nth r277 1)).toList == (⟨#[46, 46]⟩ : ByteArray).toList))]
    else
     some [T.b false]
   else
    some [T.b false]
  else
   some [T.b false]
def f59 (c : Orc) (lf : Nat) (s0 : ByteArray) : Option (List T) := f59_t c lf (fun (s0 : ByteArray) (x276 : Int) => f59_0 c lf s0 lf x276) s0
theorem f59_raw (c : Orc) (lf : Nat) (s0 : ByteArray) : funK c env lf 6 fi59 [.s s0] = f59_t c lf (fun (s0 : ByteArray) (x276 : Int) => lpK c env lf 6 fi59 1 2 [] [0, 6, 7] (x59_2_0) lf (f59_0_c s0 x276)) s0 := by kernel_rfl
theorem f59_eq (c : Orc) (lf : Nat) (s0 : ByteArray) : funK c env lf 6 fi59 [.s s0] = f59 c lf s0 := by
 refine (f59_raw c lf s0).trans ?_
 have e0 : (fun (s0 : ByteArray) (x276 : Int) => lpK c env lf 6 fi59 1 2 [] [0, 6, 7] (x59_2_0) lf (f59_0_c s0 x276)) = (fun (s0 : ByteArray) (x276 : Int) => f59_0 c lf s0 lf x276) := by funext s0 x276; exact f59_0_eq c lf s0 lf x276
 rw [e0]; rfl
def f61_t (c : Orc) (lf : Nat) (n0 : Int) : Option (List T) :=
 (c 58 [T.i .i64 n0, T.i .i64 32, T.i .i64 4000]).bind fun r278 =>
 some [T.b (asB (nth r278 0))]
def f61 (c : Orc) (lf : Nat) (n0 : Int) : Option (List T) := f61_t c lf n0
theorem f61_eq (c : Orc) (lf : Nat) (n0 : Int) : funK c env lf 6 fi61 [.i .i64 n0] = f61 c lf n0 := by kernel_rfl
def f153_1_s (c : Orc) (lf : Nat) (l0_1 : List T) (x302 : Int) (L : Int → Option (List T)) (x306 : Int) : Option (List T) :=
 bif iLt x306 ((l0_1.take x302.toNat).length : Int) then
  bif inR x306 ((l0_1.take x302.toNat).length) then
  bif (asS (T.cell ((l0_1.take x302.toNat).getD x306.toNat T.u) 1)).toList == (asS (T.cell (l0_1.getD x302.toNat T.u) 1)).toList then
   some [T.i .i64 0, T.i .i64 x306, T.i .i64 (asI (T.cell (l0_1.getD x302.toNat T.u) 0)), T.s (asS (T.cell (l0_1.getD x302.toNat T.u) 1)), T.b (asB (T.cell (l0_1.getD x302.toNat T.u) 2)), T.i .i64 (asI (T.cell (l0_1.getD x302.toNat T.u) 3)), T.i .i64 (asI (T.cell (l0_1.getD x302.toNat T.u) 4))]
  else
   L (IntKind.wrap .i64 (x306 + 1))
  else none
 else
  some [T.i .i64 1, T.i .i64 (asI (T.cell (l0_1.getD x302.toNat T.u) 0)), T.s (asS (T.cell (l0_1.getD x302.toNat T.u) 1)), T.b (asB (T.cell (l0_1.getD x302.toNat T.u) 2)), T.i .i64 (asI (T.cell (l0_1.getD x302.toNat T.u) 3)), T.i .i64 (asI (T.cell (l0_1.getD x302.toNat T.u) 4))]
def f153_1_c (l0_1 : List T) (x302 x306 : Int) : CSt := ⟨[.ro 0 true [.i .i64, .s, .b, .i .i64, .i .i64] (l0_1.take x302.toNat), .fn 200 [.bp 0 0], .i .i64 ((l0_1.take x302.toNat).length : Int), .i .i64 x306], [.box [.i .i64 (asI (T.cell (l0_1.getD x302.toNat T.u) 0)), .s (asS (T.cell (l0_1.getD x302.toNat T.u) 1)), .b (asB (T.cell (l0_1.getD x302.toNat T.u) 2)), .i .i64 (asI (T.cell (l0_1.getD x302.toNat T.u) 3)), .i .i64 (asI (T.cell (l0_1.getD x302.toNat T.u) 4))]]⟩
theorem f153_1_round (c : Orc) (lf : Nat) (l0_1 : List T) (x302 : Int) (L : CSt → Option (List T)) (x306 : Int) :
 roundK c env lf 4 fi221 1 2 [] [0, 1, 7, 8] (x221_2_0) L (f153_1_c l0_1 x302 x306) = f153_1_s c lf l0_1 x302 (fun x306 => L (f153_1_c l0_1 x302 x306)) x306 := by kernel_rfl
def f153_1 (c : Orc) (lf : Nat) (l0_1 : List T) (x302 : Int) : Nat → Int → Option (List T)
 | 0 => fun _ => none
 | n + 1 => fun x306 => f153_1_s c lf l0_1 x302 (f153_1 c lf l0_1 x302 n) x306
theorem f153_1_eq (c : Orc) (lf : Nat) (l0_1 : List T) (x302 : Int) (n : Nat) (x306 : Int) :
 lpK c env lf 4 fi221 1 2 [] [0, 1, 7, 8] (x221_2_0) n (f153_1_c l0_1 x302 x306) = f153_1 c lf l0_1 x302 n x306 := by
 induction n generalizing x306 with
 | zero => rfl
 | succ n ih =>
  refine (f153_1_round c lf l0_1 x302 _ x306).trans ?_
  have e : (fun x306 => lpK c env lf 4 fi221 1 2 [] [0, 1, 7, 8] (x221_2_0) n (f153_1_c l0_1 x302 x306)) = f153_1 c lf l0_1 x302 n := by funext x306; exact ih x306
  show f153_1_s c lf l0_1 x302 (fun x306 => lpK c env lf 4 fi221 1 2 [] [0, 1, 7, 8] (x221_2_0) n (f153_1_c l0_1 x302 x306)) x306 = _
  rw [e]; rfl
def f153_2_s (c : Orc) (lf : Nat) (l0_1 : List T) (x302 : Int) (L : Int → Option (List T)) (x311 : Int) : Option (List T) :=
 bif iLt x311 ((l0_1.take x302.toNat).length : Int) then
  bif inR x311 ((l0_1.take x302.toNat).length) then
  bif (asS (T.cell ((l0_1.take x302.toNat).getD x311.toNat T.u) 1)).toList == (asS (T.cell (l0_1.getD x302.toNat T.u) 1)).toList then
   some [T.i .i64 0, T.i .i64 x311, T.i .i64 (asI (T.cell (l0_1.getD x302.toNat T.u) 0)), T.s (asS (T.cell (l0_1.getD x302.toNat T.u) 1)), T.b (asB (T.cell (l0_1.getD x302.toNat T.u) 2)), T.i .i64 (asI (T.cell (l0_1.getD x302.toNat T.u) 3)), T.i .i64 (asI (T.cell (l0_1.getD x302.toNat T.u) 4))]
  else
   L (IntKind.wrap .i64 (x311 + 1))
  else none
 else
  some [T.i .i64 1, T.i .i64 (asI (T.cell (l0_1.getD x302.toNat T.u) 0)), T.s (asS (T.cell (l0_1.getD x302.toNat T.u) 1)), T.b (asB (T.cell (l0_1.getD x302.toNat T.u) 2)), T.i .i64 (asI (T.cell (l0_1.getD x302.toNat T.u) 3)), T.i .i64 (asI (T.cell (l0_1.getD x302.toNat T.u) 4))]
def f153_2_c (l0_1 : List T) (x302 x311 : Int) : CSt := ⟨[.ro 0 true [.i .i64, .s, .b, .i .i64, .i .i64] (l0_1.take x302.toNat), .fn 200 [.bp 0 0], .i .i64 ((l0_1.take x302.toNat).length : Int), .i .i64 x311], [.box [.i .i64 (asI (T.cell (l0_1.getD x302.toNat T.u) 0)), .s (asS (T.cell (l0_1.getD x302.toNat T.u) 1)), .b (asB (T.cell (l0_1.getD x302.toNat T.u) 2)), .i .i64 (asI (T.cell (l0_1.getD x302.toNat T.u) 3)), .i .i64 (asI (T.cell (l0_1.getD x302.toNat T.u) 4))]]⟩
theorem f153_2_round (c : Orc) (lf : Nat) (l0_1 : List T) (x302 : Int) (L : CSt → Option (List T)) (x311 : Int) :
 roundK c env lf 4 fi221 1 2 [] [0, 1, 7, 8] (x221_2_0) L (f153_2_c l0_1 x302 x311) = f153_2_s c lf l0_1 x302 (fun x311 => L (f153_2_c l0_1 x302 x311)) x311 := by kernel_rfl
def f153_2 (c : Orc) (lf : Nat) (l0_1 : List T) (x302 : Int) : Nat → Int → Option (List T)
 | 0 => fun _ => none
 | n + 1 => fun x311 => f153_2_s c lf l0_1 x302 (f153_2 c lf l0_1 x302 n) x311
theorem f153_2_eq (c : Orc) (lf : Nat) (l0_1 : List T) (x302 : Int) (n : Nat) (x311 : Int) :
 lpK c env lf 4 fi221 1 2 [] [0, 1, 7, 8] (x221_2_0) n (f153_2_c l0_1 x302 x311) = f153_2 c lf l0_1 x302 n x311 := by
 induction n generalizing x311 with
 | zero => rfl
 | succ n ih =>
  refine (f153_2_round c lf l0_1 x302 _ x311).trans ?_
  have e : (fun x311 => lpK c env lf 4 fi221 1 2 [] [0, 1, 7, 8] (x221_2_0) n (f153_2_c l0_1 x302 x311)) = f153_2 c lf l0_1 x302 n := by funext x311; exact ih x311
  show f153_2_s c lf l0_1 x302 (fun x311 => lpK c env lf 4 fi221 1 2 [] [0, 1, 7, 8] (x221_2_0) n (f153_2_c l0_1 x302 x311)) x311 = _
  rw [e]; rfl
def f153_0_s (c : Orc) (lf : Nat) (l0_1 : List T) (n0_0 : Int) (L : Int → Option (List T)) (lp0 : List T → Int → Int → Option (List T)) (lp1 : List T → Int → Int → Option (List T)) (x302 : Int) : Option (List T) :=
 bif iLt x302 (l0_1.length : Int) then
  bif inR x302 l0_1.length then
  bif iLt (asI (T.cell (l0_1.getD x302.toNat T.u) 0)) 1 then
   some [T.i .i64 0, T.b false]
  else
   bif iLe n0_0 (asI (T.cell (l0_1.getD x302.toNat T.u) 0)) then
    some [T.i .i64 0, T.b false]
   else
    bif iLt 0 x302 then
     bif inR (IntKind.wrap .i64 (x302 - 1)) l0_1.length then
     bif iLe (asI (T.cell (l0_1.getD x302.toNat T.u) 0)) (asI (T.cell (l0_1.getD ((IntKind.wrap .i64 (x302 - 1)).toNat) T.u) 0)) then
      some [T.i .i64 0, T.b false]
     else
      (c 59 [T.s (asS (T.cell (l0_1.getD x302.toNat T.u) 1))]).bind fun r303 =>
      bif !(asB (nth r303 0)) then
       some [T.i .i64 0, T.b false]
      else
       (c 61 [T.i .i64 (asI (T.cell (l0_1.getD x302.toNat T.u) 3))]).bind fun r304 =>
       bif !(asB (nth r304 0)) then
        some [T.i .i64 0, T.b false]
       else
        (c 58 [T.i .i64 (asI (T.cell (l0_1.getD x302.toNat T.u) 4)), T.i .i64 0, T.i .i64 191]).bind fun r305 =>
        bif !(asB (nth r305 0)) then
         some [T.i .i64 0, T.b false]
        else
         bif iLe 0 x302 && iLe x302 (l0_1.length : Int) then
         (lp0 l0_1 x302 0).bind fun r307 =>
         bif asI (nth r307 0) == 0 then
          bif iLe 0 (asI (nth r307 1)) then
           some [T.i .i64 0, T.b false]
          else
           L (IntKind.wrap .i64 (x302 + 1))
         else
          L (IntKind.wrap .i64 (x302 + 1))
         else none
     else none
    else
     (c 59 [T.s (asS (T.cell (l0_1.getD x302.toNat T.u) 1))]).bind fun r308 =>
     bif !(asB (nth r308 0)) then
      some [T.i .i64 0, T.b false]
     else
      (c 61 [T.i .i64 (asI (T.cell (l0_1.getD x302.toNat T.u) 3))]).bind fun r309 =>
      bif !(asB (nth r309 0)) then
       some [T.i .i64 0, T.b false]
      else
       (c 58 [T.i .i64 (asI (T.cell (l0_1.getD x302.toNat T.u) 4)), T.i .i64 0, T.i .i64 191]).bind fun r310 =>
       bif !(asB (nth r310 0)) then
        some [T.i .i64 0, T.b false]
       else
        bif iLe 0 x302 && iLe x302 (l0_1.length : Int) then
        (lp1 l0_1 x302 0).bind fun r312 =>
        bif asI (nth r312 0) == 0 then
         bif iLe 0 (asI (nth r312 1)) then
          some [T.i .i64 0, T.b false]
         else
          L (IntKind.wrap .i64 (x302 + 1))
        else
         L (IntKind.wrap .i64 (x302 + 1))
        else none
  else none
 else
  some [T.i .i64 1, T.i .i64 n0_0, T.sl l0_1]
def f153_0_c (l0_1 : List T) (n0_0 x302 : Int) : CSt := ⟨[.bp 2 0, .ro 0 true [.i .i64, .s, .b, .i .i64, .i .i64] l0_1, .i .i64 (l0_1.length : Int), .i .i64 x302], [.dead, .dead, .box [.i .i64 n0_0, .ro 0 true [.i .i64, .s, .b, .i .i64, .i .i64] l0_1]]⟩
theorem f153_0_round (c : Orc) (lf : Nat) (l0_1 : List T) (n0_0 : Int) (L : CSt → Option (List T)) (x302 : Int) :
 roundK c env lf 6 fi153 2 2 [] [1, 6, 7, 8] (x153_2_0) L (f153_0_c l0_1 n0_0 x302) = f153_0_s c lf l0_1 n0_0 (fun x302 => L (f153_0_c l0_1 n0_0 x302)) (fun (l0_1 : List T) (x302 x306 : Int) => lpK c env lf 4 fi221 1 2 [] [0, 1, 7, 8] (x221_2_0) lf (f153_1_c l0_1 x302 x306)) (fun (l0_1 : List T) (x302 x311 : Int) => lpK c env lf 4 fi221 1 2 [] [0, 1, 7, 8] (x221_2_0) lf (f153_2_c l0_1 x302 x311)) x302 := by kernel_rfl
def f153_0 (c : Orc) (lf : Nat) (l0_1 : List T) (n0_0 : Int) : Nat → Int → Option (List T)
 | 0 => fun _ => none
 | n + 1 => fun x302 => f153_0_s c lf l0_1 n0_0 (f153_0 c lf l0_1 n0_0 n) (fun (l0_1 : List T) (x302 x306 : Int) => f153_1 c lf l0_1 x302 lf x306) (fun (l0_1 : List T) (x302 x311 : Int) => f153_2 c lf l0_1 x302 lf x311) x302
theorem f153_0_u (c : Orc) (lf : Nat) (l0_1 : List T) (n0_0 : Int) (n : Nat) (x302 : Int) : f153_0 c lf l0_1 n0_0 (n + 1) x302 = f153_0_s c lf l0_1 n0_0 (f153_0 c lf l0_1 n0_0 n) (fun (l0_1 : List T) (x302 x306 : Int) => f153_1 c lf l0_1 x302 lf x306) (fun (l0_1 : List T) (x302 x311 : Int) => f153_2 c lf l0_1 x302 lf x311) x302 := rfl
theorem f153_0_eq (c : Orc) (lf : Nat) (l0_1 : List T) (n0_0 : Int) (n : Nat) (x302 : Int) :
 lpK c env lf 6 fi153 2 2 [] [1, 6, 7, 8] (x153_2_0) n (f153_0_c l0_1 n0_0 x302) = f153_0 c lf l0_1 n0_0 n x302 := by
 induction n generalizing x302 with
 | zero => rfl
 | succ n ih =>
  refine (f153_0_round c lf l0_1 n0_0 _ x302).trans ?_
  have e : (fun x302 => lpK c env lf 6 fi153 2 2 [] [1, 6, 7, 8] (x153_2_0) n (f153_0_c l0_1 n0_0 x302)) = f153_0 c lf l0_1 n0_0 n := by funext x302; exact ih x302
  have e0 : (fun (l0_1 : List T) (x302 x306 : Int) => lpK c env lf 4 fi221 1 2 [] [0, 1, 7, 8] (x221_2_0) lf (f153_1_c l0_1 x302 x306)) = (fun (l0_1 : List T) (x302 x306 : Int) => f153_1 c lf l0_1 x302 lf x306) := by funext l0_1 x302 x306; exact f153_1_eq c lf l0_1 x302 lf x306
  have e1 : (fun (l0_1 : List T) (x302 x311 : Int) => lpK c env lf 4 fi221 1 2 [] [0, 1, 7, 8] (x221_2_0) lf (f153_2_c l0_1 x302 x311)) = (fun (l0_1 : List T) (x302 x311 : Int) => f153_2 c lf l0_1 x302 lf x311) := by funext l0_1 x302 x311; exact f153_2_eq c lf l0_1 x302 lf x311
  show f153_0_s c lf l0_1 n0_0 (fun x302 => lpK c env lf 6 fi153 2 2 [] [1, 6, 7, 8] (x153_2_0) n (f153_0_c l0_1 n0_0 x302)) (fun (l0_1 : List T) (x302 x306 : Int) => lpK c env lf 4 fi221 1 2 [] [0, 1, 7, 8] (x221_2_0) lf (f153_1_c l0_1 x302 x306)) (fun (l0_1 : List T) (x302 x311 : Int) => lpK c env lf 4 fi221 1 2 [] [0, 1, 7, 8] (x221_2_0) lf (f153_2_c l0_1 x302 x311)) x302 = _
  rw [e, e0, e1]; rfl
def f153_t (c : Orc) (lf : Nat) (lp0 : List T → Int → Int → Option (List T)) (n0_0 : Int) (l0_1 : List T) : Option (List T) :=
 (lp0 l0_1 n0_0 0).bind fun r313 =>
 bif asI (nth r313 0) == 0 then
  some [T.b (asB (nth r313 1))]
 else
  (c 58 [T.i .i64 (asI (nth r313 1)), T.i .i64 1, T.i .i64 99]).bind fun r314 =>
  bif asB (nth r314 0) then
   some [T.b (iLe ((asL (nth r313 2)).length : Int) 6)]
  else
   some [T.b false]
def f153 (c : Orc) (lf : Nat) (n0_0 : Int) (l0_1 : List T) : Option (List T) := f153_t c lf (fun (l0_1 : List T) (n0_0 x302 : Int) => f153_0 c lf l0_1 n0_0 lf x302) n0_0 l0_1
theorem f153_raw (c : Orc) (lf : Nat) (n0_0 : Int) (l0_1 : List T) : funK c env lf 6 fi153 [.st [.i .i64 n0_0, .sl l0_1]] = f153_t c lf (fun (l0_1 : List T) (n0_0 x302 : Int) => lpK c env lf 6 fi153 2 2 [] [1, 6, 7, 8] (x153_2_0) lf (f153_0_c l0_1 n0_0 x302)) n0_0 l0_1 := by kernel_rfl
theorem f153_eq (c : Orc) (lf : Nat) (n0_0 : Int) (l0_1 : List T) : funK c env lf 6 fi153 [.st [.i .i64 n0_0, .sl l0_1]] = f153 c lf n0_0 l0_1 := by
 refine (f153_raw c lf n0_0 l0_1).trans ?_
 have e0 : (fun (l0_1 : List T) (n0_0 x302 : Int) => lpK c env lf 6 fi153 2 2 [] [1, 6, 7, 8] (x153_2_0) lf (f153_0_c l0_1 n0_0 x302)) = (fun (l0_1 : List T) (n0_0 x302 : Int) => f153_0 c lf l0_1 n0_0 lf x302) := by funext l0_1 n0_0 x302; exact f153_0_eq c lf l0_1 n0_0 lf x302
 rw [e0]; rfl
def f92_0_s (c : Orc) (lf : Nat) (l0 r334 r335 : List T) (L : Int → Int → Bool → List T → Option (List T)) (x341 x342 : Int) (x343 : Bool) (x344 : List T) : Option (List T) :=
 bif iLt x341 (asI (nth r335 0)) then
  (c 148 [T.st [T.sl l0, T.i .i64 x342, T.b x343]]).bind fun r345 =>
  (c 150 [T.st [T.sl l0, T.i .i64 (asI (T.cell (nth r345 1) 1)), T.b (asB (T.cell (nth r345 1) 2))]]).bind fun r346 =>
  (c 151 [T.st [T.sl l0, T.i .i64 (asI (T.cell (nth r346 1) 1)), T.b (asB (T.cell (nth r346 1) 2))]]).bind fun r347 =>
  (c 148 [T.st [T.sl l0, T.i .i64 (asI (T.cell (nth r347 1) 1)), T.b (asB (T.cell (nth r347 1) 2))]]).bind fun r348 =>
  (c 148 [T.st [T.sl l0, T.i .i64 (asI (T.cell (nth r348 1) 1)), T.b (asB (T.cell (nth r348 1) 2))]]).bind fun r349 =>
  bif nLe (x344.length + ([T.st [T.i .i64 (asI (nth r345 0)), T.s (asS (nth r346 0)), T.b (asB (nth r347 0)), T.i .i64 (asI (nth r348 0)), T.i .i64 (asI (nth r349 0))]] : List T).length) LIM then
  L (IntKind.wrap .i64 (x341 + 1)) (asI (T.cell (nth r349 1) 1)) (asB (T.cell (nth r349 1) 2)) (x344 ++ ([T.st [T.i .i64 (asI (nth r345 0)), T.s (asS (nth r346 0)), T.b (asB (nth r347 0)), T.i .i64 (asI (nth r348 0)), T.i .i64 (asI (nth r349 0))]] : List T))
  else none
 else
  some [T.i .i64 0, T.i .i64 0, T.sl ([] : List T), T.sl l0, T.i .i64 x342, T.b x343, T.i .i64 (asI (nth r334 0)), T.sl x344]
def f92_0_c (l0 r334 r335 : List T) (x341 x342 : Int) (x343 : Bool) (x344 : List T) : CSt := ⟨[.bp 1 0, .bp 3 0, .bp 4 0, .i .i64 (asI (nth r335 0)), .i .i64 x341], [.dead, .box [.i .i64 0, .rf 2 [] 0 none], .row true [.i .i64, .s, .b, .i .i64, .i .i64] ([] : List T) 0 false, .box [.ro 0 false [.i .u8] l0, .i .i64 x342, .b x343], .box [.i .i64 (asI (nth r334 0)), .rf 5 [] 0 none], .row true [.i .i64, .s, .b, .i .i64, .i .i64] x344 0 false]⟩
theorem f92_0_round (c : Orc) (lf : Nat) (l0 r334 r335 : List T) (L : CSt → Option (List T)) (x341 x342 : Int) (x343 : Bool) (x344 : List T) :
 roundK c env lf 6 fi92 1 4 [] [2, 4, 5, 14, 15] (x92_4_0) L (f92_0_c l0 r334 r335 x341 x342 x343 x344) = f92_0_s c lf l0 r334 r335 (fun x341 x342 x343 x344 => L (f92_0_c l0 r334 r335 x341 x342 x343 x344)) x341 x342 x343 x344 := by kernel_rfl
def f92_0 (c : Orc) (lf : Nat) (l0 r334 r335 : List T) : Nat → Int → Int → Bool → List T → Option (List T)
 | 0 => fun _ _ _ _ => none
 | n + 1 => fun x341 x342 x343 x344 => f92_0_s c lf l0 r334 r335 (f92_0 c lf l0 r334 r335 n) x341 x342 x343 x344
theorem f92_0_u (c : Orc) (lf : Nat) (l0 r334 r335 : List T) (n : Nat) (x341 x342 : Int) (x343 : Bool) (x344 : List T) : f92_0 c lf l0 r334 r335 (n + 1) x341 x342 x343 x344 = f92_0_s c lf l0 r334 r335 (f92_0 c lf l0 r334 r335 n) x341 x342 x343 x344 := rfl
theorem f92_0_eq (c : Orc) (lf : Nat) (l0 r334 r335 : List T) (n : Nat) (x341 x342 : Int) (x343 : Bool) (x344 : List T) :
 lpK c env lf 6 fi92 1 4 [] [2, 4, 5, 14, 15] (x92_4_0) n (f92_0_c l0 r334 r335 x341 x342 x343 x344) = f92_0 c lf l0 r334 r335 n x341 x342 x343 x344 := by
 induction n generalizing x341 x342 x343 x344 with
 | zero => rfl
 | succ n ih =>
  refine (f92_0_round c lf l0 r334 r335 _ x341 x342 x343 x344).trans ?_
  have e : (fun x341 x342 x343 x344 => lpK c env lf 6 fi92 1 4 [] [2, 4, 5, 14, 15] (x92_4_0) n (f92_0_c l0 r334 r335 x341 x342 x343 x344)) = f92_0 c lf l0 r334 r335 n := by funext x341 x342 x343 x344; exact ih x341 x342 x343 x344
  show f92_0_s c lf l0 r334 r335 (fun x341 x342 x343 x344 => lpK c env lf 6 fi92 1 4 [] [2, 4, 5, 14, 15] (x92_4_0) n (f92_0_c l0 r334 r335 x341 x342 x343 x344)) x341 x342 x343 x344 = _
  rw [e]; rfl
def f92_t (c : Orc) (lf : Nat) (lp0 : List T → List T → List T → Int → Int → Bool → List T → Option (List T)) (l0 : List T) : Option (List T) :=
 (c 148 [T.st [T.sl l0, T.i .i64 0, T.b true]]).bind fun r334 =>
 (c 149 [T.st [T.sl l0, T.i .i64 (asI (T.cell (nth r334 1) 1)), T.b (asB (T.cell (nth r334 1) 2))]]).bind fun r335 =>
 (lp0 l0 r334 r335 0 (asI (T.cell (nth r335 1) 1)) (asB (T.cell (nth r335 1) 2)) ([] : List T)).bind fun r350 =>
 (c 152 [T.st [T.sl (asL (nth r350 3)), T.i .i64 (asI (nth r350 4)), T.b (asB (nth r350 5))]]).bind fun r351 =>
 bif !(asB (nth r351 0)) then
  some [T.st [T.i .i64 0, T.sl []], T.b false]
 else
  (c 153 [T.st [T.i .i64 (asI (nth r350 6)), T.sl (asL (nth r350 7))]]).bind fun r352 =>
  bif !(asB (nth r352 0)) then
   some [T.st [T.i .i64 0, T.sl []], T.b false]
  else
   some [T.st [T.i .i64 (asI (nth r350 6)), T.sl (asL (nth r350 7))], T.b true]
def f92 (c : Orc) (lf : Nat) (l0 : List T) : Option (List T) := f92_t c lf (fun (l0 r334 r335 : List T) (x341 x342 : Int) (x343 : Bool) (x344 : List T) => f92_0 c lf l0 r334 r335 lf x341 x342 x343 x344) l0
theorem f92_raw (c : Orc) (lf : Nat) (l0 : List T) : funK c env lf 6 fi92 [.sl l0] = f92_t c lf (fun (l0 r334 r335 : List T) (x341 x342 : Int) (x343 : Bool) (x344 : List T) => lpK c env lf 6 fi92 1 4 [] [2, 4, 5, 14, 15] (x92_4_0) lf (f92_0_c l0 r334 r335 x341 x342 x343 x344)) l0 := by kernel_rfl
theorem f92_eq (c : Orc) (lf : Nat) (l0 : List T) : funK c env lf 6 fi92 [.sl l0] = f92 c lf l0 := by
 refine (f92_raw c lf l0).trans ?_
 have e0 : (fun (l0 r334 r335 : List T) (x341 x342 : Int) (x343 : Bool) (x344 : List T) => lpK c env lf 6 fi92 1 4 [] [2, 4, 5, 14, 15] (x92_4_0) lf (f92_0_c l0 r334 r335 x341 x342 x343 x344)) = (fun (l0 r334 r335 : List T) (x341 x342 : Int) (x343 : Bool) (x344 : List T) => f92_0 c lf l0 r334 r335 lf x341 x342 x343 x344) := by funext l0 r334 r335 x341 x342 x343 x344; exact f92_0_eq c lf l0 r334 r335 lf x341 x342 x343 x344
 rw [e0]; rfl
def f21_t (c : Orc) (lf : Nat) : Option (List T) :=
 some [T.st [T.sl [], T.i .i64 1]]
def f21 (c : Orc) (lf : Nat) : Option (List T) := f21_t c lf
theorem f21_eq (c : Orc) (lf : Nat) : funK c env lf 6 fi21 [] = f21 c lf := by kernel_rfl
def f28_t (c : Orc) (lf : Nat) : Option (List T) :=
 (c 21 []).bind fun r353 =>
 some [T.st [T.sl (asL (T.cell (nth r353 0) 0)), T.i .i64 (asI (T.cell (nth r353 0) 1)), T.i .i64 1, T.sl [], T.sl [], T.i .i64 (-1), T.i .i64 (-1)]]
def f28 (c : Orc) (lf : Nat) : Option (List T) := f28_t c lf
theorem f28_eq (c : Orc) (lf : Nat) : funK c env lf 6 fi28 [] = f28 c lf := by kernel_rfl
def f47_0_s (c : Orc) (lf : Nat) (b0_3 : Bool) (l0_0 l0_2 : List T) (n1 n0_1 n0_4 : Int) (r364 r366 : List T) (L : Unit → Option (List T)) : Option (List T) :=
 bif iLt 0 ((asL (T.cell (nth r366 0) 1)).length : Int) then
  bif inR 0 ((asL (T.cell (nth r366 0) 1)).length) then
  none
  else none
 else
  some [T.i .i64 0, T.sl l0_0, T.i .i64 n0_1, T.sl l0_2, T.b b0_3, T.i .i64 n0_4, T.i .i64 0, T.i .i64 0, T.i .i64 0, T.i .i64 0, T.sl ([] : List T), T.sl ([] : List T), T.sl ([] : List T), T.i .i64 (asI (T.cell (nth r366 0) 0)), T.i .i64 (asI (T.cell (nth r366 0) 0)), T.i .i64 (asI (nth r364 0)), T.i .i64 n1, T.sl ([] : List T), T.sl (asL (T.cell (nth r366 0) 1)), T.sl ([] : List T)]
def f47_0_c (b0_3 : Bool) (l0_0 l0_2 : List T) (n1 n0_1 n0_4 : Int) (r364 r366 : List T) : CSt := ⟨[.bp 6 0, .bp 7 0, .bp 11 0, .rf 13 [] 0 none, .i .i64 ((asL (T.cell (nth r366 0) 1)).length : Int), .i .i64 0], [.dead, .dead, .dead, .dead, .dead, .dead, .box [.ro 0 true [.sl true [.b, .sl false [.i .u8]], .i .i64, .b] l0_0, .i .i64 n0_1, .ro 0 true [.i .i64, .i .i64, .i .i64] l0_2, .b b0_3, .i .i64 n0_4], .box [.rf 8 [] 0 none, .i .i64 0, .i .i64 0, .rf 9 [] 0 none, .rf 10 [] 0 none, .i .i64 0, .i .i64 0], .row true [.i .i64, .s, .b, .i .i64, .sl true [.i .i64, .i .i64, .i .i64, .sl false [.i .u8], .sl true [.s, .i .i64], .sl true [.s, .s]], .i .i64] ([] : List T) 0 false, .row true [.i .i64, .s, .b, .i .i64, .i .i64] ([] : List T) 0 false, .row true [.i .i64, .sl true [.i .i64, .i .i64]] ([] : List T) 0 false, .box [.rf 12 [] 0 none, .i .i64 (asI (T.cell (nth r366 0) 0)), .i .i64 (asI (T.cell (nth r366 0) 0)), .rf 13 [] 0 none, .rf 14 [] 0 none, .i .i64 (asI (nth r364 0)), .i .i64 n1], .row true [.i .i64, .s, .b, .i .i64, .sl true [.i .i64, .i .i64, .i .i64, .sl false [.i .u8], .sl true [.s, .i .i64], .sl true [.s, .s]], .i .i64] ([] : List T) 0 false, .row true [.i .i64, .s, .b, .i .i64, .i .i64] (asL (T.cell (nth r366 0) 1)) 0 false, .row true [.i .i64, .sl true [.i .i64, .i .i64]] ([] : List T) 0 false]⟩
theorem f47_0_round (c : Orc) (lf : Nat) (b0_3 : Bool) (l0_0 l0_2 : List T) (n1 n0_1 n0_4 : Int) (r364 r366 : List T) (L : CSt → Option (List T)) :
 roundK c env lf 6 fi47 6 9 [] [2, 4, 15, 69, 70, 71] (x47_9_0) L (f47_0_c b0_3 l0_0 l0_2 n1 n0_1 n0_4 r364 r366) = f47_0_s c lf b0_3 l0_0 l0_2 n1 n0_1 n0_4 r364 r366 (fun _ => L (f47_0_c b0_3 l0_0 l0_2 n1 n0_1 n0_4 r364 r366)) := by kernel_rfl
def f47_0 (c : Orc) (lf : Nat) (b0_3 : Bool) (l0_0 l0_2 : List T) (n1 n0_1 n0_4 : Int) (r364 r366 : List T) : Nat → Unit → Option (List T)
 | 0 => fun _ => none
 | n + 1 => fun _ => f47_0_s c lf b0_3 l0_0 l0_2 n1 n0_1 n0_4 r364 r366 (f47_0 c lf b0_3 l0_0 l0_2 n1 n0_1 n0_4 r364 r366 n)
theorem f47_0_eq (c : Orc) (lf : Nat) (b0_3 : Bool) (l0_0 l0_2 : List T) (n1 n0_1 n0_4 : Int) (r364 r366 : List T) (n : Nat) :
 lpK c env lf 6 fi47 6 9 [] [2, 4, 15, 69, 70, 71] (x47_9_0) n (f47_0_c b0_3 l0_0 l0_2 n1 n0_1 n0_4 r364 r366) = f47_0 c lf b0_3 l0_0 l0_2 n1 n0_1 n0_4 r364 r366 n () := by
 induction n with
 | zero => rfl
 | succ n ih =>
  refine (f47_0_round c lf b0_3 l0_0 l0_2 n1 n0_1 n0_4 r364 r366 _).trans ?_
  have e : (fun (_ : Unit) => lpK c env lf 6 fi47 6 9 [] [2, 4, 15, 69, 70, 71] (x47_9_0) n (f47_0_c b0_3 l0_0 l0_2 n1 n0_1 n0_4 r364 r366)) = f47_0 c lf b0_3 l0_0 l0_2 n1 n0_1 n0_4 r364 r366 n := by funext _; exact ih
  show f47_0_s c lf b0_3 l0_0 l0_2 n1 n0_1 n0_4 r364 r366 (fun _ => lpK c env lf 6 fi47 6 9 [] [2, 4, 15, 69, 70, 71] (x47_9_0) n (f47_0_c b0_3 l0_0 l0_2 n1 n0_1 n0_4 r364 r366)) = _
  rw [e]; rfl
def f47_t (c : Orc) (lf : Nat) (lp0 : Bool → List T → List T → Int → Int → Int → List T → List T → Option (List T)) (l0_0 : List T) (n0_1 : Int) (l0_2 : List T) (b0_3 : Bool) (n0_4 n1 : Int) : Option (List T) :=
 (c 90 [T.st [T.sl l0_0, T.i .i64 n0_1, T.sl l0_2, T.b b0_3, T.i .i64 n0_4], T.i .i64 n1, T.i .i64 4]).bind fun r363 =>
 (c 91 [T.sl (asL (T.cell (nth r363 0) 2)), T.i .i64 0]).bind fun r364 =>
 (c 90 [T.st [T.sl l0_0, T.i .i64 n0_1, T.sl l0_2, T.b b0_3, T.i .i64 n0_4], T.i .i64 (asI (nth r364 0)), T.i .i64 3]).bind fun r365 =>
 (c 92 [T.sl (asL (T.cell (nth r365 0) 2))]).bind fun r366 =>
 bif !(asB (nth r363 1)) then
  (c 28 []).bind fun r367 =>
  some [T.st [T.sl (asL (T.cell (nth r367 0) 0)), T.i .i64 (asI (T.cell (nth r367 0) 1)), T.i .i64 (asI (T.cell (nth r367 0) 2)), T.sl (asL (T.cell (nth r367 0) 3)), T.sl (asL (T.cell (nth r367 0) 4)), T.i .i64 (asI (T.cell (nth r367 0) 5)), T.i .i64 (asI (T.cell (nth r367 0) 6))], T.b false]
 else
  bif !(asB (nth r364 2)) then
   (c 28 []).bind fun r368 =>
   some [T.st [T.sl (asL (T.cell (nth r368 0) 0)), T.i .i64 (asI (T.cell (nth r368 0) 1)), T.i .i64 (asI (T.cell (nth r368 0) 2)), T.sl (asL (T.cell (nth r368 0) 3)), T.sl (asL (T.cell (nth r368 0) 4)), T.i .i64 (asI (T.cell (nth r368 0) 5)), T.i .i64 (asI (T.cell (nth r368 0) 6))], T.b false]
  else
   bif !(asB (nth r365 1)) then
    (c 28 []).bind fun r369 =>
    some [T.st [T.sl (asL (T.cell (nth r369 0) 0)), T.i .i64 (asI (T.cell (nth r369 0) 1)), T.i .i64 (asI (T.cell (nth r369 0) 2)), T.sl (asL (T.cell (nth r369 0) 3)), T.sl (asL (T.cell (nth r369 0) 4)), T.i .i64 (asI (T.cell (nth r369 0) 5)), T.i .i64 (asI (T.cell (nth r369 0) 6))], T.b false]
   else
    bif !(asB (nth r366 1)) then
     (c 28 []).bind fun r370 =>
     some [T.st [T.sl (asL (T.cell (nth r370 0) 0)), T.i .i64 (asI (T.cell (nth r370 0) 1)), T.i .i64 (asI (T.cell (nth r370 0) 2)), T.sl (asL (T.cell (nth r370 0) 3)), T.sl (asL (T.cell (nth r370 0) 4)), T.i .i64 (asI (T.cell (nth r370 0) 5)), T.i .i64 (asI (T.cell (nth r370 0) 6))], T.b false]
    else
     (lp0 b0_3 l0_0 l0_2 n1 n0_1 n0_4 r364 r366).bind fun r371 =>
     none
def f47 (c : Orc) (lf : Nat) (l0_0 : List T) (n0_1 : Int) (l0_2 : List T) (b0_3 : Bool) (n0_4 n1 : Int) : Option (List T) := f47_t c lf (fun (b0_3 : Bool) (l0_0 l0_2 : List T) (n1 n0_1 n0_4 : Int) (r364 r366 : List T) => f47_0 c lf b0_3 l0_0 l0_2 n1 n0_1 n0_4 r364 r366 lf ()) l0_0 n0_1 l0_2 b0_3 n0_4 n1
theorem f47_raw (c : Orc) (lf : Nat) (l0_0 : List T) (n0_1 : Int) (l0_2 : List T) (b0_3 : Bool) (n0_4 n1 : Int) : funK c env lf 6 fi47 [.st [.sl l0_0, .i .i64 n0_1, .sl l0_2, .b b0_3, .i .i64 n0_4], .i .i64 n1] = f47_t c lf (fun (b0_3 : Bool) (l0_0 l0_2 : List T) (n1 n0_1 n0_4 : Int) (r364 r366 : List T) => lpK c env lf 6 fi47 6 9 [] [2, 4, 15, 69, 70, 71] (x47_9_0) lf (f47_0_c b0_3 l0_0 l0_2 n1 n0_1 n0_4 r364 r366)) l0_0 n0_1 l0_2 b0_3 n0_4 n1 := by kernel_rfl
theorem f47_eq (c : Orc) (lf : Nat) (l0_0 : List T) (n0_1 : Int) (l0_2 : List T) (b0_3 : Bool) (n0_4 n1 : Int) : funK c env lf 6 fi47 [.st [.sl l0_0, .i .i64 n0_1, .sl l0_2, .b b0_3, .i .i64 n0_4], .i .i64 n1] = f47 c lf l0_0 n0_1 l0_2 b0_3 n0_4 n1 := by
 refine (f47_raw c lf l0_0 n0_1 l0_2 b0_3 n0_4 n1).trans ?_
 have e0 : (fun (b0_3 : Bool) (l0_0 l0_2 : List T) (n1 n0_1 n0_4 : Int) (r364 r366 : List T) => lpK c env lf 6 fi47 6 9 [] [2, 4, 15, 69, 70, 71] (x47_9_0) lf (f47_0_c b0_3 l0_0 l0_2 n1 n0_1 n0_4 r364 r366)) = (fun (b0_3 : Bool) (l0_0 l0_2 : List T) (n1 n0_1 n0_4 : Int) (r364 r366 : List T) => f47_0 c lf b0_3 l0_0 l0_2 n1 n0_1 n0_4 r364 r366 lf ()) := by funext b0_3 l0_0 l0_2 n1 n0_1 n0_4 r364 r366; exact f47_0_eq c lf b0_3 l0_0 l0_2 n1 n0_1 n0_4 r364 r366 lf
 rw [e0]; rfl
def f16_0_s (c : Orc) (lf : Nat) (r384 : List T) (L : Int → Int → Option (List T)) (x386 x387 : Int) : Option (List T) :=
 bif iLt x386 (IntKind.wrap .i64 (((asL (T.cell (nth r384 0) 0)).length : Int) * 8)) then
  (c 85 [T.st [T.sl (asL (T.cell (nth r384 0) 0)), T.i .i64 (asI (T.cell (nth r384 0) 1)), T.sl (asL (T.cell (nth r384 0) 2)), T.b (asB (T.cell (nth r384 0) 3)), T.i .i64 0], T.i .i64 x386]).bind fun r388 =>
  bif asB (nth r388 1) then
   L (IntKind.wrap .i64 (x386 + 1)) (imax x387 (imin (IntKind.wrap .i64 ((asI (T.cell (nth r388 0) 1)) + 1)) 1000000))
  else
   L (IntKind.wrap .i64 (x386 + 1)) x387
 else
  some [T.i .i64 0, T.sl (asL (T.cell (nth r384 0) 0)), T.sl (asL (T.cell (nth r384 0) 2)), T.i .i64 (asI (T.cell (nth r384 0) 1)), T.b (asB (T.cell (nth r384 0) 3)), T.i .i64 x387]
def f16_0_c (r384 : List T) (x386 x387 : Int) : CSt := ⟨[.fn 45 [.bp 2 0], .bp 3 0, .i .i64 (IntKind.wrap .i64 (((asL (T.cell (nth r384 0) 0)).length : Int) * 8)), .i .i64 x386], [.row true [.sl true [.b, .sl false [.i .u8]], .i .i64, .b] (asL (T.cell (nth r384 0) 0)) 0 false, .row true [.i .i64, .i .i64, .i .i64] (asL (T.cell (nth r384 0) 2)) 0 false, .box [.rf 0 [] 0 none, .i .i64 (asI (T.cell (nth r384 0) 1)), .rf 1 [] 0 none, .b (asB (T.cell (nth r384 0) 3)), .i .i64 x387], .box [.rf 0 [] 0 none, .i .i64 (asI (T.cell (nth r384 0) 1)), .rf 1 [] 0 none, .b (asB (T.cell (nth r384 0) 3)), .i .i64 0]]⟩
theorem f16_0_round (c : Orc) (lf : Nat) (r384 : List T) (L : CSt → Option (List T)) (x386 x387 : Int) :
 roundK c env lf 5 fi44 3 2 [] [1, 2, 12, 13] (x44_2_1) L (f16_0_c r384 x386 x387) = f16_0_s c lf r384 (fun x386 x387 => L (f16_0_c r384 x386 x387)) x386 x387 := by kernel_rfl
def f16_0 (c : Orc) (lf : Nat) (r384 : List T) : Nat → Int → Int → Option (List T)
 | 0 => fun _ _ => none
 | n + 1 => fun x386 x387 => f16_0_s c lf r384 (f16_0 c lf r384 n) x386 x387
theorem f16_0_u (c : Orc) (lf : Nat) (r384 : List T) (n : Nat) (x386 x387 : Int) : f16_0 c lf r384 (n + 1) x386 x387 = f16_0_s c lf r384 (f16_0 c lf r384 n) x386 x387 := rfl
theorem f16_0_eq (c : Orc) (lf : Nat) (r384 : List T) (n : Nat) (x386 x387 : Int) :
 lpK c env lf 5 fi44 3 2 [] [1, 2, 12, 13] (x44_2_1) n (f16_0_c r384 x386 x387) = f16_0 c lf r384 n x386 x387 := by
 induction n generalizing x386 x387 with
 | zero => rfl
 | succ n ih =>
  refine (f16_0_round c lf r384 _ x386 x387).trans ?_
  have e : (fun x386 x387 => lpK c env lf 5 fi44 3 2 [] [1, 2, 12, 13] (x44_2_1) n (f16_0_c r384 x386 x387)) = f16_0 c lf r384 n := by funext x386 x387; exact ih x386 x387
  show f16_0_s c lf r384 (fun x386 x387 => lpK c env lf 5 fi44 3 2 [] [1, 2, 12, 13] (x44_2_1) n (f16_0_c r384 x386 x387)) x386 x387 = _
  rw [e]; rfl
def f16_1_s (c : Orc) (lf : Nat) (r389 r390 : List T) (L : Int → Option (List T)) (x392 : Int) : Option (List T) :=
 bif iLt x392 ((asL (nth r390 0)).length : Int) then
  bif inR x392 ((asL (nth r390 0)).length) then
  (c 47 [T.st [T.sl (asL (nth r389 1)), T.i .i64 (asI (nth r389 3)), T.sl (asL (nth r389 2)), T.b (asB (nth r389 4)), T.i .i64 (asI (nth r389 5))], T.i .i64 (asI ((asL (nth r390 0)).getD x392.toNat T.u))]).bind fun r393 =>
  bif asB (nth r393 1) then
   some [T.i .i64 0, T.i .i64 (asI (nth r389 3)), T.b (asB (nth r389 4)), T.i .i64 (asI (nth r389 5)), T.sl (asL (nth r389 1)), T.sl (asL (nth r389 2)), T.i .i64 (asI (T.cell (nth r393 0) 1)), T.i .i64 (asI (T.cell (nth r393 0) 2)), T.i .i64 (asI (T.cell (nth r393 0) 5)), T.i .i64 (asI (T.cell (nth r393 0) 6)), T.sl (asL (T.cell (nth r393 0) 0)), T.sl (asL (T.cell (nth r393 0) 3)), T.sl (asL (T.cell (nth r393 0) 4))]
  else
   L (IntKind.wrap .i64 (x392 + 1))
  else none
 else
  some [T.i .i64 1, T.i .i64 (asI (nth r389 3)), T.b (asB (nth r389 4)), T.i .i64 (asI (nth r389 5)), T.sl (asL (nth r389 1)), T.sl (asL (nth r389 2)), T.i .i64 0, T.b false, T.i .i64 0, T.sl ([] : List T), T.sl ([] : List T), T.i .i64 0, T.i .i64 0, T.i .i64 0, T.i .i64 0, T.sl ([] : List T), T.sl ([] : List T), T.sl ([] : List T)]
def f16_1_c (r389 r390 : List T) (x392 : Int) : CSt := ⟨[.bp 5 0, .bp 8 0, .bp 11 0, .rf 15 [] 0 none, .i .i64 ((asL (nth r390 0)).length : Int), .i .i64 x392], [.dead, .dead, .dead, .dead, .dead, .box [.rf 6 [] 0 none, .i .i64 (asI (nth r389 3)), .rf 7 [] 0 none, .b (asB (nth r389 4)), .i .i64 (asI (nth r389 5))], .row true [.sl true [.b, .sl false [.i .u8]], .i .i64, .b] (asL (nth r389 1)) 0 false, .row true [.i .i64, .i .i64, .i .i64] (asL (nth r389 2)) 0 false, .box [.rf 9 [] 0 none, .i .i64 0, .rf 10 [] 0 none, .b false, .i .i64 0], .row true [.sl true [.b, .sl false [.i .u8]], .i .i64, .b] ([] : List T) 0 false, .row true [.i .i64, .i .i64, .i .i64] ([] : List T) 0 false, .box [.rf 12 [] 0 none, .i .i64 0, .i .i64 0, .rf 13 [] 0 none, .rf 14 [] 0 none, .i .i64 0, .i .i64 0], .row true [.i .i64, .s, .b, .i .i64, .sl true [.i .i64, .i .i64, .i .i64, .sl false [.i .u8], .sl true [.s, .i .i64], .sl true [.s, .s]], .i .i64] ([] : List T) 0 false, .row true [.i .i64, .s, .b, .i .i64, .i .i64] ([] : List T) 0 false, .row true [.i .i64, .sl true [.i .i64, .i .i64]] ([] : List T) 0 false, .row false [.i .i64] (asL (nth r390 0)) 0 false]⟩
theorem f16_1_round (c : Orc) (lf : Nat) (r389 r390 : List T) (L : CSt → Option (List T)) (x392 : Int) :
 roundK c env lf 6 fi16 5 4 [] [1, 2, 3, 16, 17, 18] (x16_4_0) L (f16_1_c r389 r390 x392) = f16_1_s c lf r389 r390 (fun x392 => L (f16_1_c r389 r390 x392)) x392 := by kernel_rfl
def f16_1 (c : Orc) (lf : Nat) (r389 r390 : List T) : Nat → Int → Option (List T)
 | 0 => fun _ => none
 | n + 1 => fun x392 => f16_1_s c lf r389 r390 (f16_1 c lf r389 r390 n) x392
theorem f16_1_u (c : Orc) (lf : Nat) (r389 r390 : List T) (n : Nat) (x392 : Int) : f16_1 c lf r389 r390 (n + 1) x392 = f16_1_s c lf r389 r390 (f16_1 c lf r389 r390 n) x392 := rfl
theorem f16_1_eq (c : Orc) (lf : Nat) (r389 r390 : List T) (n : Nat) (x392 : Int) :
 lpK c env lf 6 fi16 5 4 [] [1, 2, 3, 16, 17, 18] (x16_4_0) n (f16_1_c r389 r390 x392) = f16_1 c lf r389 r390 n x392 := by
 induction n generalizing x392 with
 | zero => rfl
 | succ n ih =>
  refine (f16_1_round c lf r389 r390 _ x392).trans ?_
  have e : (fun x392 => lpK c env lf 6 fi16 5 4 [] [1, 2, 3, 16, 17, 18] (x16_4_0) n (f16_1_c r389 r390 x392)) = f16_1 c lf r389 r390 n := by funext x392; exact ih x392
  show f16_1_s c lf r389 r390 (fun x392 => lpK c env lf 6 fi16 5 4 [] [1, 2, 3, 16, 17, 18] (x16_4_0) n (f16_1_c r389 r390 x392)) x392 = _
  rw [e]; rfl
def f16_t (c : Orc) (lf : Nat) (lp0 : List T → Int → Int → Option (List T)) (lp1 : List T → List T → Int → Option (List T)) (l0_0 : List T) (n0_1 : Int) (l0_2 : List T) (b0_3 : Bool) (n0_4 : Int) : Option (List T) :=
 (c 43 [T.st [T.sl l0_0, T.i .i64 n0_1, T.sl l0_2, T.b b0_3]]).bind fun r384 =>
 (lp0 r384 0 0).bind fun r389 =>
 (c 46 [T.st [T.sl (asL (nth r389 1)), T.i .i64 (asI (nth r389 3)), T.sl (asL (nth r389 2)), T.b (asB (nth r389 4)), T.i .i64 (asI (nth r389 5))]]).bind fun r390 =>
 (lp1 r389 r390 0).bind fun r394 =>
 bif asI (nth r394 0) == 0 then
  some [T.st [T.sl (asL (nth r394 4)), T.i .i64 (asI (nth r394 1)), T.sl (asL (nth r394 5)), T.b (asB (nth r394 2)), T.i .i64 (asI (nth r394 3))], T.st [T.sl (asL (nth r394 10)), T.i .i64 (asI (nth r394 6)), T.i .i64 (asI (nth r394 7)), T.sl (asL (nth r394 11)), T.sl (asL (nth r394 12)), T.i .i64 (asI (nth r394 8)), T.i .i64 (asI (nth r394 9))]]
 else
  (c 28 []).bind fun r395 =>
  some [T.st [T.sl (asL (nth r394 4)), T.i .i64 (asI (nth r394 1)), T.sl (asL (nth r394 5)), T.b (asB (nth r394 2)), T.i .i64 (asI (nth r394 3))], T.st [T.sl (asL (T.cell (nth r395 0) 0)), T.i .i64 (asI (T.cell (nth r395 0) 1)), T.i .i64 (asI (T.cell (nth r395 0) 2)), T.sl (asL (T.cell (nth r395 0) 3)), T.sl (asL (T.cell (nth r395 0) 4)), T.i .i64 (asI (T.cell (nth r395 0) 5)), T.i .i64 (asI (T.cell (nth r395 0) 6))]]
def f16 (c : Orc) (lf : Nat) (l0_0 : List T) (n0_1 : Int) (l0_2 : List T) (b0_3 : Bool) (n0_4 : Int) : Option (List T) := f16_t c lf (fun (r384 : List T) (x386 x387 : Int) => f16_0 c lf r384 lf x386 x387) (fun (r389 r390 : List T) (x392 : Int) => f16_1 c lf r389 r390 lf x392) l0_0 n0_1 l0_2 b0_3 n0_4
theorem f16_raw (c : Orc) (lf : Nat) (l0_0 : List T) (n0_1 : Int) (l0_2 : List T) (b0_3 : Bool) (n0_4 : Int) : funK c env lf 6 fi16 [.st [.sl l0_0, .i .i64 n0_1, .sl l0_2, .b b0_3, .i .i64 n0_4]] = f16_t c lf (fun (r384 : List T) (x386 x387 : Int) => lpK c env lf 5 fi44 3 2 [] [1, 2, 12, 13] (x44_2_1) lf (f16_0_c r384 x386 x387)) (fun (r389 r390 : List T) (x392 : Int) => lpK c env lf 6 fi16 5 4 [] [1, 2, 3, 16, 17, 18] (x16_4_0) lf (f16_1_c r389 r390 x392)) l0_0 n0_1 l0_2 b0_3 n0_4 := by kernel_rfl
theorem f16_eq (c : Orc) (lf : Nat) (l0_0 : List T) (n0_1 : Int) (l0_2 : List T) (b0_3 : Bool) (n0_4 : Int) : funK c env lf 6 fi16 [.st [.sl l0_0, .i .i64 n0_1, .sl l0_2, .b b0_3, .i .i64 n0_4]] = f16 c lf l0_0 n0_1 l0_2 b0_3 n0_4 := by
 refine (f16_raw c lf l0_0 n0_1 l0_2 b0_3 n0_4).trans ?_
 have e0 : (fun (r384 : List T) (x386 x387 : Int) => lpK c env lf 5 fi44 3 2 [] [1, 2, 12, 13] (x44_2_1) lf (f16_0_c r384 x386 x387)) = (fun (r384 : List T) (x386 x387 : Int) => f16_0 c lf r384 lf x386 x387) := by funext r384 x386 x387; exact f16_0_eq c lf r384 lf x386 x387
 have e1 : (fun (r389 r390 : List T) (x392 : Int) => lpK c env lf 6 fi16 5 4 [] [1, 2, 3, 16, 17, 18] (x16_4_0) lf (f16_1_c r389 r390 x392)) = (fun (r389 r390 : List T) (x392 : Int) => f16_1 c lf r389 r390 lf x392) := by funext r389 r390 x392; exact f16_1_eq c lf r389 r390 lf x392
 rw [e0, e1]; rfl
def f19_t (c : Orc) (lf : Nat) (l0 : List T) (n1 : Int) : Option (List T) :=
 bif iLt n1 (l0.length : Int) then
  bif inR n1 l0.length then
  some [T.i .i64 (IntKind.wrap .i64 (asI (l0.getD n1.toNat T.u)))]
  else none
 else
  some [T.i .i64 ((IntKind.wrap .i64 ((IntKind.wrap .i64 (n1 * 31)) + (IntKind.wrap .i64 ((l0.length : Int) * 7)))).tmod 256)]
def f19 (c : Orc) (lf : Nat) (l0 : List T) (n1 : Int) : Option (List T) := f19_t c lf l0 n1
theorem f19_eq (c : Orc) (lf : Nat) (l0 : List T) (n1 : Int) : funK c env lf 6 fi19 [.sl l0, .i .i64 n1] = f19 c lf l0 n1 := by kernel_rfl
def f18_0_s (c : Orc) (lf : Nat) (L : Int → List T → Option (List T)) (x401 : Int) (x402 : List T) : Option (List T) :=
 bif iLe 128 x401 then
  bif nLe (x402.length + ([T.i .u8 (IntKind.wrap .u8 (IntKind.wrap .i64 ((x401.tmod 128) + 128)))] : List T).length) LIM then
  L (IntKind.wrap .i64 (x401.tdiv 128)) (x402 ++ ([T.i .u8 (IntKind.wrap .u8 (IntKind.wrap .i64 ((x401.tmod 128) + 128)))] : List T))
  else none
 else
  some [T.i .i64 0, T.i .i64 x401, T.sl x402]
def f18_0_c (x401 : Int) (x402 : List T) : CSt := ⟨[.i .i64 x401, .rf 2 [] 0 none], [.dead, .dead, .row false [.i .u8] x402 0 false]⟩
theorem f18_0_round (c : Orc) (lf : Nat) (L : CSt → Option (List T)) (x401 : Int) (x402 : List T) :
 roundK c env lf 6 fi18 2 3 [] [1, 5] (x18_3_0) L (f18_0_c x401 x402) = f18_0_s c lf (fun x401 x402 => L (f18_0_c x401 x402)) x401 x402 := by kernel_rfl
def f18_0 (c : Orc) (lf : Nat) : Nat → Int → List T → Option (List T)
 | 0 => fun _ _ => none
 | n + 1 => fun x401 x402 => f18_0_s c lf (f18_0 c lf n) x401 x402
theorem f18_0_u (c : Orc) (lf n : Nat) (x401 : Int) (x402 : List T) : f18_0 c lf (n + 1) x401 x402 = f18_0_s c lf (f18_0 c lf n) x401 x402 := rfl
theorem f18_0_eq (c : Orc) (lf n : Nat) (x401 : Int) (x402 : List T) :
 lpK c env lf 6 fi18 2 3 [] [1, 5] (x18_3_0) n (f18_0_c x401 x402) = f18_0 c lf n x401 x402 := by
 induction n generalizing x401 x402 with
 | zero => rfl
 | succ n ih =>
  refine (f18_0_round c lf _ x401 x402).trans ?_
  have e : (fun x401 x402 => lpK c env lf 6 fi18 2 3 [] [1, 5] (x18_3_0) n (f18_0_c x401 x402)) = f18_0 c lf n := by funext x401 x402; exact ih x401 x402
  show f18_0_s c lf (fun x401 x402 => lpK c env lf 6 fi18 2 3 [] [1, 5] (x18_3_0) n (f18_0_c x401 x402)) x401 x402 = _
  rw [e]; rfl
def f18_t (c : Orc) (lf : Nat) (lp0 : Int → List T → Option (List T)) (l0 : List T) (n1 : Int) : Option (List T) :=
 (c 54 [T.sl l0]).bind fun r400 =>
 (lp0 (imax 0 (imin n1 1000000)) (asL (nth r400 0))).bind fun r403 =>
 bif nLe ((asL (nth r403 2)).length + ([T.i .u8 (IntKind.wrap .u8 (asI (nth r403 1)))] : List T).length) LIM then
 some [T.sl ((asL (nth r403 2)) ++ ([T.i .u8 (IntKind.wrap .u8 (asI (nth r403 1)))] : List T))]
 else none
def f18 (c : Orc) (lf : Nat) (l0 : List T) (n1 : Int) : Option (List T) := f18_t c lf (fun (x401 : Int) (x402 : List T) => f18_0 c lf lf x401 x402) l0 n1
theorem f18_raw (c : Orc) (lf : Nat) (l0 : List T) (n1 : Int) : funK c env lf 6 fi18 [.sl l0, .i .i64 n1] = f18_t c lf (fun (x401 : Int) (x402 : List T) => lpK c env lf 6 fi18 2 3 [] [1, 5] (x18_3_0) lf (f18_0_c x401 x402)) l0 n1 := by kernel_rfl
theorem f18_eq (c : Orc) (lf : Nat) (l0 : List T) (n1 : Int) : funK c env lf 6 fi18 [.sl l0, .i .i64 n1] = f18 c lf l0 n1 := by
 refine (f18_raw c lf l0 n1).trans ?_
 have e0 : (fun (x401 : Int) (x402 : List T) => lpK c env lf 6 fi18 2 3 [] [1, 5] (x18_3_0) lf (f18_0_c x401 x402)) = (fun (x401 : Int) (x402 : List T) => f18_0 c lf lf x401 x402) := by funext x401 x402; exact f18_0_eq c lf lf x401 x402
 rw [e0]; rfl
def f48_t (c : Orc) (lf : Nat) (l0_0 : List T) (n0_1 : Int) (l0_2 : List T) (b0_3 : Bool) (n0_4 : Int) : Option (List T) :=
 (c 84 [T.st [T.sl l0_0, T.i .i64 n0_1, T.sl l0_2, T.b b0_3]]).bind fun r404 =>
 some [T.st [T.sl (asL (T.cell (nth r404 0) 0)), T.i .i64 (asI (T.cell (nth r404 0) 1)), T.sl (asL (T.cell (nth r404 0) 2)), T.b (asB (T.cell (nth r404 0) 3)), T.i .i64 n0_4]]
def f48 (c : Orc) (lf : Nat) (l0_0 : List T) (n0_1 : Int) (l0_2 : List T) (b0_3 : Bool) (n0_4 : Int) : Option (List T) := f48_t c lf l0_0 n0_1 l0_2 b0_3 n0_4
theorem f48_eq (c : Orc) (lf : Nat) (l0_0 : List T) (n0_1 : Int) (l0_2 : List T) (b0_3 : Bool) (n0_4 : Int) : funK c env lf 6 fi48 [.st [.sl l0_0, .i .i64 n0_1, .sl l0_2, .b b0_3, .i .i64 n0_4]] = f48 c lf l0_0 n0_1 l0_2 b0_3 n0_4 := by kernel_rfl
def f51_0_s (c : Orc) (lf : Nat) (l0_0 : List T) (n1 : Int) (L : Int → Int → Option (List T)) (x410 x411 : Int) : Option (List T) :=
 bif iLt x411 ((asL (T.cell (l0_0.getD n1.toNat T.u) 0)).length : Int) then
  bif inR x411 ((asL (T.cell (l0_0.getD n1.toNat T.u) 0)).length) then
  bif asB (T.cell ((asL (T.cell (l0_0.getD n1.toNat T.u) 0)).getD x411.toNat T.u) 0) then
   L (IntKind.wrap .i64 (x410 + 1)) (IntKind.wrap .i64 (x411 + 1))
  else
   L x410 (IntKind.wrap .i64 (x411 + 1))
  else none
 else
  some [T.i .i64 0, T.i .i64 x410]
def f51_0_c (l0_0 : List T) (n1 x410 x411 : Int) : CSt := ⟨[.i .i64 x410, .ro 0 true [.b, .sl false [.i .u8]] (asL (T.cell (l0_0.getD n1.toNat T.u) 0)), .i .i64 ((asL (T.cell (l0_0.getD n1.toNat T.u) 0)).length : Int), .i .i64 x411], [.dead, .dead]⟩
theorem f51_0_round (c : Orc) (lf : Nat) (l0_0 : List T) (n1 : Int) (L : CSt → Option (List T)) (x410 x411 : Int) :
 roundK c env lf 6 fi51 2 5 [] [5, 17, 18, 19] (x51_5_0) L (f51_0_c l0_0 n1 x410 x411) = f51_0_s c lf l0_0 n1 (fun x410 x411 => L (f51_0_c l0_0 n1 x410 x411)) x410 x411 := by kernel_rfl
def f51_0 (c : Orc) (lf : Nat) (l0_0 : List T) (n1 : Int) : Nat → Int → Int → Option (List T)
 | 0 => fun _ _ => none
 | n + 1 => fun x410 x411 => f51_0_s c lf l0_0 n1 (f51_0 c lf l0_0 n1 n) x410 x411
theorem f51_0_u (c : Orc) (lf : Nat) (l0_0 : List T) (n1 : Int) (n : Nat) (x410 x411 : Int) : f51_0 c lf l0_0 n1 (n + 1) x410 x411 = f51_0_s c lf l0_0 n1 (f51_0 c lf l0_0 n1 n) x410 x411 := rfl
theorem f51_0_eq (c : Orc) (lf : Nat) (l0_0 : List T) (n1 : Int) (n : Nat) (x410 x411 : Int) :
 lpK c env lf 6 fi51 2 5 [] [5, 17, 18, 19] (x51_5_0) n (f51_0_c l0_0 n1 x410 x411) = f51_0 c lf l0_0 n1 n x410 x411 := by
 induction n generalizing x410 x411 with
 | zero => rfl
 | succ n ih =>
  refine (f51_0_round c lf l0_0 n1 _ x410 x411).trans ?_
  have e : (fun x410 x411 => lpK c env lf 6 fi51 2 5 [] [5, 17, 18, 19] (x51_5_0) n (f51_0_c l0_0 n1 x410 x411)) = f51_0 c lf l0_0 n1 n := by funext x410 x411; exact ih x410 x411
  show f51_0_s c lf l0_0 n1 (fun x410 x411 => lpK c env lf 6 fi51 2 5 [] [5, 17, 18, 19] (x51_5_0) n (f51_0_c l0_0 n1 x410 x411)) x410 x411 = _
  rw [e]; rfl
def f51_t (c : Orc) (lf : Nat) (lp0 : List T → Int → Int → Int → Option (List T)) (l0_0 : List T) (n1 : Int) : Option (List T) :=
 (c 95 [T.st [T.sl l0_0], T.i .i64 n1]).bind fun r409 =>
 bif !(asB (nth r409 0)) then
  some [T.i .i64 (-1)]
 else
  bif inR n1 l0_0.length then
  (lp0 l0_0 n1 0 0).bind fun r412 =>
  some [T.i .i64 (asI (nth r412 1))]
  else none
def f51 (c : Orc) (lf : Nat) (l0_0 : List T) (n1 : Int) : Option (List T) := f51_t c lf (fun (l0_0 : List T) (n1 x410 x411 : Int) => f51_0 c lf l0_0 n1 lf x410 x411) l0_0 n1
theorem f51_raw (c : Orc) (lf : Nat) (l0_0 : List T) (n1 : Int) : funK c env lf 6 fi51 [.st [.sl l0_0], .i .i64 n1] = f51_t c lf (fun (l0_0 : List T) (n1 x410 x411 : Int) => lpK c env lf 6 fi51 2 5 [] [5, 17, 18, 19] (x51_5_0) lf (f51_0_c l0_0 n1 x410 x411)) l0_0 n1 := by kernel_rfl
theorem f51_eq (c : Orc) (lf : Nat) (l0_0 : List T) (n1 : Int) : funK c env lf 6 fi51 [.st [.sl l0_0], .i .i64 n1] = f51 c lf l0_0 n1 := by
 refine (f51_raw c lf l0_0 n1).trans ?_
 have e0 : (fun (l0_0 : List T) (n1 x410 x411 : Int) => lpK c env lf 6 fi51 2 5 [] [5, 17, 18, 19] (x51_5_0) lf (f51_0_c l0_0 n1 x410 x411)) = (fun (l0_0 : List T) (n1 x410 x411 : Int) => f51_0 c lf l0_0 n1 lf x410 x411) := by funext l0_0 n1 x410 x411; exact f51_0_eq c lf l0_0 n1 lf x410 x411
 rw [e0]; rfl
def f94_0_s (c : Orc) (lf : Nat) (b0_3 : Bool) (l0_0 l0_2 : List T) (n0_1 n0_4 : Int) (L : Int → Int → Option (List T)) (x419 x420 : Int) : Option (List T) :=
 bif iLt x420 (l0_0.length : Int) then
  bif inR x420 l0_0.length then
  bif !(asB (T.cell (l0_0.getD x420.toNat T.u) 2)) then
   (c 51 [T.st [T.sl l0_0], T.i .i64 x420]).bind fun r421 =>
   bif (asI (nth r421 0)) == 0 then
    L (IntKind.wrap .i64 (x419 + 1)) (IntKind.wrap .i64 (x420 + 1))
   else
    L x419 (IntKind.wrap .i64 (x420 + 1))
  else
   L x419 (IntKind.wrap .i64 (x420 + 1))
  else none
 else
  some [T.i .i64 0, T.i .i64 x419]
def f94_0_c (b0_3 : Bool) (l0_0 l0_2 : List T) (n0_1 n0_4 : Int) (x419 x420 : Int) : CSt := ⟨[.bp 5 0, .i .i64 x419, .ro 0 true [.sl true [.b, .sl false [.i .u8]], .i .i64, .b] l0_0, .i .i64 (l0_0.length : Int), .i .i64 x420], [.dead, .dead, .dead, .dead, .dead, .box [.ro 0 true [.sl true [.b, .sl false [.i .u8]], .i .i64, .b] l0_0, .i .i64 n0_1, .ro 0 true [.i .i64, .i .i64, .i .i64] l0_2, .b b0_3, .i .i64 n0_4]]⟩
theorem f94_0_round (c : Orc) (lf : Nat) (b0_3 : Bool) (l0_0 l0_2 : List T) (n0_1 n0_4 : Int) (L : CSt → Option (List T)) (x419 x420 : Int) :
 roundK c env lf 6 fi94 5 3 [] [1, 3, 9, 10, 11] (x94_3_0) L (f94_0_c b0_3 l0_0 l0_2 n0_1 n0_4 x419 x420) = f94_0_s c lf b0_3 l0_0 l0_2 n0_1 n0_4 (fun x419 x420 => L (f94_0_c b0_3 l0_0 l0_2 n0_1 n0_4 x419 x420)) x419 x420 := by kernel_rfl
def f94_0 (c : Orc) (lf : Nat) (b0_3 : Bool) (l0_0 l0_2 : List T) (n0_1 n0_4 : Int) : Nat → Int → Int → Option (List T)
 | 0 => fun _ _ => none
 | n + 1 => fun x419 x420 => f94_0_s c lf b0_3 l0_0 l0_2 n0_1 n0_4 (f94_0 c lf b0_3 l0_0 l0_2 n0_1 n0_4 n) x419 x420
theorem f94_0_u (c : Orc) (lf : Nat) (b0_3 : Bool) (l0_0 l0_2 : List T) (n0_1 n0_4 : Int) (n : Nat) (x419 x420 : Int) : f94_0 c lf b0_3 l0_0 l0_2 n0_1 n0_4 (n + 1) x419 x420 = f94_0_s c lf b0_3 l0_0 l0_2 n0_1 n0_4 (f94_0 c lf b0_3 l0_0 l0_2 n0_1 n0_4 n) x419 x420 := rfl
theorem f94_0_eq (c : Orc) (lf : Nat) (b0_3 : Bool) (l0_0 l0_2 : List T) (n0_1 n0_4 : Int) (n : Nat) (x419 x420 : Int) :
 lpK c env lf 6 fi94 5 3 [] [1, 3, 9, 10, 11] (x94_3_0) n (f94_0_c b0_3 l0_0 l0_2 n0_1 n0_4 x419 x420) = f94_0 c lf b0_3 l0_0 l0_2 n0_1 n0_4 n x419 x420 := by
 induction n generalizing x419 x420 with
 | zero => rfl
 | succ n ih =>
  refine (f94_0_round c lf b0_3 l0_0 l0_2 n0_1 n0_4 _ x419 x420).trans ?_
  have e : (fun x419 x420 => lpK c env lf 6 fi94 5 3 [] [1, 3, 9, 10, 11] (x94_3_0) n (f94_0_c b0_3 l0_0 l0_2 n0_1 n0_4 x419 x420)) = f94_0 c lf b0_3 l0_0 l0_2 n0_1 n0_4 n := by funext x419 x420; exact ih x419 x420
  show f94_0_s c lf b0_3 l0_0 l0_2 n0_1 n0_4 (fun x419 x420 => lpK c env lf 6 fi94 5 3 [] [1, 3, 9, 10, 11] (x94_3_0) n (f94_0_c b0_3 l0_0 l0_2 n0_1 n0_4 x419 x420)) x419 x420 = _
  rw [e]; rfl
def f94_t (c : Orc) (lf : Nat) (lp0 : Bool → List T → List T → Int → Int → Int → Int → Option (List T)) (l0_0 : List T) (n0_1 : Int) (l0_2 : List T) (b0_3 : Bool) (n0_4 : Int) : Option (List T) :=
 (lp0 b0_3 l0_0 l0_2 n0_1 n0_4 0 0).bind fun r422 =>
 some [T.i .i64 (asI (nth r422 1))]
def f94 (c : Orc) (lf : Nat) (l0_0 : List T) (n0_1 : Int) (l0_2 : List T) (b0_3 : Bool) (n0_4 : Int) : Option (List T) := f94_t c lf (fun (b0_3 : Bool) (l0_0 l0_2 : List T) (n0_1 n0_4 : Int) (x419 x420 : Int) => f94_0 c lf b0_3 l0_0 l0_2 n0_1 n0_4 lf x419 x420) l0_0 n0_1 l0_2 b0_3 n0_4
theorem f94_raw (c : Orc) (lf : Nat) (l0_0 : List T) (n0_1 : Int) (l0_2 : List T) (b0_3 : Bool) (n0_4 : Int) : funK c env lf 6 fi94 [.st [.sl l0_0, .i .i64 n0_1, .sl l0_2, .b b0_3, .i .i64 n0_4]] = f94_t c lf (fun (b0_3 : Bool) (l0_0 l0_2 : List T) (n0_1 n0_4 : Int) (x419 x420 : Int) => lpK c env lf 6 fi94 5 3 [] [1, 3, 9, 10, 11] (x94_3_0) lf (f94_0_c b0_3 l0_0 l0_2 n0_1 n0_4 x419 x420)) l0_0 n0_1 l0_2 b0_3 n0_4 := by kernel_rfl
theorem f94_eq (c : Orc) (lf : Nat) (l0_0 : List T) (n0_1 : Int) (l0_2 : List T) (b0_3 : Bool) (n0_4 : Int) : funK c env lf 6 fi94 [.st [.sl l0_0, .i .i64 n0_1, .sl l0_2, .b b0_3, .i .i64 n0_4]] = f94 c lf l0_0 n0_1 l0_2 b0_3 n0_4 := by
 refine (f94_raw c lf l0_0 n0_1 l0_2 b0_3 n0_4).trans ?_
 have e0 : (fun (b0_3 : Bool) (l0_0 l0_2 : List T) (n0_1 n0_4 : Int) (x419 x420 : Int) => lpK c env lf 6 fi94 5 3 [] [1, 3, 9, 10, 11] (x94_3_0) lf (f94_0_c b0_3 l0_0 l0_2 n0_1 n0_4 x419 x420)) = (fun (b0_3 : Bool) (l0_0 l0_2 : List T) (n0_1 n0_4 : Int) (x419 x420 : Int) => f94_0 c lf b0_3 l0_0 l0_2 n0_1 n0_4 lf x419 x420) := by funext b0_3 l0_0 l0_2 n0_1 n0_4 x419 x420; exact f94_0_eq c lf b0_3 l0_0 l0_2 n0_1 n0_4 lf x419 x420
 rw [e0]; rfl
def f50_0_s (c : Orc) (lf : Nat) (b0_3 : Bool) (l0_0 l0_2 : List T) (n1 n0_1 n0_4 : Int) (L : Int → Int → Option (List T)) (x431 x430 : Int) : Option (List T) :=
 bif iLt x430 (l0_0.length : Int) then
  bif inR x430 l0_0.length then
  (c 51 [T.st [T.sl l0_0], T.i .i64 x430]).bind fun r432 =>
  bif asB (T.cell (l0_0.getD x430.toNat T.u) 2) then
   L x431 (IntKind.wrap .i64 (x430 + 1))
  else
   bif iLt 0 (asI (nth r432 0)) then
    bif iLt (asI (nth r432 0)) ((asL (T.cell (l0_0.getD x430.toNat T.u) 0)).length : Int) then
     some [T.i .i64 0, T.i .i64 x430]
    else
     bif (asI (nth r432 0)) == 0 then
      bif iLt x431 0 then
       L x430 (IntKind.wrap .i64 (x430 + 1))
      else
       L x431 (IntKind.wrap .i64 (x430 + 1))
     else
      L x431 (IntKind.wrap .i64 (x430 + 1))
   else
    bif (asI (nth r432 0)) == 0 then
     bif iLt x431 0 then
      L x430 (IntKind.wrap .i64 (x430 + 1))
     else
      L x431 (IntKind.wrap .i64 (x430 + 1))
    else
     L x431 (IntKind.wrap .i64 (x430 + 1))
  else none
 else
  some [T.i .i64 1, T.i .i64 n1, T.i .i64 x431, T.sl l0_0, T.i .i64 n0_1, T.sl l0_2, T.b b0_3, T.i .i64 n0_4]
def f50_0_c (b0_3 : Bool) (l0_0 l0_2 : List T) (n1 n0_1 : Int) (n0_4 x431 x430 : Int) : CSt := ⟨[.i .i64 n1, .bp 6 0, .i .i64 x431, .ro 0 true [.sl true [.b, .sl false [.i .u8]], .i .i64, .b] l0_0, .i .i64 (l0_0.length : Int), .i .i64 x430], [.dead, .dead, .dead, .dead, .dead, .dead, .box [.ro 0 true [.sl true [.b, .sl false [.i .u8]], .i .i64, .b] l0_0, .i .i64 n0_1, .ro 0 true [.i .i64, .i .i64, .i .i64] l0_2, .b b0_3, .i .i64 n0_4]]⟩
theorem f50_0_round (c : Orc) (lf : Nat) (b0_3 : Bool) (l0_0 l0_2 : List T) (n1 n0_1 n0_4 : Int) (L : CSt → Option (List T)) (x431 x430 : Int) :
 roundK c env lf 6 fi50 6 3 [] [1, 2, 5, 12, 13, 14] (x50_3_0) L (f50_0_c b0_3 l0_0 l0_2 n1 n0_1 n0_4 x431 x430) = f50_0_s c lf b0_3 l0_0 l0_2 n1 n0_1 n0_4 (fun x431 x430 => L (f50_0_c b0_3 l0_0 l0_2 n1 n0_1 n0_4 x431 x430)) x431 x430 := by kernel_rfl
def f50_0 (c : Orc) (lf : Nat) (b0_3 : Bool) (l0_0 l0_2 : List T) (n1 n0_1 n0_4 : Int) : Nat → Int → Int → Option (List T)
 | 0 => fun _ _ => none
 | n + 1 => fun x431 x430 => f50_0_s c lf b0_3 l0_0 l0_2 n1 n0_1 n0_4 (f50_0 c lf b0_3 l0_0 l0_2 n1 n0_1 n0_4 n) x431 x430
theorem f50_0_u (c : Orc) (lf : Nat) (b0_3 : Bool) (l0_0 l0_2 : List T) (n1 n0_1 n0_4 : Int) (n : Nat) (x431 x430 : Int) : f50_0 c lf b0_3 l0_0 l0_2 n1 n0_1 n0_4 (n + 1) x431 x430 = f50_0_s c lf b0_3 l0_0 l0_2 n1 n0_1 n0_4 (f50_0 c lf b0_3 l0_0 l0_2 n1 n0_1 n0_4 n) x431 x430 := rfl
theorem f50_0_eq (c : Orc) (lf : Nat) (b0_3 : Bool) (l0_0 l0_2 : List T) (n1 n0_1 n0_4 : Int) (n : Nat) (x431 x430 : Int) :
 lpK c env lf 6 fi50 6 3 [] [1, 2, 5, 12, 13, 14] (x50_3_0) n (f50_0_c b0_3 l0_0 l0_2 n1 n0_1 n0_4 x431 x430) = f50_0 c lf b0_3 l0_0 l0_2 n1 n0_1 n0_4 n x431 x430 := by
 induction n generalizing x431 x430 with
 | zero => rfl
 | succ n ih =>
  refine (f50_0_round c lf b0_3 l0_0 l0_2 n1 n0_1 n0_4 _ x431 x430).trans ?_
  have e : (fun x431 x430 => lpK c env lf 6 fi50 6 3 [] [1, 2, 5, 12, 13, 14] (x50_3_0) n (f50_0_c b0_3 l0_0 l0_2 n1 n0_1 n0_4 x431 x430)) = f50_0 c lf b0_3 l0_0 l0_2 n1 n0_1 n0_4 n := by funext x431 x430; exact ih x431 x430
  show f50_0_s c lf b0_3 l0_0 l0_2 n1 n0_1 n0_4 (fun x431 x430 => lpK c env lf 6 fi50 6 3 [] [1, 2, 5, 12, 13, 14] (x50_3_0) n (f50_0_c b0_3 l0_0 l0_2 n1 n0_1 n0_4 x431 x430)) x431 x430 = _
  rw [e]; rfl
def f50_t (c : Orc) (lf : Nat) (lp0 : Bool → List T → List T → Int → Int → Int → Int → Int → Option (List T)) (l0_0 : List T) (n0_1 : Int) (l0_2 : List T) (b0_3 : Bool) (n0_4 n1 : Int) : Option (List T) :=
 (lp0 b0_3 l0_0 l0_2 n1 n0_1 n0_4 (-1) 0).bind fun r433 =>
 bif asI (nth r433 0) == 0 then
  some [T.i .i64 (asI (nth r433 1))]
 else
  (c 94 [T.st [T.sl (asL (nth r433 3)), T.i .i64 (asI (nth r433 4)), T.sl (asL (nth r433 5)), T.b (asB (nth r433 6)), T.i .i64 (asI (nth r433 7))]]).bind fun r434 =>
  bif iLt (asI (nth r433 1)) (asI (nth r434 0)) then
   some [T.i .i64 (asI (nth r433 2))]
  else
   some [T.i .i64 (-1)]
def f50 (c : Orc) (lf : Nat) (l0_0 : List T) (n0_1 : Int) (l0_2 : List T) (b0_3 : Bool) (n0_4 n1 : Int) : Option (List T) := f50_t c lf (fun (b0_3 : Bool) (l0_0 l0_2 : List T) (n1 n0_1 : Int) (n0_4 x431 x430 : Int) => f50_0 c lf b0_3 l0_0 l0_2 n1 n0_1 n0_4 lf x431 x430) l0_0 n0_1 l0_2 b0_3 n0_4 n1
theorem f50_raw (c : Orc) (lf : Nat) (l0_0 : List T) (n0_1 : Int) (l0_2 : List T) (b0_3 : Bool) (n0_4 n1 : Int) : funK c env lf 6 fi50 [.st [.sl l0_0, .i .i64 n0_1, .sl l0_2, .b b0_3, .i .i64 n0_4], .i .i64 n1] = f50_t c lf (fun (b0_3 : Bool) (l0_0 l0_2 : List T) (n1 n0_1 : Int) (n0_4 x431 x430 : Int) => lpK c env lf 6 fi50 6 3 [] [1, 2, 5, 12, 13, 14] (x50_3_0) lf (f50_0_c b0_3 l0_0 l0_2 n1 n0_1 n0_4 x431 x430)) l0_0 n0_1 l0_2 b0_3 n0_4 n1 := by kernel_rfl
theorem f50_eq (c : Orc) (lf : Nat) (l0_0 : List T) (n0_1 : Int) (l0_2 : List T) (b0_3 : Bool) (n0_4 n1 : Int) : funK c env lf 6 fi50 [.st [.sl l0_0, .i .i64 n0_1, .sl l0_2, .b b0_3, .i .i64 n0_4], .i .i64 n1] = f50 c lf l0_0 n0_1 l0_2 b0_3 n0_4 n1 := by
 refine (f50_raw c lf l0_0 n0_1 l0_2 b0_3 n0_4 n1).trans ?_
 have e0 : (fun (b0_3 : Bool) (l0_0 l0_2 : List T) (n1 n0_1 : Int) (n0_4 x431 x430 : Int) => lpK c env lf 6 fi50 6 3 [] [1, 2, 5, 12, 13, 14] (x50_3_0) lf (f50_0_c b0_3 l0_0 l0_2 n1 n0_1 n0_4 x431 x430)) = (fun (b0_3 : Bool) (l0_0 l0_2 : List T) (n1 n0_1 : Int) (n0_4 x431 x430 : Int) => f50_0 c lf b0_3 l0_0 l0_2 n1 n0_1 n0_4 lf x431 x430) := by funext b0_3 l0_0 l0_2 n1 n0_1 n0_4 x431 x430; exact f50_0_eq c lf b0_3 l0_0 l0_2 n1 n0_1 n0_4 lf x431 x430
 rw [e0]; rfl
def f100_t (c : Orc) (lf : Nat) (l0 : List T) (s1 : ByteArray) : Option (List T) :=
 (c 18 [T.sl l0, T.i .i64 (s1.size : Int)]).bind fun r435 =>
 bif nLe ((asL (nth r435 0)).length + (listOf s1).length) LIM then
 some [T.sl ((asL (nth r435 0)) ++ (listOf s1))]
 else none
def f100 (c : Orc) (lf : Nat) (l0 : List T) (s1 : ByteArray) : Option (List T) := f100_t c lf l0 s1
theorem f100_eq (c : Orc) (lf : Nat) (l0 : List T) (s1 : ByteArray) : funK c env lf 6 fi100 [.sl l0, .s s1] = f100 c lf l0 s1 := by kernel_rfl
def f53_t (c : Orc) (lf : Nat) (n0_0 n0_1 : Int) (l0_2 : List T) : Option (List T) :=
 (c 49 [T.st [T.i .i64 n0_0, T.i .i64 n0_1, T.sl l0_2]]).bind fun r436 =>
 bif !(asB (nth r436 0)) then
  some [T.sl []]
 else
  (c 18 [T.sl ([] : List T), T.i .i64 n0_0]).bind fun r437 =>
  (c 18 [T.sl (asL (nth r437 0)), T.i .i64 n0_1]).bind fun r438 =>
  (c 100 [T.sl (asL (nth r438 0)), T.s (bytesOf l0_2)]).bind fun r439 =>
  (c 99 [T.sl (asL (nth r439 0))]).bind fun r440 =>
  some [T.sl (asL (nth r440 0))]
def f53 (c : Orc) (lf : Nat) (n0_0 n0_1 : Int) (l0_2 : List T) : Option (List T) := f53_t c lf n0_0 n0_1 l0_2
theorem f53_eq (c : Orc) (lf : Nat) (n0_0 n0_1 : Int) (l0_2 : List T) : funK c env lf 6 fi53 [.st [.i .i64 n0_0, .i .i64 n0_1, .sl l0_2]] = f53 c lf n0_0 n0_1 l0_2 := by kernel_rfl
def f96_t (c : Orc) (lf : Nat) (l0_0 : List T) (n1 : Int) (l2 : List T) : Option (List T) :=
 (c 143 [T.st [T.sl l0_0]]).bind fun r441 =>
 (c 83 [T.st [T.sl (asL (T.cell (nth r441 0) 0))]]).bind fun r442 =>
 bif !(asB (nth r442 0)) then
  some [T.st [T.sl (asL (T.cell (nth r441 0) 0))], T.i .i64 1]
 else
  (c 95 [T.st [T.sl (asL (T.cell (nth r441 0) 0))], T.i .i64 n1]).bind fun r443 =>
  bif !(asB (nth r443 0)) then
   some [T.st [T.sl (asL (T.cell (nth r441 0) 0))], T.i .i64 1]
  else
   bif iLt 400 (l2.length : Int) then
    some [T.st [T.sl (asL (T.cell (nth r441 0) 0))], T.i .i64 1]
   else
    (c 51 [T.st [T.sl (asL (T.cell (nth r441 0) 0))], T.i .i64 n1]).bind fun r444 =>
    bif inR n1 ((asL (T.cell (nth r441 0) 0)).length) then
    bif asB (T.cell ((asL (T.cell (nth r441 0) 0)).getD n1.toNat T.u) 2) then
     some [T.st [T.sl (asL (T.cell (nth r441 0) 0))], T.i .i64 2]
    else
     bif (asI (nth r444 0)) == 8 then
      some [T.st [T.sl (asL (T.cell (nth r441 0) 0))], T.i .i64 5]
     else
      bif inR n1 ((asL (T.cell (nth r441 0) 0)).length) then
      (c 54 [T.sl l2]).bind fun r445 =>
      bif inR (asI (nth r444 0)) ((asL (T.cell ((asL (T.cell (nth r441 0) 0)).getD n1.toNat T.u) 0)).length) then
      some [T.st [T.sl ((asL (T.cell (nth r441 0) 0)).set n1.toNat (T.setc ((asL (T.cell (nth r441 0) 0)).getD n1.toNat T.u) 0 (T.sl ((asL (T.cell ((asL (T.cell (nth r441 0) 0)).getD n1.toNat T.u) 0)).set ((asI (nth r444 0)).toNat) (T.st [T.b true, T.sl (asL (nth r445 0))])))))], T.i .i64 0]
      else none
      else none
    else none
def f96 (c : Orc) (lf : Nat) (l0_0 : List T) (n1 : Int) (l2 : List T) : Option (List T) := f96_t c lf l0_0 n1 l2
theorem f96_eq (c : Orc) (lf : Nat) (l0_0 : List T) (n1 : Int) (l2 : List T) : funK c env lf 6 fi96 [.st [.sl l0_0], .i .i64 n1, .sl l2] = f96 c lf l0_0 n1 l2 := by kernel_rfl
def f156_0_s (c : Orc) (lf : Nat) (b0_3 : Bool) (l0_0 l0_2 : List T) (n0_1 : Int) (L : Int → Option (List T)) (x448 : Int) : Option (List T) :=
 bif iLt x448 (l0_2.length : Int) then
  bif inR x448 l0_2.length then
  bif (asI (T.cell (l0_2.getD x448.toNat T.u) 0)) == n0_1 then
   some [T.i .i64 0, T.b true, T.i .i64 (asI (T.cell (l0_2.getD x448.toNat T.u) 0)), T.i .i64 (asI (T.cell (l0_2.getD x448.toNat T.u) 1)), T.i .i64 (asI (T.cell (l0_2.getD x448.toNat T.u) 2))]
  else
   L (IntKind.wrap .i64 (x448 + 1))
  else none
 else
  some [T.i .i64 1, T.i .i64 0, T.i .i64 0, T.i .i64 0]
def f156_0_c (b0_3 : Bool) (l0_0 l0_2 : List T) (n0_1 x448 : Int) : CSt := ⟨[.bp 4 0, .bp 5 0, .ro 0 true [.i .i64, .i .i64, .i .i64] l0_2, .i .i64 (l0_2.length : Int), .i .i64 x448], [.dead, .dead, .dead, .dead, .box [.ro 0 true [.sl true [.b, .sl false [.i .u8]], .i .i64, .b] l0_0, .i .i64 n0_1, .ro 0 true [.i .i64, .i .i64, .i .i64] l0_2, .b b0_3], .box [.i .i64 0, .i .i64 0, .i .i64 0]]⟩
theorem f156_0_round (c : Orc) (lf : Nat) (b0_3 : Bool) (l0_0 l0_2 : List T) (n0_1 : Int) (L : CSt → Option (List T)) (x448 : Int) :
 roundK c env lf 6 fi156 4 2 [] [1, 2, 7, 8, 9] (x156_2_0) L (f156_0_c b0_3 l0_0 l0_2 n0_1 x448) = f156_0_s c lf b0_3 l0_0 l0_2 n0_1 (fun x448 => L (f156_0_c b0_3 l0_0 l0_2 n0_1 x448)) x448 := by kernel_rfl
def f156_0 (c : Orc) (lf : Nat) (b0_3 : Bool) (l0_0 l0_2 : List T) (n0_1 : Int) : Nat → Int → Option (List T)
 | 0 => fun _ => none
 | n + 1 => fun x448 => f156_0_s c lf b0_3 l0_0 l0_2 n0_1 (f156_0 c lf b0_3 l0_0 l0_2 n0_1 n) x448
theorem f156_0_u (c : Orc) (lf : Nat) (b0_3 : Bool) (l0_0 l0_2 : List T) (n0_1 : Int) (n : Nat) (x448 : Int) : f156_0 c lf b0_3 l0_0 l0_2 n0_1 (n + 1) x448 = f156_0_s c lf b0_3 l0_0 l0_2 n0_1 (f156_0 c lf b0_3 l0_0 l0_2 n0_1 n) x448 := rfl
theorem f156_0_eq (c : Orc) (lf : Nat) (b0_3 : Bool) (l0_0 l0_2 : List T) (n0_1 : Int) (n : Nat) (x448 : Int) :
 lpK c env lf 6 fi156 4 2 [] [1, 2, 7, 8, 9] (x156_2_0) n (f156_0_c b0_3 l0_0 l0_2 n0_1 x448) = f156_0 c lf b0_3 l0_0 l0_2 n0_1 n x448 := by
 induction n generalizing x448 with
 | zero => rfl
 | succ n ih =>
  refine (f156_0_round c lf b0_3 l0_0 l0_2 n0_1 _ x448).trans ?_
  have e : (fun x448 => lpK c env lf 6 fi156 4 2 [] [1, 2, 7, 8, 9] (x156_2_0) n (f156_0_c b0_3 l0_0 l0_2 n0_1 x448)) = f156_0 c lf b0_3 l0_0 l0_2 n0_1 n := by funext x448; exact ih x448
  show f156_0_s c lf b0_3 l0_0 l0_2 n0_1 (fun x448 => lpK c env lf 6 fi156 4 2 [] [1, 2, 7, 8, 9] (x156_2_0) n (f156_0_c b0_3 l0_0 l0_2 n0_1 x448)) x448 = _
  rw [e]; rfl
def f156_t (c : Orc) (lf : Nat) (lp0 : Bool → List T → List T → Int → Int → Option (List T)) (l0_0 : List T) (n0_1 : Int) (l0_2 : List T) (b0_3 : Bool) : Option (List T) :=
 (lp0 b0_3 l0_0 l0_2 n0_1 0).bind fun r449 =>
 bif asI (nth r449 0) == 0 then
  some [T.st [T.i .i64 (asI (nth r449 2)), T.i .i64 (asI (nth r449 3)), T.i .i64 (asI (nth r449 4))], T.b (asB (nth r449 1))]
 else
  some [T.st [T.i .i64 0, T.i .i64 0, T.i .i64 0], T.b false]
def f156 (c : Orc) (lf : Nat) (l0_0 : List T) (n0_1 : Int) (l0_2 : List T) (b0_3 : Bool) : Option (List T) := f156_t c lf (fun (b0_3 : Bool) (l0_0 l0_2 : List T) (n0_1 x448 : Int) => f156_0 c lf b0_3 l0_0 l0_2 n0_1 lf x448) l0_0 n0_1 l0_2 b0_3
theorem f156_raw (c : Orc) (lf : Nat) (l0_0 : List T) (n0_1 : Int) (l0_2 : List T) (b0_3 : Bool) : funK c env lf 6 fi156 [.st [.sl l0_0, .i .i64 n0_1, .sl l0_2, .b b0_3]] = f156_t c lf (fun (b0_3 : Bool) (l0_0 l0_2 : List T) (n0_1 x448 : Int) => lpK c env lf 6 fi156 4 2 [] [1, 2, 7, 8, 9] (x156_2_0) lf (f156_0_c b0_3 l0_0 l0_2 n0_1 x448)) l0_0 n0_1 l0_2 b0_3 := by kernel_rfl
theorem f156_eq (c : Orc) (lf : Nat) (l0_0 : List T) (n0_1 : Int) (l0_2 : List T) (b0_3 : Bool) : funK c env lf 6 fi156 [.st [.sl l0_0, .i .i64 n0_1, .sl l0_2, .b b0_3]] = f156 c lf l0_0 n0_1 l0_2 b0_3 := by
 refine (f156_raw c lf l0_0 n0_1 l0_2 b0_3).trans ?_
 have e0 : (fun (b0_3 : Bool) (l0_0 l0_2 : List T) (n0_1 x448 : Int) => lpK c env lf 6 fi156 4 2 [] [1, 2, 7, 8, 9] (x156_2_0) lf (f156_0_c b0_3 l0_0 l0_2 n0_1 x448)) = (fun (b0_3 : Bool) (l0_0 l0_2 : List T) (n0_1 x448 : Int) => f156_0 c lf b0_3 l0_0 l0_2 n0_1 lf x448) := by funext b0_3 l0_0 l0_2 n0_1 x448; exact f156_0_eq c lf b0_3 l0_0 l0_2 n0_1 lf x448
 rw [e0]; rfl
def f52_t (c : Orc) (lf : Nat) (l0_0 : List T) (n0_1 : Int) (l0_2 : List T) (b0_3 : Bool) (n1 : Int) (l2 : List T) : Option (List T) :=
 (c 84 [T.st [T.sl l0_0, T.i .i64 n0_1, T.sl l0_2, T.b b0_3]]).bind fun r450 =>
 (c 42 [T.st [T.sl (asL (T.cell (nth r450 0) 0)), T.i .i64 (asI (T.cell (nth r450 0) 1)), T.sl (asL (T.cell (nth r450 0) 2)), T.b (asB (T.cell (nth r450 0) 3))]]).bind fun r451 =>
 bif !(asB (nth r451 0)) then
  some [T.st [T.sl (asL (T.cell (nth r450 0) 0)), T.i .i64 (asI (T.cell (nth r450 0) 1)), T.sl (asL (T.cell (nth r450 0) 2)), T.b (asB (T.cell (nth r450 0) 3))], T.i .i64 1]
 else
  bif asB (T.cell (nth r450 0) 3) then
   some [T.st [T.sl (asL (T.cell (nth r450 0) 0)), T.i .i64 (asI (T.cell (nth r450 0) 1)), T.sl (asL (T.cell (nth r450 0) 2)), T.b (asB (T.cell (nth r450 0) 3))], T.i .i64 10]
  else
   bif (asI (T.cell (nth r450 0) 1)) == 100000 then
    some [T.st [T.sl (asL (T.cell (nth r450 0) 0)), T.i .i64 (asI (T.cell (nth r450 0) 1)), T.sl (asL (T.cell (nth r450 0) 2)), T.b (asB (T.cell (nth r450 0) 3))], T.i .i64 10]
   else
    (c 96 [T.st [T.sl (asL (T.cell (nth r450 0) 0))], T.i .i64 n1, T.sl l2]).bind fun r452 =>
    bif (asI (nth r452 1)) != 0 then
     some [T.st [T.sl (asL (T.cell (nth r450 0) 0)), T.i .i64 (asI (T.cell (nth r450 0) 1)), T.sl (asL (T.cell (nth r450 0) 2)), T.b (asB (T.cell (nth r450 0) 3))], T.i .i64 (asI (nth r452 1))]
    else
     (c 156 [T.st [T.sl (asL (T.cell (nth r450 0) 0)), T.i .i64 (asI (T.cell (nth r450 0) 1)), T.sl (asL (T.cell (nth r450 0) 2)), T.b (asB (T.cell (nth r450 0) 3))]]).bind fun r453 =>
     bif !(asB (nth r453 1)) then
      some [T.st [T.sl (asL (T.cell (nth r452 0) 0)), T.i .i64 (IntKind.wrap .i64 ((asI (T.cell (nth r450 0) 1)) + 1)), T.sl (asL (T.cell (nth r450 0) 2)), T.b (asB (T.cell (nth r450 0) 3))], T.i .i64 0]
     else
      bif (asI (T.cell (nth r453 0) 1)) == 1 then
       bif inR n1 ((asL (T.cell (nth r450 0) 0)).length) then
       some [T.st [T.sl ((asL (T.cell (nth r450 0) 0)).set n1.toNat (T.setc ((asL (T.cell (nth r450 0) 0)).getD n1.toNat T.u) 2 (T.b true))), T.i .i64 (IntKind.wrap .i64 ((asI (T.cell (nth r450 0) 1)) + 1)), T.sl (asL (T.cell (nth r450 0) 2)), T.b (asB (T.cell (nth r450 0) 3))], T.i .i64 2]
       else none
      else
       bif iLe 0 (imin (asI (T.cell (nth r453 0) 2)) (l2.length : Int)) && iLe (imin (asI (T.cell (nth r453 0) 2)) (l2.length : Int)) (l2.length : Int) then
       (c 96 [T.st [T.sl (asL (T.cell (nth r450 0) 0))], T.i .i64 n1, T.sl (l2.take ((imin (asI (T.cell (nth r453 0) 2)) (l2.length : Int)).toNat))]).bind fun r454 =>
       some [T.st [T.sl (asL (T.cell (nth r454 0) 0)), T.i .i64 (IntKind.wrap .i64 ((asI (T.cell (nth r450 0) 1)) + 1)), T.sl (asL (T.cell (nth r450 0) 2)), T.b true], T.i .i64 10]
       else none
def f52 (c : Orc) (lf : Nat) (l0_0 : List T) (n0_1 : Int) (l0_2 : List T) (b0_3 : Bool) (n1 : Int) (l2 : List T) : Option (List T) := f52_t c lf l0_0 n0_1 l0_2 b0_3 n1 l2
theorem f52_eq (c : Orc) (lf : Nat) (l0_0 : List T) (n0_1 : Int) (l0_2 : List T) (b0_3 : Bool) (n1 : Int) (l2 : List T) : funK c env lf 6 fi52 [.st [.sl l0_0, .i .i64 n0_1, .sl l0_2, .b b0_3], .i .i64 n1, .sl l2] = f52 c lf l0_0 n0_1 l0_2 b0_3 n1 l2 := by kernel_rfl
def f17_0_s (c : Orc) (lf : Nat) (l2 : List T) (n1 n3 : Int) (r471 : List T) (L : Int → Bool → List T → List T → Option (List T)) (x478 : Int) (x479 : Bool) (x480 x481 : List T) : Option (List T) :=
 (c 50 [T.st [T.sl x480, T.i .i64 x478, T.sl x481, T.b x479, T.i .i64 (asI (T.cell (nth r471 0) 4))], T.i .i64 n3]).bind fun r482 =>
 bif x479 then
  some [T.i .i64 0, T.i .i64 (-1), T.i .i64 10, T.i .i64 x478, T.b x479, T.i .i64 (asI (T.cell (nth r471 0) 4)), T.sl x480, T.sl x481]
 else
  bif iLt (asI (nth r482 0)) 0 then
   some [T.i .i64 0, T.i .i64 (-1), T.i .i64 9, T.i .i64 x478, T.b x479, T.i .i64 (asI (T.cell (nth r471 0) 4)), T.sl x480, T.sl x481]
  else
   (c 51 [T.st [T.sl x480], T.i .i64 (asI (nth r482 0))]).bind fun r483 =>
   (c 53 [T.st [T.i .i64 n1, T.i .i64 (asI (T.cell (nth r471 0) 4)), T.sl l2]]).bind fun r484 =>
   (c 52 [T.st [T.sl x480, T.i .i64 x478, T.sl x481, T.b x479], T.i .i64 (asI (nth r482 0)), T.sl (asL (nth r484 0))]).bind fun r485 =>
   bif (asI (nth r485 1)) == 0 then
    some [T.i .i64 0, T.i .i64 (IntKind.wrap .i64 ((IntKind.wrap .i64 ((asI (nth r482 0)) * 8)) + (asI (nth r483 0)))), T.i .i64 0, T.i .i64 (asI (T.cell (nth r485 0) 1)), T.b (asB (T.cell (nth r485 0) 3)), T.i .i64 (IntKind.wrap .i64 ((asI (T.cell (nth r471 0) 4)) + 1)), T.sl (asL (T.cell (nth r485 0) 0)), T.sl (asL (T.cell (nth r485 0) 2))]
   else
    bif (asI (nth r485 1)) == 2 then
     L (asI (T.cell (nth r485 0) 1)) (asB (T.cell (nth r485 0) 3)) (asL (T.cell (nth r485 0) 0)) (asL (T.cell (nth r485 0) 2))
    else
     bif asB (T.cell (nth r485 0) 3) then
      some [T.i .i64 0, T.i .i64 (-1), T.i .i64 10, T.i .i64 (asI (T.cell (nth r485 0) 1)), T.b (asB (T.cell (nth r485 0) 3)), T.i .i64 (IntKind.wrap .i64 ((asI (T.cell (nth r471 0) 4)) + 1)), T.sl (asL (T.cell (nth r485 0) 0)), T.sl (asL (T.cell (nth r485 0) 2))]
     else
      some [T.i .i64 0, T.i .i64 (-1), T.i .i64 10, T.i .i64 (asI (T.cell (nth r485 0) 1)), T.b (asB (T.cell (nth r485 0) 3)), T.i .i64 (asI (T.cell (nth r471 0) 4)), T.sl (asL (T.cell (nth r485 0) 0)), T.sl (asL (T.cell (nth r485 0) 2))]
def f17_0_c (l2 : List T) (n1 n3 : Int) (r471 : List T) (x478 : Int) (x479 : Bool) (x480 x481 : List T) : CSt := ⟨[.i .i64 n3, .bp 8 0, .bp 11 0, .bp 14 0], [.dead, .dead, .dead, .dead, .dead, .dead, .dead, .dead, .box [.rf 9 [] 0 none, .i .i64 x478, .rf 10 [] 0 none, .b x479, .i .i64 (asI (T.cell (nth r471 0) 4))], .row true [.sl true [.b, .sl false [.i .u8]], .i .i64, .b] x480 0 false, .row true [.i .i64, .i .i64, .i .i64] x481 0 false, .box [.rf 12 [] 0 none, .i .i64 0, .rf 13 [] 0 none, .b false, .i .i64 0], .row true [.sl true [.b, .sl false [.i .u8]], .i .i64, .b] ([] : List T) 0 false, .row true [.i .i64, .i .i64, .i .i64] ([] : List T) 0 false, .box [.i .i64 n1, .i .i64 (asI (T.cell (nth r471 0) 4)), .ro 0 false [.i .u8] l2]]⟩
theorem f17_0_round (c : Orc) (lf : Nat) (l2 : List T) (n1 n3 : Int) (r471 : List T) (L : CSt → Option (List T)) (x478 : Int) (x479 : Bool) (x480 x481 : List T) :
 roundK c env lf 6 fi17 8 5 [] [3, 4, 8, 11] (x17_5_0) L (f17_0_c l2 n1 n3 r471 x478 x479 x480 x481) = f17_0_s c lf l2 n1 n3 r471 (fun x478 x479 x480 x481 => L (f17_0_c l2 n1 n3 r471 x478 x479 x480 x481)) x478 x479 x480 x481 := by kernel_rfl
def f17_0 (c : Orc) (lf : Nat) (l2 : List T) (n1 n3 : Int) (r471 : List T) : Nat → Int → Bool → List T → List T → Option (List T)
 | 0 => fun _ _ _ _ => none
 | n + 1 => fun x478 x479 x480 x481 => f17_0_s c lf l2 n1 n3 r471 (f17_0 c lf l2 n1 n3 r471 n) x478 x479 x480 x481
theorem f17_0_u (c : Orc) (lf : Nat) (l2 : List T) (n1 n3 : Int) (r471 : List T) (n : Nat) (x478 : Int) (x479 : Bool) (x480 x481 : List T) : f17_0 c lf l2 n1 n3 r471 (n + 1) x478 x479 x480 x481 = f17_0_s c lf l2 n1 n3 r471 (f17_0 c lf l2 n1 n3 r471 n) x478 x479 x480 x481 := rfl
theorem f17_0_eq (c : Orc) (lf : Nat) (l2 : List T) (n1 n3 : Int) (r471 : List T) (n : Nat) (x478 : Int) (x479 : Bool) (x480 x481 : List T) :
 lpK c env lf 6 fi17 8 5 [] [3, 4, 8, 11] (x17_5_0) n (f17_0_c l2 n1 n3 r471 x478 x479 x480 x481) = f17_0 c lf l2 n1 n3 r471 n x478 x479 x480 x481 := by
 induction n generalizing x478 x479 x480 x481 with
 | zero => rfl
 | succ n ih =>
  refine (f17_0_round c lf l2 n1 n3 r471 _ x478 x479 x480 x481).trans ?_
  have e : (fun x478 x479 x480 x481 => lpK c env lf 6 fi17 8 5 [] [3, 4, 8, 11] (x17_5_0) n (f17_0_c l2 n1 n3 r471 x478 x479 x480 x481)) = f17_0 c lf l2 n1 n3 r471 n := by funext x478 x479 x480 x481; exact ih x478 x479 x480 x481
  show f17_0_s c lf l2 n1 n3 r471 (fun x478 x479 x480 x481 => lpK c env lf 6 fi17 8 5 [] [3, 4, 8, 11] (x17_5_0) n (f17_0_c l2 n1 n3 r471 x478 x479 x480 x481)) x478 x479 x480 x481 = _
  rw [e]; rfl
def f17_t (c : Orc) (lf : Nat) (lp0 : List T → Int → Int → List T → Int → Bool → List T → List T → Option (List T)) (l0_0 : List T) (n0_1 : Int) (l0_2 : List T) (b0_3 : Bool) (n0_4 n1 : Int) (l2 : List T) (n3 : Int) : Option (List T) :=
 (c 48 [T.st [T.sl l0_0, T.i .i64 n0_1, T.sl l0_2, T.b b0_3, T.i .i64 n0_4]]).bind fun r471 =>
 (c 49 [T.st [T.i .i64 n1, T.i .i64 (asI (T.cell (nth r471 0) 4)), T.sl l2]]).bind fun r472 =>
 bif !(asB (nth r472 0)) then
  some [T.st [T.sl (asL (T.cell (nth r471 0) 0)), T.i .i64 (asI (T.cell (nth r471 0) 1)), T.sl (asL (T.cell (nth r471 0) 2)), T.b (asB (T.cell (nth r471 0) 3)), T.i .i64 (asI (T.cell (nth r471 0) 4))], T.i .i64 (-1), T.i .i64 1]
 else
  (c 42 [T.st [T.sl (asL (T.cell (nth r471 0) 0)), T.i .i64 (asI (T.cell (nth r471 0) 1)), T.sl (asL (T.cell (nth r471 0) 2)), T.b (asB (T.cell (nth r471 0) 3))]]).bind fun r473 =>
  bif !(asB (nth r473 0)) then
   some [T.st [T.sl (asL (T.cell (nth r471 0) 0)), T.i .i64 (asI (T.cell (nth r471 0) 1)), T.sl (asL (T.cell (nth r471 0) 2)), T.b (asB (T.cell (nth r471 0) 3)), T.i .i64 (asI (T.cell (nth r471 0) 4))], T.i .i64 (-1), T.i .i64 1]
  else
   bif (asI (T.cell (nth r471 0) 4)) == 1000000 then
    some [T.st [T.sl (asL (T.cell (nth r471 0) 0)), T.i .i64 (asI (T.cell (nth r471 0) 1)), T.sl (asL (T.cell (nth r471 0) 2)), T.b (asB (T.cell (nth r471 0) 3)), T.i .i64 (asI (T.cell (nth r471 0) 4))], T.i .i64 (-1), T.i .i64 1]
   else
    (lp0 l2 n1 n3 r471 (asI (T.cell (nth r471 0) 1)) (asB (T.cell (nth r471 0) 3)) (asL (T.cell (nth r471 0) 0)) (asL (T.cell (nth r471 0) 2))).bind fun r486 =>
    some [T.st [T.sl (asL (nth r486 6)), T.i .i64 (asI (nth r486 3)), T.sl (asL (nth r486 7)), T.b (asB (nth r486 4)), T.i .i64 (asI (nth r486 5))], T.i .i64 (asI (nth r486 1)), T.i .i64 (asI (nth r486 2))]
def f17 (c : Orc) (lf : Nat) (l0_0 : List T) (n0_1 : Int) (l0_2 : List T) (b0_3 : Bool) (n0_4 n1 : Int) (l2 : List T) (n3 : Int) : Option (List T) := f17_t c lf (fun (l2 : List T) (n1 n3 : Int) (r471 : List T) (x478 : Int) (x479 : Bool) (x480 x481 : List T) => f17_0 c lf l2 n1 n3 r471 lf x478 x479 x480 x481) l0_0 n0_1 l0_2 b0_3 n0_4 n1 l2 n3
theorem f17_raw (c : Orc) (lf : Nat) (l0_0 : List T) (n0_1 : Int) (l0_2 : List T) (b0_3 : Bool) (n0_4 n1 : Int) (l2 : List T) (n3 : Int) : funK c env lf 6 fi17 [.st [.sl l0_0, .i .i64 n0_1, .sl l0_2, .b b0_3, .i .i64 n0_4], .i .i64 n1, .sl l2, .i .i64 n3] = f17_t c lf (fun (l2 : List T) (n1 n3 : Int) (r471 : List T) (x478 : Int) (x479 : Bool) (x480 x481 : List T) => lpK c env lf 6 fi17 8 5 [] [3, 4, 8, 11] (x17_5_0) lf (f17_0_c l2 n1 n3 r471 x478 x479 x480 x481)) l0_0 n0_1 l0_2 b0_3 n0_4 n1 l2 n3 := by kernel_rfl
theorem f17_eq (c : Orc) (lf : Nat) (l0_0 : List T) (n0_1 : Int) (l0_2 : List T) (b0_3 : Bool) (n0_4 n1 : Int) (l2 : List T) (n3 : Int) : funK c env lf 6 fi17 [.st [.sl l0_0, .i .i64 n0_1, .sl l0_2, .b b0_3, .i .i64 n0_4], .i .i64 n1, .sl l2, .i .i64 n3] = f17 c lf l0_0 n0_1 l0_2 b0_3 n0_4 n1 l2 n3 := by
 refine (f17_raw c lf l0_0 n0_1 l0_2 b0_3 n0_4 n1 l2 n3).trans ?_
 have e0 : (fun (l2 : List T) (n1 n3 : Int) (r471 : List T) (x478 : Int) (x479 : Bool) (x480 x481 : List T) => lpK c env lf 6 fi17 8 5 [] [3, 4, 8, 11] (x17_5_0) lf (f17_0_c l2 n1 n3 r471 x478 x479 x480 x481)) = (fun (l2 : List T) (n1 n3 : Int) (r471 : List T) (x478 : Int) (x479 : Bool) (x480 x481 : List T) => f17_0 c lf l2 n1 n3 r471 lf x478 x479 x480 x481) := by funext l2 n1 n3 r471 x478 x479 x480 x481; exact f17_0_eq c lf l2 n1 n3 r471 lf x478 x479 x480 x481
 rw [e0]; rfl
def f56_t (c : Orc) (lf : Nat) (n0_0 : Int) (s0_1 : ByteArray) (b0_2 : Bool) (n0_3 : Int) (l0_4 : List T) (n0_5 n1_0 : Int) (s1_1 : ByteArray) (b1_2 : Bool) (n1_3 : Int) (l1_4 : List T) (n1_5 : Int) : Option (List T) :=
 bif n0_0 == n1_0 then
  bif s0_1.toList == s1_1.toList then
   bif (b0_2 == b1_2) then
    bif n0_3 == n1_3 then
     none
    else
     some [T.b false]
   else
    some [T.b false]
  else
   some [T.b false]
 else
  some [T.b false]
def f56 (c : Orc) (lf : Nat) (n0_0 : Int) (s0_1 : ByteArray) (b0_2 : Bool) (n0_3 : Int) (l0_4 : List T) (n0_5 n1_0 : Int) (s1_1 : ByteArray) (b1_2 : Bool) (n1_3 : Int) (l1_4 : List T) (n1_5 : Int) : Option (List T) := f56_t c lf n0_0 s0_1 b0_2 n0_3 l0_4 n0_5 n1_0 s1_1 b1_2 n1_3 l1_4 n1_5
def f20_0_s (c : Orc) (lf : Nat) (l0_0 l1_0 : List T) (L : Int → Option (List T)) (x492 : Int) : Option (List T) :=
 bif iLt x492 (l0_0.length : Int) then
  bif inR x492 l0_0.length then
  bif inR x492 l1_0.length then
  (c 56 [T.st [T.i .i64 (asI (T.cell (l0_0.getD x492.toNat T.u) 0)), T.s (asS (T.cell (l0_0.getD x492.toNat T.u) 1)), T.b (asB (T.cell (l0_0.getD x492.toNat T.u) 2)), T.i .i64 (asI (T.cell (l0_0.getD x492.toNat T.u) 3)), T.sl (asL (T.cell (l0_0.getD x492.toNat T.u) 4)), T.i .i64 (asI (T.cell (l0_0.getD x492.toNat T.u) 5))], T.st [T.i .i64 (asI (T.cell (l1_0.getD x492.toNat T.u) 0)), T.s (asS (T.cell (l1_0.getD x492.toNat T.u) 1)), T.b (asB (T.cell (l1_0.getD x492.toNat T.u) 2)), T.i .i64 (asI (T.cell (l1_0.getD x492.toNat T.u) 3)), T.sl (asL (T.cell (l1_0.getD x492.toNat T.u) 4)), T.i .i64 (asI (T.cell (l1_0.getD x492.toNat T.u) 5))]]).bind fun r493 =>
  bif !(asB (nth r493 0)) then
   some [T.i .i64 0, T.b false]
  else
   L (IntKind.wrap .i64 (x492 + 1))
  else none
  else none
 else
  some [T.i .i64 1]
def f20_0_c (l0_0 l1_0 : List T) (x492 : Int) : CSt := ⟨[.ro 0 true [.i .i64, .s, .b, .i .i64, .sl true [.i .i64, .i .i64, .i .i64, .sl false [.i .u8], .sl true [.s, .i .i64], .sl true [.s, .s]], .i .i64] l1_0, .fn 56 [], .ro 0 true [.i .i64, .s, .b, .i .i64, .sl true [.i .i64, .i .i64, .i .i64, .sl false [.i .u8], .sl true [.s, .i .i64], .sl true [.s, .s]], .i .i64] l0_0, .i .i64 (l0_0.length : Int), .i .i64 x492], []⟩
theorem f20_0_round (c : Orc) (lf : Nat) (l0_0 l1_0 : List T) (L : CSt → Option (List T)) (x492 : Int) :
 roundK c env lf 5 fi55 0 4 [] [1, 2, 15, 16, 17] (x55_4_0) L (f20_0_c l0_0 l1_0 x492) = f20_0_s c lf l0_0 l1_0 (fun x492 => L (f20_0_c l0_0 l1_0 x492)) x492 := by kernel_rfl
def f20_0 (c : Orc) (lf : Nat) (l0_0 l1_0 : List T) : Nat → Int → Option (List T)
 | 0 => fun _ => none
 | n + 1 => fun x492 => f20_0_s c lf l0_0 l1_0 (f20_0 c lf l0_0 l1_0 n) x492
theorem f20_0_eq (c : Orc) (lf : Nat) (l0_0 l1_0 : List T) (n : Nat) (x492 : Int) :
 lpK c env lf 5 fi55 0 4 [] [1, 2, 15, 16, 17] (x55_4_0) n (f20_0_c l0_0 l1_0 x492) = f20_0 c lf l0_0 l1_0 n x492 := by
 induction n generalizing x492 with
 | zero => rfl
 | succ n ih =>
  refine (f20_0_round c lf l0_0 l1_0 _ x492).trans ?_
  have e : (fun x492 => lpK c env lf 5 fi55 0 4 [] [1, 2, 15, 16, 17] (x55_4_0) n (f20_0_c l0_0 l1_0 x492)) = f20_0 c lf l0_0 l1_0 n := by funext x492; exact ih x492
  show f20_0_s c lf l0_0 l1_0 (fun x492 => lpK c env lf 5 fi55 0 4 [] [1, 2, 15, 16, 17] (x55_4_0) n (f20_0_c l0_0 l1_0 x492)) x492 = _
  rw [e]; rfl
def f20_t (c : Orc) (lf : Nat) (lp0 : List T → List T → Int → Option (List T)) (l0_0 : List T) (n0_1 : Int) (l1_0 : List T) (n1_1 : Int) : Option (List T) :=
 bif n0_1 == n1_1 then
  bif (l0_0.length : Int) != (l1_0.length : Int) then
   some [T.b false]
  else
   (lp0 l0_0 l1_0 0).bind fun r494 =>
   bif asI (nth r494 0) == 0 then
    some [T.b (asB (nth r494 1))]
   else
    some [T.b true]
 else
  some [T.b false]
def f20 (c : Orc) (lf : Nat) (l0_0 : List T) (n0_1 : Int) (l1_0 : List T) (n1_1 : Int) : Option (List T) := f20_t c lf (fun (l0_0 l1_0 : List T) (x492 : Int) => f20_0 c lf l0_0 l1_0 lf x492) l0_0 n0_1 l1_0 n1_1
theorem f20_raw (c : Orc) (lf : Nat) (l0_0 : List T) (n0_1 : Int) (l1_0 : List T) (n1_1 : Int) : funK c env lf 6 fi20 [.st [.sl l0_0, .i .i64 n0_1], .st [.sl l1_0, .i .i64 n1_1]] = f20_t c lf (fun (l0_0 l1_0 : List T) (x492 : Int) => lpK c env lf 5 fi55 0 4 [] [1, 2, 15, 16, 17] (x55_4_0) lf (f20_0_c l0_0 l1_0 x492)) l0_0 n0_1 l1_0 n1_1 := by kernel_rfl
theorem f20_eq (c : Orc) (lf : Nat) (l0_0 : List T) (n0_1 : Int) (l1_0 : List T) (n1_1 : Int) : funK c env lf 6 fi20 [.st [.sl l0_0, .i .i64 n0_1], .st [.sl l1_0, .i .i64 n1_1]] = f20 c lf l0_0 n0_1 l1_0 n1_1 := by
 refine (f20_raw c lf l0_0 n0_1 l1_0 n1_1).trans ?_
 have e0 : (fun (l0_0 l1_0 : List T) (x492 : Int) => lpK c env lf 5 fi55 0 4 [] [1, 2, 15, 16, 17] (x55_4_0) lf (f20_0_c l0_0 l1_0 x492)) = (fun (l0_0 l1_0 : List T) (x492 : Int) => f20_0 c lf l0_0 l1_0 lf x492) := by funext l0_0 l1_0 x492; exact f20_0_eq c lf l0_0 l1_0 lf x492
 rw [e0]; rfl
def f22_0_s (c : Orc) (lf : Nat) (l0_0 : List T) (n0_1 : Int) (L : Unit → Option (List T)) : Option (List T) :=
 bif iLt 0 (l0_0.length : Int) then
  bif inR 0 l0_0.length then
  bif iLt (asI (T.cell (l0_0.getD 0 T.u) 0)) 1 then
   some [T.i .i64 0, T.b false]
  else
   bif iLe n0_1 (asI (T.cell (l0_0.getD 0 T.u) 0)) then
    some [T.i .i64 0, T.b false]
   else
    (c 59 [T.s (asS (T.cell (l0_0.getD 0 T.u) 1))]).bind fun r499 =>
    bif !(asB (nth r499 0)) then
    some [T.i .i64 0, T.b false]
    else none
  else none
 else
  some [T.i .i64 1]
def f22_0_c (l0_0 : List T) (n0_1 : Int) : CSt := ⟨[.bp 2 0, .ro 0 true [.i .i64, .s, .b, .i .i64, .sl true [.i .i64, .i .i64, .i .i64, .sl false [.i .u8], .sl true [.s, .i .i64], .sl true [.s, .s]], .i .i64] l0_0, .i .i64 (l0_0.length : Int), .i .i64 0], [.dead, .dead, .box [.ro 0 true [.i .i64, .s, .b, .i .i64, .sl true [.i .i64, .i .i64, .i .i64, .sl false [.i .u8], .sl true [.s, .i .i64], .sl true [.s, .s]], .i .i64] l0_0, .i .i64 n0_1]]⟩
theorem f22_0_round (c : Orc) (lf : Nat) (l0_0 : List T) (n0_1 : Int) (L : CSt → Option (List T)) :
 roundK c env lf 6 fi22 2 4 [] [1, 16, 17, 18] (x22_4_0) L (f22_0_c l0_0 n0_1) = f22_0_s c lf l0_0 n0_1 (fun _ => L (f22_0_c l0_0 n0_1)) := by kernel_rfl
def f22_0 (c : Orc) (lf : Nat) (l0_0 : List T) (n0_1 : Int) : Nat → Unit → Option (List T)
 | 0 => fun _ => none
 | n + 1 => fun _ => f22_0_s c lf l0_0 n0_1 (f22_0 c lf l0_0 n0_1 n)
theorem f22_0_eq (c : Orc) (lf : Nat) (l0_0 : List T) (n0_1 : Int) (n : Nat) :
 lpK c env lf 6 fi22 2 4 [] [1, 16, 17, 18] (x22_4_0) n (f22_0_c l0_0 n0_1) = f22_0 c lf l0_0 n0_1 n () := by
 induction n with
 | zero => rfl
 | succ n ih =>
  refine (f22_0_round c lf l0_0 n0_1 _).trans ?_
  have e : (fun (_ : Unit) => lpK c env lf 6 fi22 2 4 [] [1, 16, 17, 18] (x22_4_0) n (f22_0_c l0_0 n0_1)) = f22_0 c lf l0_0 n0_1 n := by funext _; exact ih
  show f22_0_s c lf l0_0 n0_1 (fun _ => lpK c env lf 6 fi22 2 4 [] [1, 16, 17, 18] (x22_4_0) n (f22_0_c l0_0 n0_1)) = _
  rw [e]; rfl
def f22_t (c : Orc) (lf : Nat) (lp0 : List T → Int → Option (List T)) (l0_0 : List T) (n0_1 : Int) : Option (List T) :=
 bif iLt 6 (l0_0.length : Int) then
  some [T.b false]
 else
  (c 58 [T.i .i64 n0_1, T.i .i64 1, T.i .i64 99]).bind fun r498 =>
  bif !(asB (nth r498 0)) then
   some [T.b false]
  else
   (lp0 l0_0 n0_1).bind fun r500 =>
   bif asI (nth r500 0) == 0 then
    some [T.b (asB (nth r500 1))]
   else
    some [T.b true]
def f22 (c : Orc) (lf : Nat) (l0_0 : List T) (n0_1 : Int) : Option (List T) := f22_t c lf (fun (l0_0 : List T) (n0_1 : Int) => f22_0 c lf l0_0 n0_1 lf ()) l0_0 n0_1
theorem f22_raw (c : Orc) (lf : Nat) (l0_0 : List T) (n0_1 : Int) : funK c env lf 6 fi22 [.st [.sl l0_0, .i .i64 n0_1]] = f22_t c lf (fun (l0_0 : List T) (n0_1 : Int) => lpK c env lf 6 fi22 2 4 [] [1, 16, 17, 18] (x22_4_0) lf (f22_0_c l0_0 n0_1)) l0_0 n0_1 := by kernel_rfl
theorem f22_eq (c : Orc) (lf : Nat) (l0_0 : List T) (n0_1 : Int) : funK c env lf 6 fi22 [.st [.sl l0_0, .i .i64 n0_1]] = f22 c lf l0_0 n0_1 := by
 refine (f22_raw c lf l0_0 n0_1).trans ?_
 have e0 : (fun (l0_0 : List T) (n0_1 : Int) => lpK c env lf 6 fi22 2 4 [] [1, 16, 17, 18] (x22_4_0) lf (f22_0_c l0_0 n0_1)) = (fun (l0_0 : List T) (n0_1 : Int) => f22_0 c lf l0_0 n0_1 lf ()) := by funext l0_0 n0_1; exact f22_0_eq c lf l0_0 n0_1 lf
 rw [e0]; rfl
def f4_t (c : Orc) (lf : Nat) (l0 : List T) : Option (List T) :=
 (c 14 [T.sl l0]).bind fun r501 =>
 bif asB (nth r501 0) then
  some [T.b true]
 else
  (c 15 [T.i .i64 4, T.sl ([] : List T)]).bind fun r502 =>
  (c 16 [T.st [T.sl (asL (T.cell (nth r502 0) 0)), T.i .i64 (asI (T.cell (nth r502 0) 1)), T.sl (asL (T.cell (nth r502 0) 2)), T.b (asB (T.cell (nth r502 0) 3)), T.i .i64 0]]).bind fun r503 =>
  (c 19 [T.sl l0, T.i .i64 2]).bind fun r504 =>
  (c 18 [T.sl ([] : List T), T.i .i64 (asI (nth r504 0))]).bind fun r505 =>
  (c 17 [T.st [T.sl (asL (T.cell (nth r502 0) 0)), T.i .i64 (asI (T.cell (nth r502 0) 1)), T.sl (asL (T.cell (nth r502 0) 2)), T.b (asB (T.cell (nth r502 0) 3)), T.i .i64 0], T.i .i64 4, T.sl (asL (nth r505 0)), T.i .i64 0]).bind fun r506 =>
  (c 16 [T.st [T.sl (asL (T.cell (nth r506 0) 0)), T.i .i64 (asI (T.cell (nth r506 0) 1)), T.sl (asL (T.cell (nth r506 0) 2)), T.b (asB (T.cell (nth r506 0) 3)), T.i .i64 (asI (T.cell (nth r506 0) 4))]]).bind fun r507 =>
  (c 21 []).bind fun r508 =>
  (c 20 [T.st [T.sl (asL (T.cell (nth r503 1) 0)), T.i .i64 (asI (T.cell (nth r503 1) 1))], T.st [T.sl (asL (T.cell (nth r508 0) 0)), T.i .i64 (asI (T.cell (nth r508 0) 1))]]).bind fun r509 =>
  bif asB (nth r509 0) then
   bif (asI (T.cell (nth r503 1) 6)) == (-1) then
    bif (asI (T.cell (nth r503 0) 4)) == 0 then
     bif (asI (nth r506 2)) == 0 then
      bif (asI (nth r506 1)) == 0 then
       bif (asI (T.cell (nth r507 1) 6)) == (-1) then
        (c 21 []).bind fun r510 =>
        (c 20 [T.st [T.sl (asL (T.cell (nth r507 1) 0)), T.i .i64 (asI (T.cell (nth r507 1) 1))], T.st [T.sl (asL (T.cell (nth r510 0) 0)), T.i .i64 (asI (T.cell (nth r510 0) 1))]]).bind fun r511 =>
        bif asB (nth r511 0) then
         bif (asI (T.cell (nth r507 0) 4)) == 1 then
          (c 22 [T.st [T.sl (asL (T.cell (nth r507 1) 0)), T.i .i64 (asI (T.cell (nth r507 1) 1))]]).bind fun r512 =>
          some [T.b (asB (nth r512 0))]
         else
          some [T.b false]
        else
         some [T.b false]
       else
        some [T.b false]
      else
       some [T.b false]
     else
      some [T.b false]
    else
     some [T.b false]
   else
    some [T.b false]
  else
   some [T.b false]
def f4 (c : Orc) (lf : Nat) (l0 : List T) : Option (List T) := f4_t c lf l0
theorem f4_eq (c : Orc) (lf : Nat) (l0 : List T) : funK c env lf 6 fi4 [.sl l0] = f4 c lf l0 := by kernel_rfl
end Go.Proofs.YtcippopaecnjhaaGreat.T
