/- What functions of the law FnLogs come to, in trees; no condition. -/
import Derived.Test.YtdclnhlpifahpaaRows
import Derived.Test.YtdclnhlpifahpaaV3
import Derived.KernelRfl
set_option linter.unusedVariables false
set_option linter.constructorNameAsVariable false
set_option linter.unusedSimpArgs false
set_option linter.unnecessarySimpa false
namespace Go.Proofs.Ytdclnhlpifahpaa.T
open Go Go.Proofs.YtdclnhlpifahpaaV
def tyTab : List (Nat × Ti) := [
 (3, ⟨false, [.i .i64], .o⟩),
 (4, ⟨false, [.b], .o⟩),
 (5, ⟨false, [.i .u8], .o⟩),
 (9, ⟨false, [.s], .o⟩),
 (45, ⟨false, [.sl true [.sl true [.b, .sl false [.i .u8]], .i .i64, .b]], .sl 137⟩),
 (47, ⟨true, [.sl true [.sl true [.b, .sl false [.i .u8]], .i .i64, .b]], .st [(0, 45)]⟩),
 (48, ⟨false, [.sl true [.i .i64, .i .i64, .i .i64]], .sl 76⟩),
 (50, ⟨true, [.sl true [.sl true [.b, .sl false [.i .u8]], .i .i64, .b], .i .i64, .sl true [.i .i64, .i .i64, .i .i64], .b], .st [(0, 47), (1, 3), (2, 48), (3, 4)]⟩),
 (52, ⟨true, [.sl true [.sl true [.b, .sl false [.i .u8]], .i .i64, .b], .i .i64, .sl true [.i .i64, .i .i64, .i .i64], .b, .i .i64], .st [(0, 50), (4, 3)]⟩),
 (56, ⟨false, [.sl false [.i .u8]], .sl 5⟩),
 (58, ⟨true, [.i .i64, .i .i64, .sl false [.i .u8]], .st [(0, 3), (1, 3), (2, 56)]⟩),
 (69, ⟨false, [.sl false [.i .i64]], .sl 3⟩),
 (76, ⟨true, [.i .i64, .i .i64, .i .i64], .st [(0, 3), (1, 3), (2, 3)]⟩),
 (120, ⟨false, [.o], .o⟩),
 (127, ⟨false, [.o], .o⟩),
 (135, ⟨false, [.sl true [.b, .sl false [.i .u8]]], .sl 142⟩),
 (137, ⟨true, [.sl true [.b, .sl false [.i .u8]], .i .i64, .b], .st [(0, 135), (1, 3), (2, 4)]⟩),
 (142, ⟨true, [.b, .sl false [.i .u8]], .st [(0, 4), (1, 56)]⟩),
 (172, ⟨false, [.i .u64], .o⟩),
 (173, ⟨false, [.o], .o⟩),
 (175, ⟨true, [.sl false [.i .u8], .i .i64, .b], .st [(0, 56), (1, 3), (2, 4)]⟩),
 (181, ⟨true, [.sl false [.i .u8], .i .i64, .i .i64], .st [(0, 56), (1, 3), (2, 3)]⟩),
 (190, ⟨false, [.o], .o⟩),
 (229, ⟨false, [.o], .o⟩),
 (231, ⟨true, [.sl false [.i .u8], .i .i64, .b], .st [(0, 56), (1, 3), (2, 4)]⟩),
 (237, ⟨false, [.i .u32], .o⟩)]
noncomputable def fi29 : Fi := ⟨Try.f29, [], false, [.ro (.sl false [.i .u8])], [.v (.b)]⟩
def x84_3_0 : List (Ex × List Nat × CSt) := [((.ex 0), [0, 3], ⟨[.ro 0 false [.i .u8] [], .i .i64 0], [.dead]⟩)]
noncomputable def fi84 : Fi := ⟨Try.f84, [⟨3, [0, 3, 4], [], [(⟨[.ro 0 false [.i .u8] [], .i .i64 0, .i .i64 0], [.dead]⟩, x84_3_0)]⟩], false, [.ro (.sl false [.i .u8])], [.bx [.ro (.sl false [.i .u8]), .v (.i .i64), .v (.i .i64)]]⟩
noncomputable def fi149 : Fi := ⟨Try.f149, [], false, [.bx [.ro (.sl false [.i .u8]), .v (.i .i64), .v (.i .i64)]], [.v (.i .i64)]⟩
noncomputable def fi97 : Fi := ⟨Try.f97, [], false, [.bx [.ro (.sl false [.i .u8]), .v (.i .i64), .v (.i .i64)], .v (.i .i64)], [.v (.i .i64)]⟩
noncomputable def fi96 : Fi := ⟨Try.f96, [], false, [.bx [.ro (.sl false [.i .u8]), .v (.i .i64), .v (.i .i64)], .ro (.sl false [.i .i64])], [.v (.i .i64)]⟩
def x139_4_0 : List (Ex × List Nat × CSt) := [((.ex 0), [3], ⟨[.rf 4 [] 0 none], [.box [.ro 1 false [.i .u8] [], .i .i64 0, .i .i64 0], .dead, .dead, .dead, .row true [.i .i64, .i .i64, .i .i64] [] 0 false]⟩)]
noncomputable def fi139 : Fi := ⟨Try.f139, [⟨4, [0, 3, 4, 5], [], [(⟨[.bp 0 0, .rf 4 [] 0 none, .i .i64 0, .i .i64 0], [.box [.ro 1 false [.i .u8] [], .i .i64 0, .i .i64 0], .dead, .dead, .dead, .row true [.i .i64, .i .i64, .i .i64] [] 0 false]⟩, x139_4_0)]⟩], false, [.bx [.ro (.sl false [.i .u8]), .v (.i .i64), .v (.i .i64)]], [.ow (.sl true [.i .i64, .i .i64, .i .i64])]⟩
noncomputable def fi71 : Fi := ⟨Try.f71, [], false, [.v (.i .i64), .v (.i .i64), .v (.i .i64)], [.v (.b)]⟩
def x188_3_0 : List (Ex × List Nat × CSt) := [((.ex 0), [2, 3], ⟨[.bp 1 0, .bp 3 0], [.dead, .box [.rf 2 [] 0 none], .row true [.sl true [.b, .sl false [.i .u8]], .i .i64, .b] [] 0 false, .box [.rf 4 [] 0 none], .row true [.sl true [.b, .sl false [.i .u8]], .i .i64, .b] [] 0 false]⟩)]
noncomputable def fi188 : Fi := ⟨Try.f188, [⟨3, [0, 2, 3, 4], [], [(⟨[.i .i64 0, .bp 1 0, .bp 3 0, .i .i64 0], [.dead, .box [.rf 2 [] 0 none], .row true [.sl true [.b, .sl false [.i .u8]], .i .i64, .b] [] 0 false, .box [.rf 4 [] 0 none], .row true [.sl true [.b, .sl false [.i .u8]], .i .i64, .b] [] 0 false]⟩, x188_3_0)]⟩], false, [.v (.i .i64)], [.ag [.ow (.sl true [.sl true [.b, .sl false [.i .u8]], .i .i64, .b])]]⟩
def x176_4_0 : List (Ex × List Nat × CSt) := [(.ret, [2], ⟨[.b false], [.dead, .dead, .dead]⟩), ((.ex 0), [], ⟨[], [.dead, .dead, .dead]⟩)]
noncomputable def fi176 : Fi := ⟨Try.f176, [⟨4, [1, 3], [], [(⟨[.bp 3 0, .i .i64 0], [.dead, .dead, .dead, .box [.ro 0 true [.b, .sl false [.i .u8]] [], .i .i64 0, .b false]]⟩, x176_4_0)]⟩], false, [.ag [.ro (.sl true [.b, .sl false [.i .u8]]), .v (.i .i64), .v (.b)]], [.v (.b)]⟩
def x124_2_0 : List (Ex × List Nat × CSt) := [(.ret, [2], ⟨[.b false], [.dead]⟩), ((.ex 0), [1], ⟨[.bp 1 0], [.dead, .box [.ro 0 true [.sl true [.b, .sl false [.i .u8]], .i .i64, .b] []]]⟩)]
noncomputable def fi124 : Fi := ⟨Try.f124, [⟨2, [1, 3], [], [(⟨[.bp 1 0, .i .i64 0], [.dead, .box [.ro 0 true [.sl true [.b, .sl false [.i .u8]], .i .i64, .b] []]]⟩, x124_2_0)]⟩], false, [.ag [.ro (.sl true [.sl true [.b, .sl false [.i .u8]], .i .i64, .b])]], [.v (.b)]⟩
def x125_2_0 : List (Ex × List Nat × CSt) := [(.ret, [2], ⟨[.b false], [.dead]⟩), ((.ex 0), [0], ⟨[.ro 0 true [.i .i64, .i .i64, .i .i64] []], [.dead]⟩)]
noncomputable def fi125 : Fi := ⟨Try.f125, [⟨2, [0, 3], [], [(⟨[.ro 0 true [.i .i64, .i .i64, .i .i64] [], .i .i64 0], [.dead]⟩, x125_2_0)]⟩], false, [.ro (.sl true [.i .i64, .i .i64, .i .i64])], [.v (.b)]⟩
noncomputable def fi70 : Fi := ⟨Try.f70, [], false, [.ag [.ro (.sl true [.sl true [.b, .sl false [.i .u8]], .i .i64, .b]), .v (.i .i64), .ro (.sl true [.i .i64, .i .i64, .i .i64]), .v (.b)]], [.v (.b)]⟩
noncomputable def fi138 : Fi := ⟨Try.f138, [], false, [.v (.i .i64), .ro (.sl true [.i .i64, .i .i64, .i .i64])], [.ag [.ow (.sl true [.sl true [.b, .sl false [.i .u8]], .i .i64, .b]), .v (.i .i64), .ow (.sl true [.i .i64, .i .i64, .i .i64]), .v (.b)]]⟩
def x140_3_0 : List (Ex × List Nat × CSt) := [((.ex 0), [5], ⟨[.rf 5 [] 0 none], [.box [.ro 1 false [.i .u8] [], .i .i64 0, .i .i64 0], .dead, .dead, .dead, .dead, .row false [.i .u8] [] 0 false]⟩)]
noncomputable def fi140 : Fi := ⟨Try.f140, [⟨3, [0, 1, 5, 6], [], [(⟨[.bp 0 0, .i .i64 0, .rf 5 [] 0 none, .i .i64 0], [.box [.ro 1 false [.i .u8] [], .i .i64 0, .i .i64 0], .dead, .dead, .dead, .dead, .row false [.i .u8] [] 0 false]⟩, x140_3_0)]⟩], false, [.bx [.ro (.sl false [.i .u8]), .v (.i .i64), .v (.i .i64)], .v (.i .i64)], [.ow (.sl false [.i .u8])]⟩
noncomputable def fi86 : Fi := ⟨Try.f86, [], false, [.bx [.ro (.sl false [.i .u8]), .v (.i .i64), .v (.i .i64)]], [.ow (.sl false [.i .u8])]⟩
def x228_3_0 : List (Ex × List Nat × CSt) := [((.ex 0), [2, 3], ⟨[.bp 3 0, .bp 5 0], [.dead, .dead, .dead, .box [.rf 4 [] 0 none, .i .i64 0, .b false], .row true [.b, .sl false [.i .u8]] [] 0 false, .box [.rf 6 [] 0 none, .i .i64 0, .b false], .row true [.b, .sl false [.i .u8]] [] 0 false]⟩)]
noncomputable def fi228 : Fi := ⟨Try.f228, [⟨3, [1, 2, 3, 4], [], [(⟨[.bp 3 0, .bp 4 0, .bp 6 0, .i .i64 0], [.dead, .dead, .dead, .box [.ro 0 true [.b, .sl false [.i .u8]] [], .i .i64 0, .b false], .box [.rf 5 [] 0 none, .i .i64 0, .b false], .row true [.b, .sl false [.i .u8]] [] 0 false, .box [.rf 7 [] 0 none, .i .i64 0, .b false], .row true [.b, .sl false [.i .u8]] [] 0 false]⟩, x228_3_0)]⟩], false, [.ag [.ro (.sl true [.b, .sl false [.i .u8]]), .v (.i .i64), .v (.b)]], [.ag [.ow (.sl true [.b, .sl false [.i .u8]]), .v (.i .i64), .v (.b)]]⟩
def x194_3_0 : List (Ex × List Nat × CSt) := [((.ex 0), [2, 3], ⟨[.bp 1 0, .bp 3 0], [.dead, .box [.rf 2 [] 0 none], .row true [.sl true [.b, .sl false [.i .u8]], .i .i64, .b] [] 0 false, .box [.rf 4 [] 0 none], .row true [.sl true [.b, .sl false [.i .u8]], .i .i64, .b] [] 0 false]⟩)]
noncomputable def fi194 : Fi := ⟨Try.f194, [⟨3, [1, 2, 3, 4], [], [(⟨[.bp 1 0, .bp 2 0, .bp 4 0, .i .i64 0], [.dead, .box [.ro 0 true [.sl true [.b, .sl false [.i .u8]], .i .i64, .b] []], .box [.rf 3 [] 0 none], .row true [.sl true [.b, .sl false [.i .u8]], .i .i64, .b] [] 0 false, .box [.rf 5 [] 0 none], .row true [.sl true [.b, .sl false [.i .u8]], .i .i64, .b] [] 0 false]⟩, x194_3_0)]⟩], false, [.ag [.ro (.sl true [.sl true [.b, .sl false [.i .u8]], .i .i64, .b])]], [.ag [.ow (.sl true [.sl true [.b, .sl false [.i .u8]], .i .i64, .b])]]⟩
noncomputable def fi152 : Fi := ⟨Try.f152, [], false, [.ag [.ro (.sl true [.sl true [.b, .sl false [.i .u8]], .i .i64, .b]), .v (.i .i64), .ro (.sl true [.i .i64, .i .i64, .i .i64]), .v (.b)]], [.ag [.ow (.sl true [.sl true [.b, .sl false [.i .u8]], .i .i64, .b]), .v (.i .i64), .ow (.sl true [.i .i64, .i .i64, .i .i64]), .v (.b)]]⟩
noncomputable def fi102 : Fi := ⟨Try.f102, [], false, [.ag [.ro (.sl true [.sl true [.b, .sl false [.i .u8]], .i .i64, .b]), .v (.i .i64), .ro (.sl true [.i .i64, .i .i64, .i .i64]), .v (.b), .v (.i .i64)]], [.ag [.ow (.sl true [.sl true [.b, .sl false [.i .u8]], .i .i64, .b]), .v (.i .i64), .ow (.sl true [.i .i64, .i .i64, .i .i64]), .v (.b), .v (.i .i64)]]⟩
noncomputable def fi103 : Fi := ⟨Try.f103, [], false, [.ag [.v (.i .i64), .v (.i .i64), .ro (.sl false [.i .u8])]], [.v (.b)]⟩
def x196_6_0 : List (Ex × List Nat × CSt) := [((.ex 0), [1, 5], ⟨[.i .i64 0, .rf 2 [] 0 none], [.dead, .dead, .row false [.i .u8] [] 0 false]⟩)]
noncomputable def fi196 : Fi := ⟨Try.f196, [⟨6, [1, 5], [], [(⟨[.i .i64 0, .rf 2 [] 0 none], [.dead, .dead, .row false [.i .u8] [] 0 false]⟩, x196_6_0)]⟩], false, [.ro (.sl false [.i .u8]), .v (.i .i64)], [.ow (.sl false [.i .u8])]⟩
noncomputable def fi195 : Fi := ⟨Try.f195, [], false, [.ro (.sl false [.i .u8]), .v (.s)], [.ow (.sl false [.i .u8])]⟩
def x133_3_0 : List (Ex × List Nat × CSt) := [((.ex 0), [3], ⟨[.i .i64 0], [.dead]⟩)]
def x133_7_0 : List (Ex × List Nat × CSt) := [((.ex 2), [0, 3, 4], ⟨[.ro 0 false [.i .u8] [], .i .i64 0, .i .i64 0], [.dead]⟩)]
noncomputable def fi133 : Fi := ⟨Try.f133, [⟨3, [0, 3, 4], [], [(⟨[.ro 0 false [.i .u8] [], .i .i64 0, .i .i64 0], [.dead]⟩, x133_3_0)]⟩, ⟨7, [0, 3, 4, 5], [], [(⟨[.ro 0 false [.i .u8] [], .i .i64 0, .i .i64 0, .i .i64 0], [.dead]⟩, x133_7_0)]⟩], false, [.ro (.sl false [.i .u8])], [.v (.i .i64)]⟩
noncomputable def fi153 : Fi := ⟨Try.f153, [], false, [.ag [.v (.i .i64), .v (.i .i64), .ro (.sl false [.i .u8])]], [.ow (.sl false [.i .u8])]⟩
def x197_3_0 : List (Ex × List Nat × CSt) := [((.ex 0), [3], ⟨[.i .i64 0], [.dead, .dead, .dead]⟩)]
noncomputable def fi197 : Fi := ⟨Try.f197, [⟨3, [1, 3, 4], [], [(⟨[.bp 3 0, .i .i64 0, .i .i64 0], [.dead, .dead, .dead, .box [.ro 0 true [.b, .sl false [.i .u8]] [], .i .i64 0, .b false]]⟩, x197_3_0)]⟩], false, [.ag [.ro (.sl true [.b, .sl false [.i .u8]]), .v (.i .i64), .v (.b)]], [.v (.i .i64)]⟩
def x198_3_0 : List (Ex × List Nat × CSt) := [((.ex 0), [3], ⟨[.i .i64 0], [.dead, .dead, .dead, .dead, .dead]⟩)]
noncomputable def fi198 : Fi := ⟨Try.f198, [⟨3, [1, 3, 4], [], [(⟨[.bp 5 0, .i .i64 0, .i .i64 0], [.dead, .dead, .dead, .dead, .dead, .box [.ro 0 true [.sl true [.b, .sl false [.i .u8]], .i .i64, .b] [], .i .i64 0, .ro 0 true [.i .i64, .i .i64, .i .i64] [], .b false, .i .i64 0]]⟩, x198_3_0)]⟩], false, [.ag [.ro (.sl true [.sl true [.b, .sl false [.i .u8]], .i .i64, .b]), .v (.i .i64), .ro (.sl true [.i .i64, .i .i64, .i .i64]), .v (.b), .v (.i .i64)]], [.v (.i .i64)]⟩
def x154_3_0 : List (Ex × List Nat × CSt) := [(.ret, [4], ⟨[.i .i64 0], [.dead, .dead, .dead, .dead, .dead, .dead]⟩), ((.ex 0), [1, 2, 5], ⟨[.i .i64 0, .bp 6 0, .i .i64 0], [.dead, .dead, .dead, .dead, .dead, .dead, .box [.ro 0 true [.sl true [.b, .sl false [.i .u8]], .i .i64, .b] [], .i .i64 0, .ro 0 true [.i .i64, .i .i64, .i .i64] [], .b false, .i .i64 0]]⟩)]
noncomputable def fi154 : Fi := ⟨Try.f154, [⟨3, [1, 2, 5, 6], [], [(⟨[.i .i64 0, .bp 6 0, .i .i64 0, .i .i64 0], [.dead, .dead, .dead, .dead, .dead, .dead, .box [.ro 0 true [.sl true [.b, .sl false [.i .u8]], .i .i64, .b] [], .i .i64 0, .ro 0 true [.i .i64, .i .i64, .i .i64] [], .b false, .i .i64 0]]⟩, x154_3_0)]⟩], false, [.ag [.ro (.sl true [.sl true [.b, .sl false [.i .u8]], .i .i64, .b]), .v (.i .i64), .ro (.sl true [.i .i64, .i .i64, .i .i64]), .v (.b), .v (.i .i64)], .v (.i .i64)], [.v (.i .i64)]⟩
noncomputable def fi155 : Fi := ⟨Try.f155, [], false, [.ag [.ro (.sl true [.sl true [.b, .sl false [.i .u8]], .i .i64, .b])], .v (.i .i64)], [.v (.i .i64)]⟩
noncomputable def fi229 : Fi := ⟨Try.f229, [], false, [.ag [.ro (.sl true [.sl true [.b, .sl false [.i .u8]], .i .i64, .b])], .v (.i .i64), .v (.b)], [.v (.i .i64)]⟩
noncomputable def fi200 : Fi := ⟨Try.f200, [], false, [.ag [.ro (.sl true [.sl true [.b, .sl false [.i .u8]], .i .i64, .b])], .v (.i .i64), .ro (.sl false [.i .u8])], [.v (.i .i64)]⟩
noncomputable def fi199 : Fi := ⟨Try.f199, [], false, [.ag [.ro (.sl true [.sl true [.b, .sl false [.i .u8]], .i .i64, .b]), .v (.i .i64), .ro (.sl true [.i .i64, .i .i64, .i .i64]), .v (.b)], .v (.i .i64)], [.v (.i .i64)]⟩
def x201_2_0 : List (Ex × List Nat × CSt) := [(.ret, [2, 3], ⟨[.bp 4 0, .b false], [.dead, .dead, .dead, .dead, .box [.i .i64 0, .i .i64 0, .i .i64 0]]⟩), ((.ex 0), [2], ⟨[.bp 4 0], [.dead, .dead, .dead, .dead, .box [.i .i64 0, .i .i64 0, .i .i64 0]]⟩)]
noncomputable def fi201 : Fi := ⟨Try.f201, [⟨2, [1, 2, 4], [], [(⟨[.bp 4 0, .bp 5 0, .i .i64 0], [.dead, .dead, .dead, .dead, .box [.ro 0 true [.sl true [.b, .sl false [.i .u8]], .i .i64, .b] [], .i .i64 0, .ro 0 true [.i .i64, .i .i64, .i .i64] [], .b false], .box [.i .i64 0, .i .i64 0, .i .i64 0]]⟩, x201_2_0)]⟩], false, [.ag [.ro (.sl true [.sl true [.b, .sl false [.i .u8]], .i .i64, .b]), .v (.i .i64), .ro (.sl true [.i .i64, .i .i64, .i .i64]), .v (.b)]], [.ag [.v (.i .i64), .v (.i .i64), .v (.i .i64)], .v (.b)]⟩
noncomputable def fi202 : Fi := ⟨Try.f202, [], false, [.ag [.ro (.sl true [.sl true [.b, .sl false [.i .u8]], .i .i64, .b])], .v (.i .i64), .ro (.sl false [.i .u8])], [.ag [.ow (.sl true [.sl true [.b, .sl false [.i .u8]], .i .i64, .b])], .v (.i .i64)]⟩
noncomputable def fi156 : Fi := ⟨Try.f156, [], false, [.ag [.ro (.sl true [.sl true [.b, .sl false [.i .u8]], .i .i64, .b]), .v (.i .i64), .ro (.sl true [.i .i64, .i .i64, .i .i64]), .v (.b)], .v (.i .i64), .ro (.sl false [.i .u8])], [.ag [.ow (.sl true [.sl true [.b, .sl false [.i .u8]], .i .i64, .b]), .v (.i .i64), .ow (.sl true [.i .i64, .i .i64, .i .i64]), .v (.b)], .v (.i .i64)]⟩
def x104_3_0 : List (Ex × List Nat × CSt) := [(.ret, [8, 9, 10], ⟨[.bp 8 0, .i .i64 0, .i .i64 0], [.dead, .dead, .dead, .dead, .dead, .dead, .dead, .dead, .box [.rf 9 [] 0 none, .i .i64 0, .rf 10 [] 0 none, .b false, .i .i64 0], .row true [.sl true [.b, .sl false [.i .u8]], .i .i64, .b] [] 0 false, .row true [.i .i64, .i .i64, .i .i64] [] 0 false]⟩), ((.ex 0), [4, 8], ⟨[.bp 8 0, .bp 11 0], [.dead, .dead, .dead, .dead, .dead, .dead, .dead, .dead, .box [.rf 9 [] 0 none, .i .i64 0, .rf 10 [] 0 none, .b false, .i .i64 0], .row true [.sl true [.b, .sl false [.i .u8]], .i .i64, .b] [] 0 false, .row true [.i .i64, .i .i64, .i .i64] [] 0 false, .box [.rf 12 [] 0 none, .i .i64 0, .rf 13 [] 0 none, .b false, .i .i64 0], .row true [.sl true [.b, .sl false [.i .u8]], .i .i64, .b] [] 0 false, .row true [.i .i64, .i .i64, .i .i64] [] 0 false]⟩)]
noncomputable def fi104 : Fi := ⟨Try.f104, [⟨3, [3, 4, 8, 11, 12], [], [(⟨[.i .i64 0, .bp 8 0, .bp 11 0, .rf 14 [] 0 none, .i .i64 0], [.dead, .dead, .dead, .dead, .dead, .dead, .dead, .dead, .box [.rf 9 [] 0 none, .i .i64 0, .rf 10 [] 0 none, .b false, .i .i64 0], .row true [.sl true [.b, .sl false [.i .u8]], .i .i64, .b] [] 0 false, .row true [.i .i64, .i .i64, .i .i64] [] 0 false, .box [.rf 12 [] 0 none, .i .i64 0, .rf 13 [] 0 none, .b false, .i .i64 0], .row true [.sl true [.b, .sl false [.i .u8]], .i .i64, .b] [] 0 false, .row true [.i .i64, .i .i64, .i .i64] [] 0 false, .row false [.i .u8] [] 0 false]⟩, x104_3_0)]⟩], false, [.ag [.mv (.sl true [.sl true [.b, .sl false [.i .u8]], .i .i64, .b]), .v (.i .i64), .mv (.sl true [.i .i64, .i .i64, .i .i64]), .v (.b), .v (.i .i64)], .v (.i .i64), .ro (.sl false [.i .u8]), .v (.i .i64)], [.ag [.ow (.sl true [.sl true [.b, .sl false [.i .u8]], .i .i64, .b]), .v (.i .i64), .ow (.sl true [.i .i64, .i .i64, .i .i64]), .v (.b), .v (.i .i64)], .v (.i .i64), .v (.i .i64)]⟩
noncomputable def fi46 : Fi := ⟨Try.f46, [], false, [.ag [.ro (.sl true [.sl true [.b, .sl false [.i .u8]], .i .i64, .b]), .v (.i .i64), .ro (.sl true [.i .i64, .i .i64, .i .i64]), .v (.b), .v (.i .i64)], .v (.i .i64), .ro (.sl false [.i .u8]), .v (.i .i64)], [.ag [.ow (.sl true [.sl true [.b, .sl false [.i .u8]], .i .i64, .b]), .v (.i .i64), .ow (.sl true [.i .i64, .i .i64, .i .i64]), .v (.b), .v (.i .i64)], .v (.i .i64), .v (.i .i64)]⟩
noncomputable def fi106 : Fi := ⟨Try.f106, [], false, [.bx [.ro (.sl false [.i .u8]), .v (.i .i64), .v (.i .i64)], .v (.i .i64)], [.v (.b)]⟩
def x85_3_0 : List (Ex × List Nat × CSt) := [((.ex 0), [2, 3], ⟨[.bp 4 0, .bp 7 0], [.box [.ro 1 false [.i .u8] [], .i .i64 0, .i .i64 0], .dead, .dead, .dead, .box [.rf 5 [] 0 none, .i .i64 0, .rf 6 [] 0 none, .b false, .i .i64 0], .row true [.sl true [.b, .sl false [.i .u8]], .i .i64, .b] [] 0 false, .row true [.i .i64, .i .i64, .i .i64] [] 0 false, .box [.rf 8 [] 0 none, .i .i64 0, .rf 9 [] 0 none, .b false, .i .i64 0], .row true [.sl true [.b, .sl false [.i .u8]], .i .i64, .b] [] 0 false, .row true [.i .i64, .i .i64, .i .i64] [] 0 false]⟩)]
noncomputable def fi85 : Fi := ⟨Try.f85, [⟨3, [0, 2, 3, 4], [], [(⟨[.bp 0 0, .bp 4 0, .bp 7 0, .i .i64 0], [.box [.ro 1 false [.i .u8] [], .i .i64 0, .i .i64 0], .dead, .dead, .dead, .box [.rf 5 [] 0 none, .i .i64 0, .rf 6 [] 0 none, .b false, .i .i64 0], .row true [.sl true [.b, .sl false [.i .u8]], .i .i64, .b] [] 0 false, .row true [.i .i64, .i .i64, .i .i64] [] 0 false, .box [.rf 8 [] 0 none, .i .i64 0, .rf 9 [] 0 none, .b false, .i .i64 0], .row true [.sl true [.b, .sl false [.i .u8]], .i .i64, .b] [] 0 false, .row true [.i .i64, .i .i64, .i .i64] [] 0 false]⟩, x85_3_0)]⟩], false, [.bx [.ro (.sl false [.i .u8]), .v (.i .i64), .v (.i .i64)]], [.ag [.ow (.sl true [.sl true [.b, .sl false [.i .u8]], .i .i64, .b]), .v (.i .i64), .ow (.sl true [.i .i64, .i .i64, .i .i64]), .v (.b), .v (.i .i64)]]⟩
noncomputable def fi245 : Fi := ⟨Try.f245, [], false, [.ag [.ro (.sl true [.sl true [.b, .sl false [.i .u8]], .i .i64, .b])], .v (.i .i64)], [.v (.i .i64)]⟩
noncomputable def fi246 : Fi := ⟨Try.f246, [], false, [.ag [.ro (.sl true [.sl true [.b, .sl false [.i .u8]], .i .i64, .b])], .v (.i .i64)], [.ag [.ow (.sl true [.sl true [.b, .sl false [.i .u8]], .i .i64, .b])], .v (.i .i64)]⟩
def x225_14_0 : List (Ex × List Nat × CSt) := [((.ex 0), [4, 6], ⟨[.bp 5 0, .bp 8 0], [.dead, .dead, .dead, .dead, .dead, .box [.rf 6 [] 0 none, .i .i64 0, .rf 7 [] 0 none, .b false], .row true [.sl true [.b, .sl false [.i .u8]], .i .i64, .b] [] 0 false, .row true [.i .i64, .i .i64, .i .i64] [] 0 false, .box [.rf 9 [] 0 none, .i .i64 0, .rf 10 [] 0 none, .b false], .row true [.sl true [.b, .sl false [.i .u8]], .i .i64, .b] [] 0 false, .row true [.i .i64, .i .i64, .i .i64] [] 0 false]⟩)]
noncomputable def fi225 : Fi := ⟨Try.f225, [⟨14, [1, 4, 6, 8, 10], [], [(⟨[.i .i64 0, .bp 5 0, .bp 8 0, .bp 11 0, .i .i64 0], [.dead, .dead, .dead, .dead, .dead, .box [.rf 6 [] 0 none, .i .i64 0, .rf 7 [] 0 none, .b false], .row true [.sl true [.b, .sl false [.i .u8]], .i .i64, .b] [] 0 false, .row true [.i .i64, .i .i64, .i .i64] [] 0 false, .box [.rf 9 [] 0 none, .i .i64 0, .rf 10 [] 0 none, .b false], .row true [.sl true [.b, .sl false [.i .u8]], .i .i64, .b] [] 0 false, .row true [.i .i64, .i .i64, .i .i64] [] 0 false, .box [.i .i64 0, .i .i64 0, .i .i64 0]]⟩, x225_14_0)]⟩], false, [.ag [.ro (.sl true [.sl true [.b, .sl false [.i .u8]], .i .i64, .b]), .v (.i .i64), .ro (.sl true [.i .i64, .i .i64, .i .i64]), .v (.b)], .v (.i .i64)], [.ag [.ow (.sl true [.sl true [.b, .sl false [.i .u8]], .i .i64, .b]), .v (.i .i64), .ow (.sl true [.i .i64, .i .i64, .i .i64]), .v (.b)], .v (.i .i64)]⟩
def x190_3_0 : List (Ex × List Nat × CSt) := [((.ex 0), [2, 3], ⟨[.bp 4 0, .bp 7 0], [.box [.ro 1 false [.i .u8] [], .i .i64 0, .i .i64 0], .dead, .dead, .dead, .box [.rf 5 [] 0 none, .i .i64 0, .rf 6 [] 0 none, .b false], .row true [.sl true [.b, .sl false [.i .u8]], .i .i64, .b] [] 0 false, .row true [.i .i64, .i .i64, .i .i64] [] 0 false, .box [.rf 8 [] 0 none, .i .i64 0, .rf 9 [] 0 none, .b false], .row true [.sl true [.b, .sl false [.i .u8]], .i .i64, .b] [] 0 false, .row true [.i .i64, .i .i64, .i .i64] [] 0 false]⟩)]
noncomputable def fi190 : Fi := ⟨Try.f190, [⟨3, [0, 2, 3, 4], [], [(⟨[.bp 0 0, .bp 4 0, .bp 7 0, .i .i64 0], [.box [.ro 1 false [.i .u8] [], .i .i64 0, .i .i64 0], .dead, .dead, .dead, .box [.rf 5 [] 0 none, .i .i64 0, .rf 6 [] 0 none, .b false], .row true [.sl true [.b, .sl false [.i .u8]], .i .i64, .b] [] 0 false, .row true [.i .i64, .i .i64, .i .i64] [] 0 false, .box [.rf 8 [] 0 none, .i .i64 0, .rf 9 [] 0 none, .b false], .row true [.sl true [.b, .sl false [.i .u8]], .i .i64, .b] [] 0 false, .row true [.i .i64, .i .i64, .i .i64] [] 0 false]⟩, x190_3_0)]⟩], false, [.bx [.ro (.sl false [.i .u8]), .v (.i .i64), .v (.i .i64)]], [.ag [.ow (.sl true [.sl true [.b, .sl false [.i .u8]], .i .i64, .b]), .v (.i .i64), .ow (.sl true [.i .i64, .i .i64, .i .i64]), .v (.b)]]⟩
def x226_3_0 : List (Ex × List Nat × CSt) := [((.ex 0), [0, 2, 3], ⟨[.bp 0 0, .bp 4 0, .bp 6 0], [.box [.ro 1 false [.i .u8] [], .i .i64 0, .i .i64 0], .dead, .dead, .dead, .box [.rf 5 [] 0 none], .row true [.sl true [.b, .sl false [.i .u8]], .i .i64, .b] [] 0 false, .box [.rf 7 [] 0 none], .row true [.sl true [.b, .sl false [.i .u8]], .i .i64, .b] [] 0 false]⟩)]
noncomputable def fi226 : Fi := ⟨Try.f226, [⟨3, [0, 2, 3, 4], [], [(⟨[.bp 0 0, .bp 4 0, .bp 6 0, .i .i64 0], [.box [.ro 1 false [.i .u8] [], .i .i64 0, .i .i64 0], .dead, .dead, .dead, .box [.rf 5 [] 0 none], .row true [.sl true [.b, .sl false [.i .u8]], .i .i64, .b] [] 0 false, .box [.rf 7 [] 0 none], .row true [.sl true [.b, .sl false [.i .u8]], .i .i64, .b] [] 0 false]⟩, x226_3_0)]⟩], false, [.bx [.ro (.sl false [.i .u8]), .v (.i .i64), .v (.i .i64)]], [.ag [.ow (.sl true [.sl true [.b, .sl false [.i .u8]], .i .i64, .b])]]⟩
noncomputable def fi191 : Fi := ⟨Try.f191, [], false, [.bx [.ro (.sl false [.i .u8]), .v (.i .i64), .v (.i .i64)]], [.ag [.ow (.sl true [.sl true [.b, .sl false [.i .u8]], .i .i64, .b])]]⟩
noncomputable def fi148 : Fi := ⟨Try.f148, [], false, [.bx [.ro (.sl false [.i .u8]), .v (.i .i64), .v (.i .i64)]], [.ag [.ow (.sl true [.sl true [.b, .sl false [.i .u8]], .i .i64, .b]), .v (.i .i64), .ow (.sl true [.i .i64, .i .i64, .i .i64]), .v (.b)]]⟩
noncomputable def fi95 : Fi := ⟨Try.f95, [], false, [.bx [.ro (.sl false [.i .u8]), .v (.i .i64), .v (.i .i64)]], [.ag [.ow (.sl true [.sl true [.b, .sl false [.i .u8]], .i .i64, .b]), .v (.i .i64), .ow (.sl true [.i .i64, .i .i64, .i .i64]), .v (.b), .v (.i .i64)]]⟩
noncomputable def fi51 : Fi := ⟨Try.f51, [], false, [.ro (.sl false [.i .u8])], [.ag [.ow (.sl true [.sl true [.b, .sl false [.i .u8]], .i .i64, .b]), .v (.i .i64), .ow (.sl true [.i .i64, .i .i64, .i .i64]), .v (.b), .v (.i .i64)], .v (.i .i64), .ow (.sl false [.i .u8]), .v (.i .i64)]⟩
noncomputable def fi147 : Fi := ⟨Try.f147, [], false, [.ro (.sl false [.i .u8])], [.ow (.sl false [.i .u8])]⟩
def x141_3_0 : List (Ex × List Nat × CSt) := [((.ex 0), [2, 3], ⟨[.bp 1 0, .bp 3 0], [.dead, .box [.rf 2 [] 0 none], .row true [.sl true [.b, .sl false [.i .u8]], .i .i64, .b] [] 0 false, .box [.rf 4 [] 0 none], .row true [.sl true [.b, .sl false [.i .u8]], .i .i64, .b] [] 0 false]⟩)]
def x141_7_0 : List (Ex × List Nat × CSt) := [((.ex 2), [2, 3, 5, 6, 11, 12, 13], ⟨[.bp 1 0, .bp 3 0, .bp 5 0, .rf 6 [] 0 none, .ro 0 true [.sl true [.b, .sl false [.i .u8]], .i .i64, .b] [], .i .i64 0, .i .i64 0], [.dead, .box [.rf 2 [] 0 none], .row true [.sl true [.b, .sl false [.i .u8]], .i .i64, .b] [] 0 false, .box [.rf 4 [] 0 none], .row true [.sl true [.b, .sl false [.i .u8]], .i .i64, .b] [] 0 false, .box [.ro 0 true [.b, .sl false [.i .u8]] [], .i .i64 0, .b false], .row true [.b, .sl false [.i .u8]] [] 0 false]⟩)]
noncomputable def fi141 : Fi := ⟨Try.f141, [⟨3, [2, 3, 11, 12, 13], [], [(⟨[.bp 1 0, .bp 3 0, .ro 0 true [.sl true [.b, .sl false [.i .u8]], .i .i64, .b] [], .i .i64 0, .i .i64 0], [.dead, .box [.rf 2 [] 0 none], .row true [.sl true [.b, .sl false [.i .u8]], .i .i64, .b] [] 0 false, .box [.rf 4 [] 0 none], .row true [.sl true [.b, .sl false [.i .u8]], .i .i64, .b] [] 0 false]⟩, x141_3_0)]⟩, ⟨7, [2, 3, 5, 6, 11, 12, 13, 19, 20, 21], [], [(⟨[.bp 1 0, .bp 3 0, .bp 5 0, .rf 6 [] 0 none, .ro 0 true [.sl true [.b, .sl false [.i .u8]], .i .i64, .b] [], .i .i64 0, .i .i64 0, .ro 0 true [.b, .sl false [.i .u8]] [], .i .i64 0, .i .i64 0], [.dead, .box [.rf 2 [] 0 none], .row true [.sl true [.b, .sl false [.i .u8]], .i .i64, .b] [] 0 false, .box [.rf 4 [] 0 none], .row true [.sl true [.b, .sl false [.i .u8]], .i .i64, .b] [] 0 false, .box [.ro 0 true [.b, .sl false [.i .u8]] [], .i .i64 0, .b false], .row true [.b, .sl false [.i .u8]] [] 0 false]⟩, x141_7_0)]⟩], false, [.ag [.ro (.sl true [.sl true [.b, .sl false [.i .u8]], .i .i64, .b])]], [.ag [.ow (.sl true [.sl true [.b, .sl false [.i .u8]], .i .i64, .b])]]⟩
noncomputable def fi142 : Fi := ⟨Try.f142, [], false, [.ro (.sl true [.i .i64, .i .i64, .i .i64])], [.ow (.sl true [.i .i64, .i .i64, .i .i64])]⟩
noncomputable def fi87 : Fi := ⟨Try.f87, [], false, [.ag [.ro (.sl true [.sl true [.b, .sl false [.i .u8]], .i .i64, .b]), .v (.i .i64), .ro (.sl true [.i .i64, .i .i64, .i .i64]), .v (.b)]], [.ag [.ow (.sl true [.sl true [.b, .sl false [.i .u8]], .i .i64, .b]), .v (.i .i64), .ow (.sl true [.i .i64, .i .i64, .i .i64]), .v (.b)]]⟩
noncomputable def fi88 : Fi := ⟨Try.f88, [], false, [.ag [.ro (.sl true [.sl true [.b, .sl false [.i .u8]], .i .i64, .b]), .v (.i .i64), .ro (.sl true [.i .i64, .i .i64, .i .i64]), .v (.b), .v (.i .i64)]], [.ag [.ow (.sl true [.sl true [.b, .sl false [.i .u8]], .i .i64, .b]), .v (.i .i64), .ow (.sl true [.i .i64, .i .i64, .i .i64]), .v (.b), .v (.i .i64)]]⟩
noncomputable def fi75 : Fi := ⟨Try.f75, [], false, [.v (.i .i64), .v (.i .i64), .v (.i .i64)], [.v (.b)]⟩
noncomputable def fi89 : Fi := ⟨Try.f89, [], false, [.ag [.v (.i .i64), .v (.i .i64), .ro (.sl false [.i .u8])]], [.v (.b)]⟩
def x128_2_0 : List (Ex × List Nat × CSt) := [(.ret, [2], ⟨[.b false], [.dead]⟩), ((.ex 0), [1], ⟨[.bp 1 0], [.dead, .box [.ro 0 true [.sl true [.b, .sl false [.i .u8]], .i .i64, .b] []]]⟩)]
def x128_7_0 : List (Ex × List Nat × CSt) := [(.ret, [2], ⟨[.b false], [.dead]⟩), ((.ex 2), [1, 8, 9, 10], ⟨[.bp 1 0, .ro 0 true [.sl true [.b, .sl false [.i .u8]], .i .i64, .b] [], .i .i64 0, .i .i64 0], [.dead, .box [.ro 0 true [.sl true [.b, .sl false [.i .u8]], .i .i64, .b] []]]⟩)]
noncomputable def fi128 : Fi := ⟨Try.f128, [⟨2, [1, 8, 9, 10], [], [(⟨[.bp 1 0, .ro 0 true [.sl true [.b, .sl false [.i .u8]], .i .i64, .b] [], .i .i64 0, .i .i64 0], [.dead, .box [.ro 0 true [.sl true [.b, .sl false [.i .u8]], .i .i64, .b] []]]⟩, x128_2_0)]⟩, ⟨7, [1, 4, 8, 9, 10, 25, 26, 27], [], [(⟨[.bp 1 0, .bp 2 0, .ro 0 true [.sl true [.b, .sl false [.i .u8]], .i .i64, .b] [], .i .i64 0, .i .i64 0, .ro 0 true [.b, .sl false [.i .u8]] [], .i .i64 0, .i .i64 0], [.dead, .box [.ro 0 true [.sl true [.b, .sl false [.i .u8]], .i .i64, .b] []], .box [.ro 0 true [.b, .sl false [.i .u8]] [], .i .i64 0, .b false]]⟩, x128_7_0)]⟩], false, [.ag [.ro (.sl true [.sl true [.b, .sl false [.i .u8]], .i .i64, .b])]], [.v (.b)]⟩
def x74_2_0 : List (Ex × List Nat × CSt) := [(.ret, [2], ⟨[.b false], [.dead, .dead, .dead, .dead]⟩), ((.ex 0), [1], ⟨[.bp 4 0], [.dead, .dead, .dead, .dead, .box [.ro 0 true [.sl true [.b, .sl false [.i .u8]], .i .i64, .b] [], .i .i64 0, .ro 0 true [.i .i64, .i .i64, .i .i64] [], .b false]]⟩)]
noncomputable def fi74 : Fi := ⟨Try.f74, [⟨2, [1, 6, 7, 8], [], [(⟨[.bp 4 0, .ro 0 true [.i .i64, .i .i64, .i .i64] [], .i .i64 0, .i .i64 0], [.dead, .dead, .dead, .dead, .box [.ro 0 true [.sl true [.b, .sl false [.i .u8]], .i .i64, .b] [], .i .i64 0, .ro 0 true [.i .i64, .i .i64, .i .i64] [], .b false]]⟩, x74_2_0)]⟩], false, [.ag [.ro (.sl true [.sl true [.b, .sl false [.i .u8]], .i .i64, .b]), .v (.i .i64), .ro (.sl true [.i .i64, .i .i64, .i .i64]), .v (.b)]], [.v (.b)]⟩
noncomputable def fi94 : Fi := ⟨Try.f94, [], false, [.ag [.ro (.sl true [.sl true [.b, .sl false [.i .u8]], .i .i64, .b])], .v (.i .i64)], [.v (.b)]⟩
def x38_5_0 : List (Ex × List Nat × CSt) := [((.ex 0), [5], ⟨[.i .i64 0], [.dead, .dead]⟩)]
noncomputable def fi38 : Fi := ⟨Try.f38, [⟨5, [5, 17, 18, 19], [], [(⟨[.i .i64 0, .ro 0 true [.b, .sl false [.i .u8]] [], .i .i64 0, .i .i64 0], [.dead, .dead]⟩, x38_5_0)]⟩], false, [.ag [.ro (.sl true [.sl true [.b, .sl false [.i .u8]], .i .i64, .b])], .v (.i .i64)], [.v (.i .i64)]⟩
def x34_3_0 : List (Ex × List Nat × CSt) := [((.ex 0), [3], ⟨[.i .i64 0], [.dead, .dead, .dead, .dead, .dead]⟩)]
noncomputable def fi34 : Fi := ⟨Try.f34, [⟨3, [1, 3, 9, 10, 11], [], [(⟨[.bp 5 0, .i .i64 0, .ro 0 true [.sl true [.b, .sl false [.i .u8]], .i .i64, .b] [], .i .i64 0, .i .i64 0], [.dead, .dead, .dead, .dead, .dead, .box [.ro 0 true [.sl true [.b, .sl false [.i .u8]], .i .i64, .b] [], .i .i64 0, .ro 0 true [.i .i64, .i .i64, .i .i64] [], .b false, .i .i64 0]]⟩, x34_3_0)]⟩], false, [.ag [.ro (.sl true [.sl true [.b, .sl false [.i .u8]], .i .i64, .b]), .v (.i .i64), .ro (.sl true [.i .i64, .i .i64, .i .i64]), .v (.b), .v (.i .i64)]], [.v (.i .i64)]⟩
def x35_3_0 : List (Ex × List Nat × CSt) := [(.ret, [4], ⟨[.i .i64 0], [.dead, .dead, .dead, .dead, .dead, .dead]⟩), ((.ex 0), [1, 2, 5], ⟨[.i .i64 0, .bp 6 0, .i .i64 0], [.dead, .dead, .dead, .dead, .dead, .dead, .box [.ro 0 true [.sl true [.b, .sl false [.i .u8]], .i .i64, .b] [], .i .i64 0, .ro 0 true [.i .i64, .i .i64, .i .i64] [], .b false, .i .i64 0]]⟩)]
noncomputable def fi35 : Fi := ⟨Try.f35, [⟨3, [1, 2, 5, 12, 13, 14], [], [(⟨[.i .i64 0, .bp 6 0, .i .i64 0, .ro 0 true [.sl true [.b, .sl false [.i .u8]], .i .i64, .b] [], .i .i64 0, .i .i64 0], [.dead, .dead, .dead, .dead, .dead, .dead, .box [.ro 0 true [.sl true [.b, .sl false [.i .u8]], .i .i64, .b] [], .i .i64 0, .ro 0 true [.i .i64, .i .i64, .i .i64] [], .b false, .i .i64 0]]⟩, x35_3_0)]⟩], false, [.ag [.ro (.sl true [.sl true [.b, .sl false [.i .u8]], .i .i64, .b]), .v (.i .i64), .ro (.sl true [.i .i64, .i .i64, .i .i64]), .v (.b), .v (.i .i64)], .v (.i .i64)], [.v (.i .i64)]⟩
def x93_3_0 : List (Ex × List Nat × CSt) := [((.ex 0), [1, 5], ⟨[.i .i64 0, .rf 2 [] 0 none], [.dead, .dead, .row false [.i .u8] [] 0 false]⟩)]
noncomputable def fi93 : Fi := ⟨Try.f93, [⟨3, [1, 5], [], [(⟨[.i .i64 0, .rf 2 [] 0 none], [.dead, .dead, .row false [.i .u8] [] 0 false]⟩, x93_3_0)]⟩], false, [.ro (.sl false [.i .u8]), .v (.i .i64)], [.ow (.sl false [.i .u8])]⟩
noncomputable def fi92 : Fi := ⟨Try.f92, [], false, [.ro (.sl false [.i .u8]), .v (.s)], [.ow (.sl false [.i .u8])]⟩
def x146_3_0 : List (Ex × List Nat × CSt) := [((.ex 0), [3], ⟨[.i .u32 0], [.dead]⟩)]
def x146_7_0 : List (Ex × List Nat × CSt) := [((.ex 2), [3, 7, 8, 9], ⟨[.i .u32 0, .ro 0 false [.i .u8] [], .i .i64 0, .i .i64 0], [.dead]⟩)]
noncomputable def fi146 : Fi := ⟨Try.f146, [⟨3, [3, 7, 8, 9], [], [(⟨[.i .u32 0, .ro 0 false [.i .u8] [], .i .i64 0, .i .i64 0], [.dead]⟩, x146_3_0)]⟩, ⟨7, [3, 7, 8, 9, 17], [], [(⟨[.i .u32 0, .ro 0 false [.i .u8] [], .i .i64 0, .i .i64 0, .i .i64 0], [.dead]⟩, x146_7_0)]⟩], false, [.ro (.sl false [.i .u8])], [.v (.i .i64)]⟩
noncomputable def fi91 : Fi := ⟨Try.f91, [], false, [.ro (.sl false [.i .u8])], [.ow (.sl false [.i .u8])]⟩
noncomputable def fi37 : Fi := ⟨Try.f37, [], false, [.ag [.v (.i .i64), .v (.i .i64), .ro (.sl false [.i .u8])]], [.ow (.sl false [.i .u8])]⟩
noncomputable def fi143 : Fi := ⟨Try.f143, [], false, [.ag [.ro (.sl true [.sl true [.b, .sl false [.i .u8]], .i .i64, .b])], .v (.i .i64), .ro (.sl false [.i .u8])], [.ag [.ow (.sl true [.sl true [.b, .sl false [.i .u8]], .i .i64, .b])], .v (.i .i64)]⟩
noncomputable def fi145 : Fi := ⟨Try.f145, [], true, [.v .b], []⟩
def x189_2_0 : List (Ex × List Nat × CSt) := [(.ret, [2, 3], ⟨[.bp 4 0, .b false], [.dead, .dead, .dead, .dead, .box [.i .i64 0, .i .i64 0, .i .i64 0]]⟩), ((.ex 0), [2], ⟨[.bp 4 0], [.dead, .dead, .dead, .dead, .box [.i .i64 0, .i .i64 0, .i .i64 0]]⟩)]
noncomputable def fi189 : Fi := ⟨Try.f189, [⟨2, [1, 2, 7, 8, 9], [], [(⟨[.bp 4 0, .bp 5 0, .ro 0 true [.i .i64, .i .i64, .i .i64] [], .i .i64 0, .i .i64 0], [.dead, .dead, .dead, .dead, .box [.ro 0 true [.sl true [.b, .sl false [.i .u8]], .i .i64, .b] [], .i .i64 0, .ro 0 true [.i .i64, .i .i64, .i .i64] [], .b false], .box [.i .i64 0, .i .i64 0, .i .i64 0]]⟩, x189_2_0)]⟩], false, [.ag [.ro (.sl true [.sl true [.b, .sl false [.i .u8]], .i .i64, .b]), .v (.i .i64), .ro (.sl true [.i .i64, .i .i64, .i .i64]), .v (.b)]], [.ag [.v (.i .i64), .v (.i .i64), .v (.i .i64)], .v (.b)]⟩
noncomputable def fi144 : Fi := ⟨Try.f144, [], true, [], []⟩
noncomputable def fi90 : Fi := ⟨Try.f90, [], false, [.ag [.ro (.sl true [.sl true [.b, .sl false [.i .u8]], .i .i64, .b]), .v (.i .i64), .ro (.sl true [.i .i64, .i .i64, .i .i64]), .v (.b)], .v (.i .i64), .ro (.sl false [.i .u8])], [.ag [.ow (.sl true [.sl true [.b, .sl false [.i .u8]], .i .i64, .b]), .v (.i .i64), .ow (.sl true [.i .i64, .i .i64, .i .i64]), .v (.b)], .v (.i .i64)]⟩
def x32_5_0 : List (Ex × List Nat × CSt) := [(.ret, [8, 9, 10], ⟨[.bp 8 0, .i .i64 0, .i .i64 0], [.dead, .dead, .dead, .dead, .dead, .dead, .dead, .dead, .box [.rf 9 [] 0 none, .i .i64 0, .rf 10 [] 0 none, .b false, .i .i64 0], .row true [.sl true [.b, .sl false [.i .u8]], .i .i64, .b] [] 0 false, .row true [.i .i64, .i .i64, .i .i64] [] 0 false]⟩)]
noncomputable def fi32 : Fi := ⟨Try.f32, [⟨5, [3, 4, 8, 11], [], [(⟨[.i .i64 0, .bp 8 0, .bp 11 0, .bp 14 0], [.dead, .dead, .dead, .dead, .dead, .dead, .dead, .dead, .box [.rf 9 [] 0 none, .i .i64 0, .rf 10 [] 0 none, .b false, .i .i64 0], .row true [.sl true [.b, .sl false [.i .u8]], .i .i64, .b] [] 0 false, .row true [.i .i64, .i .i64, .i .i64] [] 0 false, .box [.rf 12 [] 0 none, .i .i64 0, .rf 13 [] 0 none, .b false, .i .i64 0], .row true [.sl true [.b, .sl false [.i .u8]], .i .i64, .b] [] 0 false, .row true [.i .i64, .i .i64, .i .i64] [] 0 false, .box [.i .i64 0, .i .i64 0, .ro 0 false [.i .u8] []]]⟩, x32_5_0)]⟩], false, [.ag [.ro (.sl true [.sl true [.b, .sl false [.i .u8]], .i .i64, .b]), .v (.i .i64), .ro (.sl true [.i .i64, .i .i64, .i .i64]), .v (.b), .v (.i .i64)], .v (.i .i64), .ro (.sl false [.i .u8]), .v (.i .i64)], [.ag [.ow (.sl true [.sl true [.b, .sl false [.i .u8]], .i .i64, .b]), .v (.i .i64), .ow (.sl true [.i .i64, .i .i64, .i .i64]), .v (.b), .v (.i .i64)], .v (.i .i64), .v (.i .i64)]⟩
def x33_4_0 : List (Ex × List Nat × CSt) := [(.ret, [4], ⟨[.b false], [.dead, .dead]⟩), ((.ex 0), [], ⟨[], [.dead, .dead]⟩)]
noncomputable def fi33 : Fi := ⟨Try.f33, [⟨4, [0, 1, 5], [], [(⟨[.ro 0 false [.i .u8] [], .ro 0 false [.i .u8] [], .i .i64 0], [.dead, .dead]⟩, x33_4_0)]⟩], false, [.ro (.sl false [.i .u8]), .ro (.sl false [.i .u8])], [.v (.b)]⟩
def x52_4_0 : List (Ex × List Nat × CSt) := [(.ret, [4], ⟨[.b false], [.dead, .dead]⟩), ((.ex 0), [], ⟨[], [.dead, .dead]⟩)]
def x52_11_0 : List (Ex × List Nat × CSt) := [(.ret, [4], ⟨[.b false], [.dead, .dead]⟩), ((.ex 2), [2, 3, 5], ⟨[.bp 2 0, .bp 3 0, .i .i64 0], [.dead, .dead, .box [.ro 0 true [.sl true [.b, .sl false [.i .u8]], .i .i64, .b] []], .box [.ro 0 true [.sl true [.b, .sl false [.i .u8]], .i .i64, .b] []]]⟩)]
noncomputable def fi52 : Fi := ⟨Try.f52, [⟨4, [2, 3, 5], [], [(⟨[.bp 2 0, .bp 3 0, .i .i64 0], [.dead, .dead, .box [.ro 0 true [.sl true [.b, .sl false [.i .u8]], .i .i64, .b] []], .box [.ro 0 true [.sl true [.b, .sl false [.i .u8]], .i .i64, .b] []]]⟩, x52_4_0)]⟩, ⟨11, [2, 3, 5, 6, 7, 8], [], [(⟨[.bp 2 0, .bp 3 0, .i .i64 0, .bp 4 0, .bp 5 0, .i .i64 0], [.dead, .dead, .box [.ro 0 true [.sl true [.b, .sl false [.i .u8]], .i .i64, .b] []], .box [.ro 0 true [.sl true [.b, .sl false [.i .u8]], .i .i64, .b] []], .box [.ro 0 true [.b, .sl false [.i .u8]] [], .i .i64 0, .b false], .box [.ro 0 true [.b, .sl false [.i .u8]] [], .i .i64 0, .b false]]⟩, x52_11_0)]⟩], false, [.ag [.ro (.sl true [.sl true [.b, .sl false [.i .u8]], .i .i64, .b])], .ag [.ro (.sl true [.sl true [.b, .sl false [.i .u8]], .i .i64, .b])]], [.v (.b)]⟩
noncomputable def fi134 : Fi := ⟨Try.f134, [], false, [.ag [.ro (.sl true [.sl true [.b, .sl false [.i .u8]], .i .i64, .b])], .v (.i .i64), .v (.i .i64)], [.ow (.sl false [.i .u8]), .v (.b)]⟩
noncomputable def fi183 : Fi := ⟨Try.f183, [], false, [.ro (.sl false [.i .u8])], [.ro (.sl false [.i .u8]), .v (.b)]⟩
def x222_6_0 : List (Ex × List Nat × CSt) := [((.ex 0), [], ⟨[], [.dead, .dead]⟩), (.ret, [4, 5, 6], ⟨[.i .i64 0, .i .i64 0, .b false], [.dead, .dead]⟩)]
noncomputable def fi222 : Fi := ⟨Try.f222, [⟨6, [0, 1, 7, 8, 9], [], [(⟨[.ro 0 false [.i .u8] [], .i .i64 0, .i .i64 0, .i .i64 0, .i .i64 0], [.dead, .dead]⟩, x222_6_0)]⟩], false, [.ro (.sl false [.i .u8]), .v (.i .i64)], [.v (.i .i64), .v (.i .i64), .v (.b)]⟩
noncomputable def fi184 : Fi := ⟨Try.f184, [], false, [.bx [.ro (.sl false [.i .u8]), .v (.i .i64), .v (.b)]], [.v (.i .i64)]⟩
noncomputable def fi223 : Fi := ⟨Try.f223, [], false, [.ro (.sl false [.i .u8]), .v (.i .i64)], [.v (.s), .v (.i .i64), .v (.b)]⟩
noncomputable def fi185 : Fi := ⟨Try.f185, [], false, [.bx [.ro (.sl false [.i .u8]), .v (.i .i64), .v (.b)]], [.v (.s)]⟩
noncomputable def fi186 : Fi := ⟨Try.f186, [], false, [.bx [.ro (.sl false [.i .u8]), .v (.i .i64), .v (.b)]], [.v (.b)]⟩
noncomputable def fi135 : Fi := ⟨Try.f135, [], false, [.ro (.sl false [.i .u8])], [.ag [.v (.i .i64), .v (.i .i64), .ow (.sl false [.i .u8])], .v (.b)]⟩
noncomputable def fi81 : Fi := ⟨Try.f81, [], false, [.ag [.ro (.sl true [.sl true [.b, .sl false [.i .u8]], .i .i64, .b]), .v (.i .i64), .ro (.sl true [.i .i64, .i .i64, .i .i64]), .v (.b), .v (.i .i64)], .v (.i .i64)], [.ag [.v (.i .i64), .v (.i .i64), .ow (.sl false [.i .u8])], .v (.b)]⟩
noncomputable def fi24 : Fi := ⟨Try.f24, [], false, [.ag [.ro (.sl true [.sl true [.b, .sl false [.i .u8]], .i .i64, .b]), .v (.i .i64), .ro (.sl true [.i .i64, .i .i64, .i .i64]), .v (.b), .v (.i .i64)], .v (.i .i64), .v (.i .i64)], [.ag [.v (.i .i64), .v (.i .i64), .ow (.sl false [.i .u8])], .v (.b)]⟩
def x181_3_0 : List (Ex × List Nat × CSt) := [(.ret, [4, 5, 6], ⟨[.i .i64 0, .i .i64 0, .b false], [.dead, .dead]⟩), ((.ex 0), [], ⟨[], [.dead, .dead]⟩)]
noncomputable def fi181 : Fi := ⟨Try.f181, [⟨3, [0, 1, 7, 8], [], [(⟨[.ro 0 false [.i .u8] [], .i .i64 0, .i .i64 0, .i .i64 0], [.dead, .dead]⟩, x181_3_0)]⟩], false, [.ro (.sl false [.i .u8]), .v (.i .i64)], [.v (.i .i64), .v (.i .i64), .v (.b)]⟩
noncomputable def fi131 : Fi := ⟨Try.f131, [], false, [.bx [.ro (.sl false [.i .u8]), .v (.i .i64), .v (.b)]], [.v (.i .i64)]⟩
noncomputable def fi182 : Fi := ⟨Try.f182, [], false, [.ro (.sl false [.i .u8]), .v (.i .i64)], [.v (.s), .v (.i .i64), .v (.b)]⟩
noncomputable def fi132 : Fi := ⟨Try.f132, [], false, [.bx [.ro (.sl false [.i .u8]), .v (.i .i64), .v (.b)]], [.v (.s)]⟩
def x80_6_0 : List (Ex × List Nat × CSt) := [((.ex 0), [0, 2, 4, 5], ⟨[.ro 0 false [.i .u8] [], .bp 1 0, .i .i64 0, .i .i64 0], [.dead, .box [.i .i64 0, .i .i64 0, .rf 2 [] 0 none], .row false [.i .u8] [] 0 false]⟩)]
noncomputable def fi80 : Fi := ⟨Try.f80, [⟨6, [0, 2, 4, 5, 6], [], [(⟨[.ro 0 false [.i .u8] [], .bp 1 0, .i .i64 0, .i .i64 0, .i .i64 0], [.dead, .box [.i .i64 0, .i .i64 0, .rf 2 [] 0 none], .row false [.i .u8] [] 0 false]⟩, x80_6_0)]⟩], false, [.ro (.sl false [.i .u8])], [.ag [.v (.i .i64), .v (.i .i64), .ow (.sl false [.i .u8])], .v (.b)]⟩
def x72_3_0 : List (Ex × List Nat × CSt) := [((.ex 0), [3], ⟨[.i .i64 0], [.dead]⟩)]
def x72_6_0 : List (Ex × List Nat × CSt) := [((.ex 2), [1, 3, 4], ⟨[.bp 1 0, .i .i64 0, .i .i64 0], [.dead, .box [.ro 0 true [.sl true [.b, .sl false [.i .u8]], .i .i64, .b] []]]⟩)]
noncomputable def fi72 : Fi := ⟨Try.f72, [⟨3, [1, 3, 4], [], [(⟨[.bp 1 0, .i .i64 0, .i .i64 0], [.dead, .box [.ro 0 true [.sl true [.b, .sl false [.i .u8]], .i .i64, .b] []]]⟩, x72_3_0)]⟩, ⟨6, [1, 3, 4, 5], [], [(⟨[.bp 1 0, .i .i64 0, .i .i64 0, .i .i64 0], [.dead, .box [.ro 0 true [.sl true [.b, .sl false [.i .u8]], .i .i64, .b] []]]⟩, x72_6_0)]⟩], false, [.ag [.ro (.sl true [.sl true [.b, .sl false [.i .u8]], .i .i64, .b])]], [.v (.i .i64)]⟩
noncomputable def fi19 : Fi := ⟨Try.f19, [], false, [.ag [.ro (.sl true [.sl true [.b, .sl false [.i .u8]], .i .i64, .b]), .v (.i .i64), .ro (.sl true [.i .i64, .i .i64, .i .i64]), .v (.b), .v (.i .i64)]], [.v (.b)]⟩
noncomputable def fi77 : Fi := ⟨Try.f77, [], true, [], []⟩
def x76_2_0 : List (Ex × List Nat × CSt) := [((.ex 0), [], ⟨[], [.box [.b false], .box [.ro 0 true [.sl true [.b, .sl false [.i .u8]], .i .i64, .b] [], .i .i64 0, .ro 0 true [.i .i64, .i .i64, .i .i64] [], .b false, .i .i64 0]]⟩)]
noncomputable def fi76 : Fi := ⟨Try.f76, [⟨2, [1, 2, 12, 13], [], [(⟨[.fn 77 [.bp 0 0, .bp 1 0], .bp 2 0, .i .i64 0, .i .i64 0], [.box [.b false], .box [.ro 0 true [.sl true [.b, .sl false [.i .u8]], .i .i64, .b] [], .i .i64 0, .ro 0 true [.i .i64, .i .i64, .i .i64] [], .b false, .i .i64 0], .box [.ro 0 true [.sl true [.b, .sl false [.i .u8]], .i .i64, .b] [], .i .i64 0, .ro 0 true [.i .i64, .i .i64, .i .i64] [], .b false, .i .i64 0]]⟩, x76_2_0)]⟩], true, [], []⟩
noncomputable def fi21 : Fi := ⟨Try.f21, [], false, [.ag [.ro (.sl true [.sl true [.b, .sl false [.i .u8]], .i .i64, .b]), .v (.i .i64), .ro (.sl true [.i .i64, .i .i64, .i .i64]), .v (.b), .v (.i .i64)]], [.v (.b)]⟩
def x11_9_0 : List (Ex × List Nat × CSt) := [(.ret, [2], ⟨[.b false], [.dead]⟩), ((.ex 0), [3, 4, 5, 7, 8, 9], ⟨[.bp 1 0, .i .i64 0, .rf 4 [] 0 none, .bp 5 0, .i .i64 0, .i .i64 0], [.dead, .box [.rf 2 [] 0 none, .i .i64 0, .rf 3 [] 0 none, .b false, .i .i64 0], .row true [.sl true [.b, .sl false [.i .u8]], .i .i64, .b] [] 0 false, .row true [.i .i64, .i .i64, .i .i64] [] 0 false, .row false [.i .u8] [] 0 false, .box [.rf 6 [] 0 none, .i .i64 0, .rf 7 [] 0 none, .b false, .i .i64 0], .row true [.sl true [.b, .sl false [.i .u8]], .i .i64, .b] [] 0 false, .row true [.i .i64, .i .i64, .i .i64] [] 0 false]⟩)]
def x11_12_0 : List (Ex × List Nat × CSt) := [(.ret, [2], ⟨[.b false], [.dead]⟩), ((.ex 2), [3, 4, 5, 7, 8, 9, 13], ⟨[.bp 1 0, .i .i64 0, .rf 4 [] 0 none, .bp 5 0, .i .i64 0, .i .i64 0, .i .i64 0], [.dead, .box [.rf 2 [] 0 none, .i .i64 0, .rf 3 [] 0 none, .b false, .i .i64 0], .row true [.sl true [.b, .sl false [.i .u8]], .i .i64, .b] [] 0 false, .row true [.i .i64, .i .i64, .i .i64] [] 0 false, .row false [.i .u8] [] 0 false, .box [.rf 6 [] 0 none, .i .i64 0, .rf 7 [] 0 none, .b false, .i .i64 0], .row true [.sl true [.b, .sl false [.i .u8]], .i .i64, .b] [] 0 false, .row true [.i .i64, .i .i64, .i .i64] [] 0 false]⟩)]
noncomputable def fi11 : Fi := ⟨Try.f11, [⟨9, [3, 4, 5, 7, 8, 9, 13], [], [(⟨[.bp 1 0, .i .i64 0, .rf 4 [] 0 none, .bp 5 0, .i .i64 0, .i .i64 0, .i .i64 0], [.dead, .box [.rf 2 [] 0 none, .i .i64 0, .rf 3 [] 0 none, .b false, .i .i64 0], .row true [.sl true [.b, .sl false [.i .u8]], .i .i64, .b] [] 0 false, .row true [.i .i64, .i .i64, .i .i64] [] 0 false, .row false [.i .u8] [] 0 false, .box [.rf 6 [] 0 none, .i .i64 0, .rf 7 [] 0 none, .b false, .i .i64 0], .row true [.sl true [.b, .sl false [.i .u8]], .i .i64, .b] [] 0 false, .row true [.i .i64, .i .i64, .i .i64] [] 0 false]⟩, x11_9_0)]⟩, ⟨12, [3, 4, 5, 7, 8, 9, 13, 14], [], [(⟨[.bp 1 0, .i .i64 0, .rf 4 [] 0 none, .bp 5 0, .i .i64 0, .i .i64 0, .i .i64 0, .i .i64 0], [.dead, .box [.rf 2 [] 0 none, .i .i64 0, .rf 3 [] 0 none, .b false, .i .i64 0], .row true [.sl true [.b, .sl false [.i .u8]], .i .i64, .b] [] 0 false, .row true [.i .i64, .i .i64, .i .i64] [] 0 false, .row false [.i .u8] [] 0 false, .box [.rf 6 [] 0 none, .i .i64 0, .rf 7 [] 0 none, .b false, .i .i64 0], .row true [.sl true [.b, .sl false [.i .u8]], .i .i64, .b] [] 0 false, .row true [.i .i64, .i .i64, .i .i64] [] 0 false]⟩, x11_12_0)]⟩], false, [.ro (.sl false [.i .u8])], [.v (.b)]⟩
noncomputable def fiTab : List (Nat × Fi) := [(29, fi29), (84, fi84), (149, fi149), (97, fi97), (96, fi96), (139, fi139), (71, fi71), (188, fi188), (176, fi176), (124, fi124), (125, fi125), (70, fi70), (138, fi138), (140, fi140), (86, fi86), (228, fi228), (194, fi194), (152, fi152), (102, fi102), (103, fi103), (196, fi196), (195, fi195), (133, fi133), (153, fi153), (197, fi197), (198, fi198), (154, fi154), (155, fi155), (229, fi229), (200, fi200), (199, fi199), (201, fi201), (202, fi202), (156, fi156), (104, fi104), (46, fi46), (106, fi106), (85, fi85), (245, fi245), (246, fi246), (225, fi225), (190, fi190), (226, fi226), (191, fi191), (148, fi148), (95, fi95), (51, fi51), (147, fi147), (141, fi141), (142, fi142), (87, fi87), (88, fi88), (75, fi75), (89, fi89), (128, fi128), (74, fi74), (94, fi94), (38, fi38), (34, fi34), (35, fi35), (93, fi93), (92, fi92), (146, fi146), (91, fi91), (37, fi37), (143, fi143), (145, fi145), (189, fi189), (144, fi144), (90, fi90), (32, fi32), (33, fi33), (52, fi52), (134, fi134), (183, fi183), (222, fi222), (184, fi184), (223, fi223), (185, fi185), (186, fi186), (135, fi135), (81, fi81), (24, fi24), (181, fi181), (131, fi131), (182, fi182), (132, fi132), (80, fi80), (72, fi72), (19, fi19), (77, fi77), (76, fi76), (21, fi21), (11, fi11)]
def X : Nat → Option (List T → Option (List T)) := lookN [(147, cloneF), (142, cloneF)]
noncomputable def env : Env := ⟨lookN fiTab, lookN tyTab⟩
def f29_t (c : Orc) (lf : Nat) (l0 : List T) : Option (List T) :=
 some [T.b (iLt 1048576 (l0.length : Int))]
def f29 (c : Orc) (lf : Nat) (l0 : List T) : Option (List T) := f29_t c lf l0
theorem f29_eq (c : Orc) (lf : Nat) (l0 : List T) : funK c env lf 6 fi29 [.sl l0] = f29 c lf l0 := by kernel_rfl
def f84_0_s (c : Orc) (lf : Nat) (l0 : List T) (L : Int → Int → Option (List T)) (x7 x8 : Int) : Option (List T) :=
 bif iLt x8 (l0.length : Int) then
  bif iLt x8 4000 then
   bif inR x8 l0.length then
   L (intBits .and .i64 (IntKind.wrap .i64 ((IntKind.wrap .i64 ((IntKind.wrap .i64 (x7 * 137)) + (IntKind.wrap .i64 (asI (l0.getD x8.toNat T.u))))) + 11)) 1073741823) (IntKind.wrap .i64 (x8 + 1))
   else none
  else
   some [T.i .i64 0, T.sl l0, T.i .i64 x7]
 else
  some [T.i .i64 0, T.sl l0, T.i .i64 x7]
def f84_0_c (l0 : List T) (x7 x8 : Int) : CSt := ⟨[.ro 0 false [.i .u8] l0, .i .i64 x7, .i .i64 x8], [.dead]⟩
theorem f84_0_round (c : Orc) (lf : Nat) (l0 : List T) (L : CSt → Option (List T)) (x7 x8 : Int) :
 roundK c env lf 6 fi84 1 3 [] [0, 3, 4] (x84_3_0) L (f84_0_c l0 x7 x8) = f84_0_s c lf l0 (fun x7 x8 => L (f84_0_c l0 x7 x8)) x7 x8 := by kernel_rfl
def f84_0 (c : Orc) (lf : Nat) (l0 : List T) : Nat → Int → Int → Option (List T)
 | 0 => fun _ _ => none
 | n + 1 => fun x7 x8 => f84_0_s c lf l0 (f84_0 c lf l0 n) x7 x8
theorem f84_0_u (c : Orc) (lf : Nat) (l0 : List T) (n : Nat) (x7 x8 : Int) : f84_0 c lf l0 (n + 1) x7 x8 = f84_0_s c lf l0 (f84_0 c lf l0 n) x7 x8 := rfl
theorem f84_0_eq (c : Orc) (lf : Nat) (l0 : List T) (n : Nat) (x7 x8 : Int) :
 lpK c env lf 6 fi84 1 3 [] [0, 3, 4] (x84_3_0) n (f84_0_c l0 x7 x8) = f84_0 c lf l0 n x7 x8 := by
 induction n generalizing x7 x8 with
 | zero => rfl
 | succ n ih =>
  refine (f84_0_round c lf l0 _ x7 x8).trans ?_
  have e : (fun x7 x8 => lpK c env lf 6 fi84 1 3 [] [0, 3, 4] (x84_3_0) n (f84_0_c l0 x7 x8)) = f84_0 c lf l0 n := by funext x7 x8; exact ih x7 x8
  show f84_0_s c lf l0 (fun x7 x8 => lpK c env lf 6 fi84 1 3 [] [0, 3, 4] (x84_3_0) n (f84_0_c l0 x7 x8)) x7 x8 = _
  rw [e]; rfl
def f84_t (c : Orc) (lf : Nat) (lp0 : List T → Int → Int → Option (List T)) (l0 : List T) : Option (List T) :=
 (lp0 l0 (IntKind.wrap .i64 (351351 + (l0.length : Int))) 0).bind fun r9 =>
 some [T.st [T.sl (asL (nth r9 1)), T.i .i64 0, T.i .i64 (asI (nth r9 2))]]
def f84 (c : Orc) (lf : Nat) (l0 : List T) : Option (List T) := f84_t c lf (fun (l0 : List T) (x7 x8 : Int) => f84_0 c lf l0 lf x7 x8) l0
theorem f84_raw (c : Orc) (lf : Nat) (l0 : List T) : funK c env lf 6 fi84 [.sl l0] = f84_t c lf (fun (l0 : List T) (x7 x8 : Int) => lpK c env lf 6 fi84 1 3 [] [0, 3, 4] (x84_3_0) lf (f84_0_c l0 x7 x8)) l0 := by kernel_rfl
theorem f84_eq (c : Orc) (lf : Nat) (l0 : List T) : funK c env lf 6 fi84 [.sl l0] = f84 c lf l0 := by
 refine (f84_raw c lf l0).trans ?_
 have e0 : (fun (l0 : List T) (x7 x8 : Int) => lpK c env lf 6 fi84 1 3 [] [0, 3, 4] (x84_3_0) lf (f84_0_c l0 x7 x8)) = (fun (l0 : List T) (x7 x8 : Int) => f84_0 c lf l0 lf x7 x8) := by funext l0 x7 x8; exact f84_0_eq c lf l0 lf x7 x8
 rw [e0]; rfl
def f149_t (c : Orc) (lf : Nat) (l0_0 : List T) (n0_1 n0_2 : Int) : Option (List T) :=
 bif iLt n0_1 (l0_0.length : Int) then
  bif inR n0_1 l0_0.length then
  some [T.i .i64 (intBits .and .i64 (IntKind.wrap .i64 ((intBits .and .i64 (intBits .xor .i64 (shiftI .shr .i64 (IntKind.wrap .i64 ((IntKind.wrap .i64 (n0_2 * 6364136223846793005)) + 1442695040888963407)) 33) (shiftI .shr .i64 (IntKind.wrap .i64 ((IntKind.wrap .i64 (n0_2 * 6364136223846793005)) + 1442695040888963407)) 47)) 255) + (IntKind.wrap .i64 (asI (l0_0.getD n0_1.toNat T.u))))) 255), T.st [T.sl l0_0, T.i .i64 (IntKind.wrap .i64 (n0_1 + 1)), T.i .i64 (IntKind.wrap .i64 ((IntKind.wrap .i64 (n0_2 * 6364136223846793005)) + 1442695040888963407))]]
  else none
 else
  some [T.i .i64 (intBits .and .i64 (intBits .xor .i64 (shiftI .shr .i64 (IntKind.wrap .i64 ((IntKind.wrap .i64 (n0_2 * 6364136223846793005)) + 1442695040888963407)) 33) (shiftI .shr .i64 (IntKind.wrap .i64 ((IntKind.wrap .i64 (n0_2 * 6364136223846793005)) + 1442695040888963407)) 47)) 255), T.st [T.sl l0_0, T.i .i64 n0_1, T.i .i64 (IntKind.wrap .i64 ((IntKind.wrap .i64 (n0_2 * 6364136223846793005)) + 1442695040888963407))]]
def f149 (c : Orc) (lf : Nat) (l0_0 : List T) (n0_1 n0_2 : Int) : Option (List T) := f149_t c lf l0_0 n0_1 n0_2
theorem f149_eq (c : Orc) (lf : Nat) (l0_0 : List T) (n0_1 n0_2 : Int) : funK c env lf 6 fi149 [.st [.sl l0_0, .i .i64 n0_1, .i .i64 n0_2]] = f149 c lf l0_0 n0_1 n0_2 := by kernel_rfl
def f97_t (c : Orc) (lf : Nat) (l0_0 : List T) (n0_1 n0_2 n1 : Int) : Option (List T) :=
 bif iLe n1 0 then
  some [T.i .i64 0, T.st [T.sl l0_0, T.i .i64 n0_1, T.i .i64 n0_2]]
 else
  bif iLe n1 256 then
   (c 149 [T.st [T.sl l0_0, T.i .i64 n0_1, T.i .i64 n0_2]]).bind fun r10 =>
   bif n1 != 0 then
   some [T.i .i64 ((asI (nth r10 0)).tmod n1), T.st [T.sl l0_0, T.i .i64 (asI (T.cell (nth r10 1) 1)), T.i .i64 (asI (T.cell (nth r10 1) 2))]]
   else none
  else
   (c 149 [T.st [T.sl l0_0, T.i .i64 n0_1, T.i .i64 n0_2]]).bind fun r11 =>
   (c 149 [T.st [T.sl l0_0, T.i .i64 (asI (T.cell (nth r11 1) 1)), T.i .i64 (asI (T.cell (nth r11 1) 2))]]).bind fun r12 =>
   (c 149 [T.st [T.sl l0_0, T.i .i64 (asI (T.cell (nth r12 1) 1)), T.i .i64 (asI (T.cell (nth r12 1) 2))]]).bind fun r13 =>
   bif n1 != 0 then
   some [T.i .i64 ((IntKind.wrap .i64 ((IntKind.wrap .i64 ((IntKind.wrap .i64 ((asI (nth r11 0)) * 65536)) + (IntKind.wrap .i64 ((asI (nth r12 0)) * 256)))) + (asI (nth r13 0)))).tmod n1), T.st [T.sl l0_0, T.i .i64 (asI (T.cell (nth r13 1) 1)), T.i .i64 (asI (T.cell (nth r13 1) 2))]]
   else none
def f97 (c : Orc) (lf : Nat) (l0_0 : List T) (n0_1 n0_2 n1 : Int) : Option (List T) := f97_t c lf l0_0 n0_1 n0_2 n1
theorem f97_eq (c : Orc) (lf : Nat) (l0_0 : List T) (n0_1 n0_2 n1 : Int) : funK c env lf 6 fi97 [.st [.sl l0_0, .i .i64 n0_1, .i .i64 n0_2], .i .i64 n1] = f97 c lf l0_0 n0_1 n0_2 n1 := by kernel_rfl
def f96_t (c : Orc) (lf : Nat) (l0_0 : List T) (n0_1 n0_2 : Int) (l1 : List T) : Option (List T) :=
 (c 97 [T.st [T.sl l0_0, T.i .i64 n0_1, T.i .i64 n0_2], T.i .i64 (l1.length : Int)]).bind fun r14 =>
 bif inR (asI (nth r14 0)) l1.length then
 some [T.i .i64 (asI (l1.getD ((asI (nth r14 0)).toNat) T.u)), T.st [T.sl l0_0, T.i .i64 (asI (T.cell (nth r14 1) 1)), T.i .i64 (asI (T.cell (nth r14 1) 2))]]
 else none
def f96 (c : Orc) (lf : Nat) (l0_0 : List T) (n0_1 n0_2 : Int) (l1 : List T) : Option (List T) := f96_t c lf l0_0 n0_1 n0_2 l1
theorem f96_eq (c : Orc) (lf : Nat) (l0_0 : List T) (n0_1 n0_2 : Int) (l1 : List T) : funK c env lf 6 fi96 [.st [.sl l0_0, .i .i64 n0_1, .i .i64 n0_2], .sl l1] = f96 c lf l0_0 n0_1 n0_2 l1 := by kernel_rfl
def f139_0_s (c : Orc) (lf : Nat) (l0_0 : List T) (L : Int → Int → Int → Int → List T → Option (List T)) (x32 x33 : Int) (x34 x35 : Int) (x36 : List T) : Option (List T) :=
 bif iLt 0 x33 then
  (c 97 [T.st [T.sl l0_0, T.i .i64 x34, T.i .i64 x35], T.i .i64 12]).bind fun r37 =>
  (c 97 [T.st [T.sl l0_0, T.i .i64 (asI (T.cell (nth r37 1) 1)), T.i .i64 (asI (T.cell (nth r37 1) 2))], T.i .i64 2]).bind fun r38 =>
  (c 96 [T.st [T.sl l0_0, T.i .i64 (asI (T.cell (nth r38 1) 1)), T.i .i64 (asI (T.cell (nth r38 1) 2))], T.sl ([T.i .i64 0, T.i .i64 1, T.i .i64 5, T.i .i64 8, T.i .i64 400] : List T)]).bind fun r39 =>
  bif nLe (x36.length + ([T.st [T.i .i64 (IntKind.wrap .i64 (x32 + (asI (nth r37 0)))), T.i .i64 (IntKind.wrap .i64 (1 + (asI (nth r38 0)))), T.i .i64 (asI (nth r39 0))]] : List T).length) LIM then
  L (IntKind.wrap .i64 ((IntKind.wrap .i64 (x32 + (asI (nth r37 0)))) + 1)) (IntKind.wrap .i64 (x33 - 1)) (asI (T.cell (nth r39 1) 1)) (asI (T.cell (nth r39 1) 2)) (x36 ++ ([T.st [T.i .i64 (IntKind.wrap .i64 (x32 + (asI (nth r37 0)))), T.i .i64 (IntKind.wrap .i64 (1 + (asI (nth r38 0)))), T.i .i64 (asI (nth r39 0))]] : List T))
  else none
 else
  some [T.i .i64 0, T.sl l0_0, T.i .i64 x34, T.i .i64 x35, T.sl x36]
def f139_0_c (l0_0 : List T) (x32 x33 : Int) (x34 x35 : Int) (x36 : List T) : CSt := ⟨[.bp 0 0, .rf 4 [] 0 none, .i .i64 x32, .i .i64 x33], [.box [.ro 1 false [.i .u8] l0_0, .i .i64 x34, .i .i64 x35], .dead, .dead, .dead, .row true [.i .i64, .i .i64, .i .i64] x36 0 false]⟩
theorem f139_0_round (c : Orc) (lf : Nat) (l0_0 : List T) (L : CSt → Option (List T)) (x32 x33 : Int) (x34 x35 : Int) (x36 : List T) :
 roundK c env lf 6 fi139 4 4 [] [0, 3, 4, 5] (x139_4_0) L (f139_0_c l0_0 x32 x33 x34 x35 x36) = f139_0_s c lf l0_0 (fun x32 x33 x34 x35 x36 => L (f139_0_c l0_0 x32 x33 x34 x35 x36)) x32 x33 x34 x35 x36 := by kernel_rfl
def f139_0 (c : Orc) (lf : Nat) (l0_0 : List T) : Nat → Int → Int → Int → Int → List T → Option (List T)
 | 0 => fun _ _ _ _ _ => none
 | n + 1 => fun x32 x33 x34 x35 x36 => f139_0_s c lf l0_0 (f139_0 c lf l0_0 n) x32 x33 x34 x35 x36
theorem f139_0_u (c : Orc) (lf : Nat) (l0_0 : List T) (n : Nat) (x32 x33 : Int) (x34 x35 : Int) (x36 : List T) : f139_0 c lf l0_0 (n + 1) x32 x33 x34 x35 x36 = f139_0_s c lf l0_0 (f139_0 c lf l0_0 n) x32 x33 x34 x35 x36 := rfl
theorem f139_0_eq (c : Orc) (lf : Nat) (l0_0 : List T) (n : Nat) (x32 x33 : Int) (x34 x35 : Int) (x36 : List T) :
 lpK c env lf 6 fi139 4 4 [] [0, 3, 4, 5] (x139_4_0) n (f139_0_c l0_0 x32 x33 x34 x35 x36) = f139_0 c lf l0_0 n x32 x33 x34 x35 x36 := by
 induction n generalizing x32 x33 x34 x35 x36 with
 | zero => rfl
 | succ n ih =>
  refine (f139_0_round c lf l0_0 _ x32 x33 x34 x35 x36).trans ?_
  have e : (fun x32 x33 x34 x35 x36 => lpK c env lf 6 fi139 4 4 [] [0, 3, 4, 5] (x139_4_0) n (f139_0_c l0_0 x32 x33 x34 x35 x36)) = f139_0 c lf l0_0 n := by funext x32 x33 x34 x35 x36; exact ih x32 x33 x34 x35 x36
  show f139_0_s c lf l0_0 (fun x32 x33 x34 x35 x36 => lpK c env lf 6 fi139 4 4 [] [0, 3, 4, 5] (x139_4_0) n (f139_0_c l0_0 x32 x33 x34 x35 x36)) x32 x33 x34 x35 x36 = _
  rw [e]; rfl
def f139_t (c : Orc) (lf : Nat) (lp0 : List T → Int → Int → Int → Int → List T → Option (List T)) (l0_0 : List T) (n0_1 n0_2 : Int) : Option (List T) :=
 (c 97 [T.st [T.sl l0_0, T.i .i64 n0_1, T.i .i64 n0_2], T.i .i64 4]).bind fun r28 =>
 (lp0 l0_0 0 (asI (nth r28 0)) (asI (T.cell (nth r28 1) 1)) (asI (T.cell (nth r28 1) 2)) ([] : List T)).bind fun r40 =>
 some [T.sl (asL (nth r40 4)), T.st [T.sl (asL (nth r40 1)), T.i .i64 (asI (nth r40 2)), T.i .i64 (asI (nth r40 3))]]
def f139 (c : Orc) (lf : Nat) (l0_0 : List T) (n0_1 n0_2 : Int) : Option (List T) := f139_t c lf (fun (l0_0 : List T) (x32 x33 : Int) (x34 x35 : Int) (x36 : List T) => f139_0 c lf l0_0 lf x32 x33 x34 x35 x36) l0_0 n0_1 n0_2
theorem f139_raw (c : Orc) (lf : Nat) (l0_0 : List T) (n0_1 n0_2 : Int) : funK c env lf 6 fi139 [.st [.sl l0_0, .i .i64 n0_1, .i .i64 n0_2]] = f139_t c lf (fun (l0_0 : List T) (x32 x33 : Int) (x34 x35 : Int) (x36 : List T) => lpK c env lf 6 fi139 4 4 [] [0, 3, 4, 5] (x139_4_0) lf (f139_0_c l0_0 x32 x33 x34 x35 x36)) l0_0 n0_1 n0_2 := by kernel_rfl
theorem f139_eq (c : Orc) (lf : Nat) (l0_0 : List T) (n0_1 n0_2 : Int) : funK c env lf 6 fi139 [.st [.sl l0_0, .i .i64 n0_1, .i .i64 n0_2]] = f139 c lf l0_0 n0_1 n0_2 := by
 refine (f139_raw c lf l0_0 n0_1 n0_2).trans ?_
 have e0 : (fun (l0_0 : List T) (x32 x33 : Int) (x34 x35 : Int) (x36 : List T) => lpK c env lf 6 fi139 4 4 [] [0, 3, 4, 5] (x139_4_0) lf (f139_0_c l0_0 x32 x33 x34 x35 x36)) = (fun (l0_0 : List T) (x32 x33 : Int) (x34 x35 : Int) (x36 : List T) => f139_0 c lf l0_0 lf x32 x33 x34 x35 x36) := by funext l0_0 x32 x33 x34 x35 x36; exact f139_0_eq c lf l0_0 lf x32 x33 x34 x35 x36
 rw [e0]; rfl
def f71_t (c : Orc) (lf : Nat) (n0 n1 n2 : Int) : Option (List T) :=
 bif iLe n1 n0 then
  some [T.b (iLe n0 n2)]
 else
  some [T.b false]
def f71 (c : Orc) (lf : Nat) (n0 n1 n2 : Int) : Option (List T) := f71_t c lf n0 n1 n2
theorem f71_eq (c : Orc) (lf : Nat) (n0 n1 n2 : Int) : funK c env lf 6 fi71 [.i .i64 n0, .i .i64 n1, .i .i64 n2] = f71 c lf n0 n1 n2 := by kernel_rfl
def f188_0_s (c : Orc) (lf : Nat) (n0 : Int) (L : Int → List T → Option (List T)) (x47 : Int) (x48 : List T) : Option (List T) :=
 bif iLt x47 n0 then
  (c 71 [T.i .i64 n0, T.i .i64 3, T.i .i64 24]).bind fun r49 =>
  bif asB (nth r49 0) then
   bif nLe (x48.length + ([T.st [T.sl ([T.st [T.b false, T.sl []], T.st [T.b false, T.sl []], T.st [T.b false, T.sl []], T.st [T.b false, T.sl []], T.st [T.b false, T.sl []], T.st [T.b false, T.sl []], T.st [T.b false, T.sl []], T.st [T.b false, T.sl []]] : List T), T.i .i64 0, T.b false]] : List T).length) LIM then
   L (IntKind.wrap .i64 (x47 + 1)) (x48 ++ ([T.st [T.sl ([T.st [T.b false, T.sl []], T.st [T.b false, T.sl []], T.st [T.b false, T.sl []], T.st [T.b false, T.sl []], T.st [T.b false, T.sl []], T.st [T.b false, T.sl []], T.st [T.b false, T.sl []], T.st [T.b false, T.sl []]] : List T), T.i .i64 0, T.b false]] : List T))
   else none
  else
   some [T.i .i64 0, T.sl ([] : List T), T.sl x48]
 else
  some [T.i .i64 0, T.sl ([] : List T), T.sl x48]
def f188_0_c (n0 x47 : Int) (x48 : List T) : CSt := ⟨[.i .i64 n0, .bp 1 0, .bp 3 0, .i .i64 x47], [.dead, .box [.rf 2 [] 0 none], .row true [.sl true [.b, .sl false [.i .u8]], .i .i64, .b] ([] : List T) 0 false, .box [.rf 4 [] 0 none], .row true [.sl true [.b, .sl false [.i .u8]], .i .i64, .b] x48 0 false]⟩
theorem f188_0_round (c : Orc) (lf : Nat) (n0 : Int) (L : CSt → Option (List T)) (x47 : Int) (x48 : List T) :
 roundK c env lf 6 fi188 1 3 [] [0, 2, 3, 4] (x188_3_0) L (f188_0_c n0 x47 x48) = f188_0_s c lf n0 (fun x47 x48 => L (f188_0_c n0 x47 x48)) x47 x48 := by kernel_rfl
def f188_0 (c : Orc) (lf : Nat) (n0 : Int) : Nat → Int → List T → Option (List T)
 | 0 => fun _ _ => none
 | n + 1 => fun x47 x48 => f188_0_s c lf n0 (f188_0 c lf n0 n) x47 x48
theorem f188_0_u (c : Orc) (lf : Nat) (n0 : Int) (n : Nat) (x47 : Int) (x48 : List T) : f188_0 c lf n0 (n + 1) x47 x48 = f188_0_s c lf n0 (f188_0 c lf n0 n) x47 x48 := rfl
theorem f188_0_eq (c : Orc) (lf : Nat) (n0 : Int) (n : Nat) (x47 : Int) (x48 : List T) :
 lpK c env lf 6 fi188 1 3 [] [0, 2, 3, 4] (x188_3_0) n (f188_0_c n0 x47 x48) = f188_0 c lf n0 n x47 x48 := by
 induction n generalizing x47 x48 with
 | zero => rfl
 | succ n ih =>
  refine (f188_0_round c lf n0 _ x47 x48).trans ?_
  have e : (fun x47 x48 => lpK c env lf 6 fi188 1 3 [] [0, 2, 3, 4] (x188_3_0) n (f188_0_c n0 x47 x48)) = f188_0 c lf n0 n := by funext x47 x48; exact ih x47 x48
  show f188_0_s c lf n0 (fun x47 x48 => lpK c env lf 6 fi188 1 3 [] [0, 2, 3, 4] (x188_3_0) n (f188_0_c n0 x47 x48)) x47 x48 = _
  rw [e]; rfl
def f188_t (c : Orc) (lf : Nat) (lp0 : Int → Int → List T → Option (List T)) (n0 : Int) : Option (List T) :=
 (lp0 n0 0 ([] : List T)).bind fun r50 =>
 some [T.st [T.sl (asL (nth r50 2))]]
def f188 (c : Orc) (lf : Nat) (n0 : Int) : Option (List T) := f188_t c lf (fun (n0 x47 : Int) (x48 : List T) => f188_0 c lf n0 lf x47 x48) n0
theorem f188_raw (c : Orc) (lf : Nat) (n0 : Int) : funK c env lf 6 fi188 [.i .i64 n0] = f188_t c lf (fun (n0 x47 : Int) (x48 : List T) => lpK c env lf 6 fi188 1 3 [] [0, 2, 3, 4] (x188_3_0) lf (f188_0_c n0 x47 x48)) n0 := by kernel_rfl
theorem f188_eq (c : Orc) (lf : Nat) (n0 : Int) : funK c env lf 6 fi188 [.i .i64 n0] = f188 c lf n0 := by
 refine (f188_raw c lf n0).trans ?_
 have e0 : (fun (n0 x47 : Int) (x48 : List T) => lpK c env lf 6 fi188 1 3 [] [0, 2, 3, 4] (x188_3_0) lf (f188_0_c n0 x47 x48)) = (fun (n0 x47 : Int) (x48 : List T) => f188_0 c lf n0 lf x47 x48) := by funext n0 x47 x48; exact f188_0_eq c lf n0 lf x47 x48
 rw [e0]; rfl
def f176_0_s (c : Orc) (lf : Nat) (b0_2 : Bool) (l0_0 : List T) (n0_1 : Int) (L : Int → Option (List T)) (x55 : Int) : Option (List T) :=
 bif iLt x55 (l0_0.length : Int) then
  bif inR x55 l0_0.length then
  bif iLt 400 ((asL (T.cell (l0_0.getD x55.toNat T.u) 1)).length : Int) then
   some [T.i .i64 0, T.b false]
  else
   bif !(asB (T.cell (l0_0.getD x55.toNat T.u) 0)) then
    bif iLt 0 ((asL (T.cell (l0_0.getD x55.toNat T.u) 1)).length : Int) then
     some [T.i .i64 0, T.b false]
    else
     bif iLt 0 x55 then
      bif asB (T.cell (l0_0.getD x55.toNat T.u) 0) then
       bif inR (IntKind.wrap .i64 (x55 - 1)) l0_0.length then
       bif !(asB (T.cell (l0_0.getD ((IntKind.wrap .i64 (x55 - 1)).toNat) T.u) 0)) then
        some [T.i .i64 0, T.b false]
       else
        L (IntKind.wrap .i64 (x55 + 1))
       else none
      else
       L (IntKind.wrap .i64 (x55 + 1))
     else
      L (IntKind.wrap .i64 (x55 + 1))
   else
    bif iLt 0 x55 then
     bif asB (T.cell (l0_0.getD x55.toNat T.u) 0) then
      bif inR (IntKind.wrap .i64 (x55 - 1)) l0_0.length then
      bif !(asB (T.cell (l0_0.getD ((IntKind.wrap .i64 (x55 - 1)).toNat) T.u) 0)) then
       some [T.i .i64 0, T.b false]
      else
       L (IntKind.wrap .i64 (x55 + 1))
      else none
     else
      L (IntKind.wrap .i64 (x55 + 1))
    else
     L (IntKind.wrap .i64 (x55 + 1))
  else none
 else
  some [T.i .i64 1]
def f176_0_c (b0_2 : Bool) (l0_0 : List T) (n0_1 x55 : Int) : CSt := ⟨[.bp 3 0, .i .i64 x55], [.dead, .dead, .dead, .box [.ro 0 true [.b, .sl false [.i .u8]] l0_0, .i .i64 n0_1, .b b0_2]]⟩
theorem f176_0_round (c : Orc) (lf : Nat) (b0_2 : Bool) (l0_0 : List T) (n0_1 : Int) (L : CSt → Option (List T)) (x55 : Int) :
 roundK c env lf 6 fi176 3 4 [] [1, 3] (x176_4_0) L (f176_0_c b0_2 l0_0 n0_1 x55) = f176_0_s c lf b0_2 l0_0 n0_1 (fun x55 => L (f176_0_c b0_2 l0_0 n0_1 x55)) x55 := by kernel_rfl
def f176_0 (c : Orc) (lf : Nat) (b0_2 : Bool) (l0_0 : List T) (n0_1 : Int) : Nat → Int → Option (List T)
 | 0 => fun _ => none
 | n + 1 => fun x55 => f176_0_s c lf b0_2 l0_0 n0_1 (f176_0 c lf b0_2 l0_0 n0_1 n) x55
theorem f176_0_u (c : Orc) (lf : Nat) (b0_2 : Bool) (l0_0 : List T) (n0_1 : Int) (n : Nat) (x55 : Int) : f176_0 c lf b0_2 l0_0 n0_1 (n + 1) x55 = f176_0_s c lf b0_2 l0_0 n0_1 (f176_0 c lf b0_2 l0_0 n0_1 n) x55 := rfl
theorem f176_0_eq (c : Orc) (lf : Nat) (b0_2 : Bool) (l0_0 : List T) (n0_1 : Int) (n : Nat) (x55 : Int) :
 lpK c env lf 6 fi176 3 4 [] [1, 3] (x176_4_0) n (f176_0_c b0_2 l0_0 n0_1 x55) = f176_0 c lf b0_2 l0_0 n0_1 n x55 := by
 induction n generalizing x55 with
 | zero => rfl
 | succ n ih =>
  refine (f176_0_round c lf b0_2 l0_0 n0_1 _ x55).trans ?_
  have e : (fun x55 => lpK c env lf 6 fi176 3 4 [] [1, 3] (x176_4_0) n (f176_0_c b0_2 l0_0 n0_1 x55)) = f176_0 c lf b0_2 l0_0 n0_1 n := by funext x55; exact ih x55
  show f176_0_s c lf b0_2 l0_0 n0_1 (fun x55 => lpK c env lf 6 fi176 3 4 [] [1, 3] (x176_4_0) n (f176_0_c b0_2 l0_0 n0_1 x55)) x55 = _
  rw [e]; rfl
def f176_t (c : Orc) (lf : Nat) (lp0 : Bool → List T → Int → Int → Option (List T)) (l0_0 : List T) (n0_1 : Int) (b0_2 : Bool) : Option (List T) :=
 bif (l0_0.length : Int) != 8 then
  some [T.b false]
 else
  (c 71 [T.i .i64 n0_1, T.i .i64 0, T.i .i64 100000]).bind fun r54 =>
  bif !(asB (nth r54 0)) then
   some [T.b false]
  else
   (lp0 b0_2 l0_0 n0_1 0).bind fun r56 =>
   bif asI (nth r56 0) == 0 then
    some [T.b (asB (nth r56 1))]
   else
    some [T.b true]
def f176 (c : Orc) (lf : Nat) (l0_0 : List T) (n0_1 : Int) (b0_2 : Bool) : Option (List T) := f176_t c lf (fun (b0_2 : Bool) (l0_0 : List T) (n0_1 x55 : Int) => f176_0 c lf b0_2 l0_0 n0_1 lf x55) l0_0 n0_1 b0_2
theorem f176_raw (c : Orc) (lf : Nat) (l0_0 : List T) (n0_1 : Int) (b0_2 : Bool) : funK c env lf 6 fi176 [.st [.sl l0_0, .i .i64 n0_1, .b b0_2]] = f176_t c lf (fun (b0_2 : Bool) (l0_0 : List T) (n0_1 x55 : Int) => lpK c env lf 6 fi176 3 4 [] [1, 3] (x176_4_0) lf (f176_0_c b0_2 l0_0 n0_1 x55)) l0_0 n0_1 b0_2 := by kernel_rfl
theorem f176_eq (c : Orc) (lf : Nat) (l0_0 : List T) (n0_1 : Int) (b0_2 : Bool) : funK c env lf 6 fi176 [.st [.sl l0_0, .i .i64 n0_1, .b b0_2]] = f176 c lf l0_0 n0_1 b0_2 := by
 refine (f176_raw c lf l0_0 n0_1 b0_2).trans ?_
 have e0 : (fun (b0_2 : Bool) (l0_0 : List T) (n0_1 x55 : Int) => lpK c env lf 6 fi176 3 4 [] [1, 3] (x176_4_0) lf (f176_0_c b0_2 l0_0 n0_1 x55)) = (fun (b0_2 : Bool) (l0_0 : List T) (n0_1 x55 : Int) => f176_0 c lf b0_2 l0_0 n0_1 lf x55) := by funext b0_2 l0_0 n0_1 x55; exact f176_0_eq c lf b0_2 l0_0 n0_1 lf x55
 rw [e0]; rfl
def f124_0_s (c : Orc) (lf : Nat) (l0_0 : List T) (L : Int → Option (List T)) (x63 : Int) : Option (List T) :=
 bif iLt x63 (l0_0.length : Int) then
  bif inR x63 l0_0.length then
  (c 176 [T.st [T.sl (asL (T.cell (l0_0.getD x63.toNat T.u) 0)), T.i .i64 (asI (T.cell (l0_0.getD x63.toNat T.u) 1)), T.b (asB (T.cell (l0_0.getD x63.toNat T.u) 2))]]).bind fun r64 =>
  bif !(asB (nth r64 0)) then
   some [T.i .i64 0, T.b false]
  else
   L (IntKind.wrap .i64 (x63 + 1))
  else none
 else
  some [T.i .i64 1, T.sl l0_0]
def f124_0_c (l0_0 : List T) (x63 : Int) : CSt := ⟨[.bp 1 0, .i .i64 x63], [.dead, .box [.ro 0 true [.sl true [.b, .sl false [.i .u8]], .i .i64, .b] l0_0]]⟩
theorem f124_0_round (c : Orc) (lf : Nat) (l0_0 : List T) (L : CSt → Option (List T)) (x63 : Int) :
 roundK c env lf 6 fi124 1 2 [] [1, 3] (x124_2_0) L (f124_0_c l0_0 x63) = f124_0_s c lf l0_0 (fun x63 => L (f124_0_c l0_0 x63)) x63 := by kernel_rfl
def f124_0 (c : Orc) (lf : Nat) (l0_0 : List T) : Nat → Int → Option (List T)
 | 0 => fun _ => none
 | n + 1 => fun x63 => f124_0_s c lf l0_0 (f124_0 c lf l0_0 n) x63
theorem f124_0_u (c : Orc) (lf : Nat) (l0_0 : List T) (n : Nat) (x63 : Int) : f124_0 c lf l0_0 (n + 1) x63 = f124_0_s c lf l0_0 (f124_0 c lf l0_0 n) x63 := rfl
theorem f124_0_eq (c : Orc) (lf : Nat) (l0_0 : List T) (n : Nat) (x63 : Int) :
 lpK c env lf 6 fi124 1 2 [] [1, 3] (x124_2_0) n (f124_0_c l0_0 x63) = f124_0 c lf l0_0 n x63 := by
 induction n generalizing x63 with
 | zero => rfl
 | succ n ih =>
  refine (f124_0_round c lf l0_0 _ x63).trans ?_
  have e : (fun x63 => lpK c env lf 6 fi124 1 2 [] [1, 3] (x124_2_0) n (f124_0_c l0_0 x63)) = f124_0 c lf l0_0 n := by funext x63; exact ih x63
  show f124_0_s c lf l0_0 (fun x63 => lpK c env lf 6 fi124 1 2 [] [1, 3] (x124_2_0) n (f124_0_c l0_0 x63)) x63 = _
  rw [e]; rfl
def f124_t (c : Orc) (lf : Nat) (lp0 : List T → Int → Option (List T)) (l0_0 : List T) : Option (List T) :=
 (lp0 l0_0 0).bind fun r65 =>
 bif asI (nth r65 0) == 0 then
  some [T.b (asB (nth r65 1))]
 else
  (c 71 [T.i .i64 ((asL (nth r65 1)).length : Int), T.i .i64 3, T.i .i64 24]).bind fun r66 =>
  some [T.b (asB (nth r66 0))]
def f124 (c : Orc) (lf : Nat) (l0_0 : List T) : Option (List T) := f124_t c lf (fun (l0_0 : List T) (x63 : Int) => f124_0 c lf l0_0 lf x63) l0_0
theorem f124_raw (c : Orc) (lf : Nat) (l0_0 : List T) : funK c env lf 6 fi124 [.st [.sl l0_0]] = f124_t c lf (fun (l0_0 : List T) (x63 : Int) => lpK c env lf 6 fi124 1 2 [] [1, 3] (x124_2_0) lf (f124_0_c l0_0 x63)) l0_0 := by kernel_rfl
theorem f124_eq (c : Orc) (lf : Nat) (l0_0 : List T) : funK c env lf 6 fi124 [.st [.sl l0_0]] = f124 c lf l0_0 := by
 refine (f124_raw c lf l0_0).trans ?_
 have e0 : (fun (l0_0 : List T) (x63 : Int) => lpK c env lf 6 fi124 1 2 [] [1, 3] (x124_2_0) lf (f124_0_c l0_0 x63)) = (fun (l0_0 : List T) (x63 : Int) => f124_0 c lf l0_0 lf x63) := by funext l0_0 x63; exact f124_0_eq c lf l0_0 lf x63
 rw [e0]; rfl
def f125_0_s (c : Orc) (lf : Nat) (l0 : List T) (L : Int → Option (List T)) (x78 : Int) : Option (List T) :=
 bif iLt x78 (l0.length : Int) then
  bif inR x78 l0.length then
  (c 71 [T.i .i64 (asI (T.cell (l0.getD x78.toNat T.u) 0)), T.i .i64 0, T.i .i64 100000]).bind fun r79 =>
  bif !(asB (nth r79 0)) then
   some [T.i .i64 0, T.b false]
  else
   bif inR x78 l0.length then
   (c 71 [T.i .i64 (asI (T.cell (l0.getD x78.toNat T.u) 1)), T.i .i64 1, T.i .i64 2]).bind fun r80 =>
   bif !(asB (nth r80 0)) then
    some [T.i .i64 0, T.b false]
   else
    bif inR x78 l0.length then
    (c 71 [T.i .i64 (asI (T.cell (l0.getD x78.toNat T.u) 2)), T.i .i64 0, T.i .i64 400]).bind fun r81 =>
    bif !(asB (nth r81 0)) then
     some [T.i .i64 0, T.b false]
    else
     bif iLt 0 x78 then
      bif inR (IntKind.wrap .i64 (x78 - 1)) l0.length then
      bif inR x78 l0.length then
      bif iLe (asI (T.cell (l0.getD x78.toNat T.u) 0)) (asI (T.cell (l0.getD ((IntKind.wrap .i64 (x78 - 1)).toNat) T.u) 0)) then
       some [T.i .i64 0, T.b false]
      else
       L (IntKind.wrap .i64 (x78 + 1))
      else none
      else none
     else
      L (IntKind.wrap .i64 (x78 + 1))
    else none
   else none
  else none
 else
  some [T.i .i64 1, T.sl l0]
def f125_0_c (l0 : List T) (x78 : Int) : CSt := ⟨[.ro 0 true [.i .i64, .i .i64, .i .i64] l0, .i .i64 x78], [.dead]⟩
theorem f125_0_round (c : Orc) (lf : Nat) (l0 : List T) (L : CSt → Option (List T)) (x78 : Int) :
 roundK c env lf 6 fi125 1 2 [] [0, 3] (x125_2_0) L (f125_0_c l0 x78) = f125_0_s c lf l0 (fun x78 => L (f125_0_c l0 x78)) x78 := by kernel_rfl
def f125_0 (c : Orc) (lf : Nat) (l0 : List T) : Nat → Int → Option (List T)
 | 0 => fun _ => none
 | n + 1 => fun x78 => f125_0_s c lf l0 (f125_0 c lf l0 n) x78
theorem f125_0_u (c : Orc) (lf : Nat) (l0 : List T) (n : Nat) (x78 : Int) : f125_0 c lf l0 (n + 1) x78 = f125_0_s c lf l0 (f125_0 c lf l0 n) x78 := rfl
theorem f125_0_eq (c : Orc) (lf : Nat) (l0 : List T) (n : Nat) (x78 : Int) :
 lpK c env lf 6 fi125 1 2 [] [0, 3] (x125_2_0) n (f125_0_c l0 x78) = f125_0 c lf l0 n x78 := by
 induction n generalizing x78 with
 | zero => rfl
 | succ n ih =>
  refine (f125_0_round c lf l0 _ x78).trans ?_
  have e : (fun x78 => lpK c env lf 6 fi125 1 2 [] [0, 3] (x125_2_0) n (f125_0_c l0 x78)) = f125_0 c lf l0 n := by funext x78; exact ih x78
  show f125_0_s c lf l0 (fun x78 => lpK c env lf 6 fi125 1 2 [] [0, 3] (x125_2_0) n (f125_0_c l0 x78)) x78 = _
  rw [e]; rfl
def f125_t (c : Orc) (lf : Nat) (lp0 : List T → Int → Option (List T)) (l0 : List T) : Option (List T) :=
 (lp0 l0 0).bind fun r82 =>
 bif asI (nth r82 0) == 0 then
  some [T.b (asB (nth r82 1))]
 else
  some [T.b (iLe ((asL (nth r82 1)).length : Int) 20)]
def f125 (c : Orc) (lf : Nat) (l0 : List T) : Option (List T) := f125_t c lf (fun (l0 : List T) (x78 : Int) => f125_0 c lf l0 lf x78) l0
theorem f125_raw (c : Orc) (lf : Nat) (l0 : List T) : funK c env lf 6 fi125 [.sl l0] = f125_t c lf (fun (l0 : List T) (x78 : Int) => lpK c env lf 6 fi125 1 2 [] [0, 3] (x125_2_0) lf (f125_0_c l0 x78)) l0 := by kernel_rfl
theorem f125_eq (c : Orc) (lf : Nat) (l0 : List T) : funK c env lf 6 fi125 [.sl l0] = f125 c lf l0 := by
 refine (f125_raw c lf l0).trans ?_
 have e0 : (fun (l0 : List T) (x78 : Int) => lpK c env lf 6 fi125 1 2 [] [0, 3] (x125_2_0) lf (f125_0_c l0 x78)) = (fun (l0 : List T) (x78 : Int) => f125_0 c lf l0 lf x78) := by funext l0 x78; exact f125_0_eq c lf l0 lf x78
 rw [e0]; rfl
def f70_t (c : Orc) (lf : Nat) (l0_0 : List T) (n0_1 : Int) (l0_2 : List T) (b0_3 : Bool) : Option (List T) :=
 (c 124 [T.st [T.sl l0_0]]).bind fun r83 =>
 bif asB (nth r83 0) then
  (c 71 [T.i .i64 n0_1, T.i .i64 0, T.i .i64 100000]).bind fun r84 =>
  bif asB (nth r84 0) then
   (c 125 [T.sl l0_2]).bind fun r85 =>
   some [T.b (asB (nth r85 0))]
  else
   some [T.b false]
 else
  some [T.b false]
def f70 (c : Orc) (lf : Nat) (l0_0 : List T) (n0_1 : Int) (l0_2 : List T) (b0_3 : Bool) : Option (List T) := f70_t c lf l0_0 n0_1 l0_2 b0_3
theorem f70_eq (c : Orc) (lf : Nat) (l0_0 : List T) (n0_1 : Int) (l0_2 : List T) (b0_3 : Bool) : funK c env lf 6 fi70 [.st [.sl l0_0, .i .i64 n0_1, .sl l0_2, .b b0_3]] = f70 c lf l0_0 n0_1 l0_2 b0_3 := by kernel_rfl
def f138_t (c : Orc) (lf : Nat) (n0 : Int) (l1 : List T) : Option (List T) :=
 (c 188 [T.i .i64 n0]).bind fun r86 =>
 bif nLe (([] : List T).length + l1.length) LIM then
 (c 70 [T.st [T.sl (asL (T.cell (nth r86 0) 0)), T.i .i64 0, T.sl (([] : List T) ++ l1), T.b false]]).bind fun r87 =>
 bif !(asB (nth r87 0)) then
  some [T.st [T.sl [], T.i .i64 0, T.sl [], T.b false]]
 else
  some [T.st [T.sl (asL (T.cell (nth r86 0) 0)), T.i .i64 0, T.sl (([] : List T) ++ l1), T.b false]]
 else none
def f138 (c : Orc) (lf : Nat) (n0 : Int) (l1 : List T) : Option (List T) := f138_t c lf n0 l1
theorem f138_eq (c : Orc) (lf : Nat) (n0 : Int) (l1 : List T) : funK c env lf 6 fi138 [.i .i64 n0, .sl l1] = f138 c lf n0 l1 := by kernel_rfl
def f140_0_s (c : Orc) (lf : Nat) (l0_0 : List T) (n1 : Int) (L : Int → Int → Int → List T → Option (List T)) (x96 x97 x98 : Int) (x99 : List T) : Option (List T) :=
 bif iLt x96 n1 then
  (c 149 [T.st [T.sl l0_0, T.i .i64 x97, T.i .i64 x98]]).bind fun r100 =>
  bif nLe (x99.length + ([T.i .u8 (IntKind.wrap .u8 (asI (nth r100 0)))] : List T).length) LIM then
  L (IntKind.wrap .i64 (x96 + 1)) (asI (T.cell (nth r100 1) 1)) (asI (T.cell (nth r100 1) 2)) (x99 ++ ([T.i .u8 (IntKind.wrap .u8 (asI (nth r100 0)))] : List T))
  else none
 else
  some [T.i .i64 0, T.sl l0_0, T.i .i64 x97, T.i .i64 x98, T.sl x99]
def f140_0_c (l0_0 : List T) (n1 x96 : Int) (x97 x98 : Int) (x99 : List T) : CSt := ⟨[.bp 0 0, .i .i64 n1, .rf 5 [] 0 none, .i .i64 x96], [.box [.ro 1 false [.i .u8] l0_0, .i .i64 x97, .i .i64 x98], .dead, .dead, .dead, .dead, .row false [.i .u8] x99 0 false]⟩
theorem f140_0_round (c : Orc) (lf : Nat) (l0_0 : List T) (n1 : Int) (L : CSt → Option (List T)) (x96 x97 x98 : Int) (x99 : List T) :
 roundK c env lf 6 fi140 5 3 [] [0, 1, 5, 6] (x140_3_0) L (f140_0_c l0_0 n1 x96 x97 x98 x99) = f140_0_s c lf l0_0 n1 (fun x96 x97 x98 x99 => L (f140_0_c l0_0 n1 x96 x97 x98 x99)) x96 x97 x98 x99 := by kernel_rfl
def f140_0 (c : Orc) (lf : Nat) (l0_0 : List T) (n1 : Int) : Nat → Int → Int → Int → List T → Option (List T)
 | 0 => fun _ _ _ _ => none
 | n + 1 => fun x96 x97 x98 x99 => f140_0_s c lf l0_0 n1 (f140_0 c lf l0_0 n1 n) x96 x97 x98 x99
theorem f140_0_u (c : Orc) (lf : Nat) (l0_0 : List T) (n1 : Int) (n : Nat) (x96 x97 x98 : Int) (x99 : List T) : f140_0 c lf l0_0 n1 (n + 1) x96 x97 x98 x99 = f140_0_s c lf l0_0 n1 (f140_0 c lf l0_0 n1 n) x96 x97 x98 x99 := rfl
theorem f140_0_eq (c : Orc) (lf : Nat) (l0_0 : List T) (n1 : Int) (n : Nat) (x96 x97 x98 : Int) (x99 : List T) :
 lpK c env lf 6 fi140 5 3 [] [0, 1, 5, 6] (x140_3_0) n (f140_0_c l0_0 n1 x96 x97 x98 x99) = f140_0 c lf l0_0 n1 n x96 x97 x98 x99 := by
 induction n generalizing x96 x97 x98 x99 with
 | zero => rfl
 | succ n ih =>
  refine (f140_0_round c lf l0_0 n1 _ x96 x97 x98 x99).trans ?_
  have e : (fun x96 x97 x98 x99 => lpK c env lf 6 fi140 5 3 [] [0, 1, 5, 6] (x140_3_0) n (f140_0_c l0_0 n1 x96 x97 x98 x99)) = f140_0 c lf l0_0 n1 n := by funext x96 x97 x98 x99; exact ih x96 x97 x98 x99
  show f140_0_s c lf l0_0 n1 (fun x96 x97 x98 x99 => lpK c env lf 6 fi140 5 3 [] [0, 1, 5, 6] (x140_3_0) n (f140_0_c l0_0 n1 x96 x97 x98 x99)) x96 x97 x98 x99 = _
  rw [e]; rfl
def f140_t (c : Orc) (lf : Nat) (lp0 : List T → Int → Int → Int → Int → List T → Option (List T)) (l0_0 : List T) (n0_1 n0_2 n1 : Int) : Option (List T) :=
 (lp0 l0_0 n1 0 n0_1 n0_2 ([] : List T)).bind fun r101 =>
 some [T.sl (asL (nth r101 4)), T.st [T.sl (asL (nth r101 1)), T.i .i64 (asI (nth r101 2)), T.i .i64 (asI (nth r101 3))]]
def f140 (c : Orc) (lf : Nat) (l0_0 : List T) (n0_1 n0_2 n1 : Int) : Option (List T) := f140_t c lf (fun (l0_0 : List T) (n1 x96 : Int) (x97 x98 : Int) (x99 : List T) => f140_0 c lf l0_0 n1 lf x96 x97 x98 x99) l0_0 n0_1 n0_2 n1
theorem f140_raw (c : Orc) (lf : Nat) (l0_0 : List T) (n0_1 n0_2 n1 : Int) : funK c env lf 6 fi140 [.st [.sl l0_0, .i .i64 n0_1, .i .i64 n0_2], .i .i64 n1] = f140_t c lf (fun (l0_0 : List T) (n1 x96 : Int) (x97 x98 : Int) (x99 : List T) => lpK c env lf 6 fi140 5 3 [] [0, 1, 5, 6] (x140_3_0) lf (f140_0_c l0_0 n1 x96 x97 x98 x99)) l0_0 n0_1 n0_2 n1 := by kernel_rfl
theorem f140_eq (c : Orc) (lf : Nat) (l0_0 : List T) (n0_1 n0_2 n1 : Int) : funK c env lf 6 fi140 [.st [.sl l0_0, .i .i64 n0_1, .i .i64 n0_2], .i .i64 n1] = f140 c lf l0_0 n0_1 n0_2 n1 := by
 refine (f140_raw c lf l0_0 n0_1 n0_2 n1).trans ?_
 have e0 : (fun (l0_0 : List T) (n1 x96 : Int) (x97 x98 : Int) (x99 : List T) => lpK c env lf 6 fi140 5 3 [] [0, 1, 5, 6] (x140_3_0) lf (f140_0_c l0_0 n1 x96 x97 x98 x99)) = (fun (l0_0 : List T) (n1 x96 : Int) (x97 x98 : Int) (x99 : List T) => f140_0 c lf l0_0 n1 lf x96 x97 x98 x99) := by funext l0_0 n1 x96 x97 x98 x99; exact f140_0_eq c lf l0_0 n1 lf x96 x97 x98 x99
 rw [e0]; rfl
def f86_t (c : Orc) (lf : Nat) (l0_0 : List T) (n0_1 n0_2 : Int) : Option (List T) :=
 (c 96 [T.st [T.sl l0_0, T.i .i64 n0_1, T.i .i64 n0_2], T.sl ([T.i .i64 0, T.i .i64 1, T.i .i64 2, T.i .i64 5, T.i .i64 9] : List T)]).bind fun r102 =>
 (c 140 [T.st [T.sl l0_0, T.i .i64 (asI (T.cell (nth r102 1) 1)), T.i .i64 (asI (T.cell (nth r102 1) 2))], T.i .i64 (asI (nth r102 0))]).bind fun r103 =>
 some [T.sl (asL (nth r103 0)), T.st [T.sl l0_0, T.i .i64 (asI (T.cell (nth r103 1) 1)), T.i .i64 (asI (T.cell (nth r103 1) 2))]]
def f86 (c : Orc) (lf : Nat) (l0_0 : List T) (n0_1 n0_2 : Int) : Option (List T) := f86_t c lf l0_0 n0_1 n0_2
theorem f86_eq (c : Orc) (lf : Nat) (l0_0 : List T) (n0_1 n0_2 : Int) : funK c env lf 6 fi86 [.st [.sl l0_0, .i .i64 n0_1, .i .i64 n0_2]] = f86 c lf l0_0 n0_1 n0_2 := by kernel_rfl
def f228_0_s (c : Orc) (lf : Nat) (b0_2 : Bool) (l0_0 : List T) (n0_1 : Int) (L : Int → List T → Option (List T)) (x107 : Int) (x108 : List T) : Option (List T) :=
 bif iLt x107 (l0_0.length : Int) then
  bif inR x107 l0_0.length then
  bif inR x107 l0_0.length then
  bif nLe (([] : List T).length + (asL (T.cell (l0_0.getD x107.toNat T.u) 1)).length) LIM then
  bif nLe (x108.length + ([T.st [T.b (asB (T.cell (l0_0.getD x107.toNat T.u) 0)), T.sl (([] : List T) ++ (asL (T.cell (l0_0.getD x107.toNat T.u) 1)))]] : List T).length) LIM then
  L (IntKind.wrap .i64 (x107 + 1)) (x108 ++ ([T.st [T.b (asB (T.cell (l0_0.getD x107.toNat T.u) 0)), T.sl (([] : List T) ++ (asL (T.cell (l0_0.getD x107.toNat T.u) 1)))]] : List T))
  else none
  else none
  else none
  else none
 else
  some [T.i .i64 0, T.i .i64 0, T.b false, T.sl ([] : List T), T.i .i64 n0_1, T.b b0_2, T.sl x108]
def f228_0_c (b0_2 : Bool) (l0_0 : List T) (n0_1 x107 : Int) (x108 : List T) : CSt := ⟨[.bp 3 0, .bp 4 0, .bp 6 0, .i .i64 x107], [.dead, .dead, .dead, .box [.ro 0 true [.b, .sl false [.i .u8]] l0_0, .i .i64 n0_1, .b b0_2], .box [.rf 5 [] 0 none, .i .i64 0, .b false], .row true [.b, .sl false [.i .u8]] ([] : List T) 0 false, .box [.rf 7 [] 0 none, .i .i64 n0_1, .b b0_2], .row true [.b, .sl false [.i .u8]] x108 0 false]⟩
theorem f228_0_round (c : Orc) (lf : Nat) (b0_2 : Bool) (l0_0 : List T) (n0_1 : Int) (L : CSt → Option (List T)) (x107 : Int) (x108 : List T) :
 roundK c env lf 6 fi228 3 3 [] [1, 2, 3, 4] (x228_3_0) L (f228_0_c b0_2 l0_0 n0_1 x107 x108) = f228_0_s c lf b0_2 l0_0 n0_1 (fun x107 x108 => L (f228_0_c b0_2 l0_0 n0_1 x107 x108)) x107 x108 := by kernel_rfl
def f228_0 (c : Orc) (lf : Nat) (b0_2 : Bool) (l0_0 : List T) (n0_1 : Int) : Nat → Int → List T → Option (List T)
 | 0 => fun _ _ => none
 | n + 1 => fun x107 x108 => f228_0_s c lf b0_2 l0_0 n0_1 (f228_0 c lf b0_2 l0_0 n0_1 n) x107 x108
theorem f228_0_u (c : Orc) (lf : Nat) (b0_2 : Bool) (l0_0 : List T) (n0_1 : Int) (n : Nat) (x107 : Int) (x108 : List T) : f228_0 c lf b0_2 l0_0 n0_1 (n + 1) x107 x108 = f228_0_s c lf b0_2 l0_0 n0_1 (f228_0 c lf b0_2 l0_0 n0_1 n) x107 x108 := rfl
theorem f228_0_eq (c : Orc) (lf : Nat) (b0_2 : Bool) (l0_0 : List T) (n0_1 : Int) (n : Nat) (x107 : Int) (x108 : List T) :
 lpK c env lf 6 fi228 3 3 [] [1, 2, 3, 4] (x228_3_0) n (f228_0_c b0_2 l0_0 n0_1 x107 x108) = f228_0 c lf b0_2 l0_0 n0_1 n x107 x108 := by
 induction n generalizing x107 x108 with
 | zero => rfl
 | succ n ih =>
  refine (f228_0_round c lf b0_2 l0_0 n0_1 _ x107 x108).trans ?_
  have e : (fun x107 x108 => lpK c env lf 6 fi228 3 3 [] [1, 2, 3, 4] (x228_3_0) n (f228_0_c b0_2 l0_0 n0_1 x107 x108)) = f228_0 c lf b0_2 l0_0 n0_1 n := by funext x107 x108; exact ih x107 x108
  show f228_0_s c lf b0_2 l0_0 n0_1 (fun x107 x108 => lpK c env lf 6 fi228 3 3 [] [1, 2, 3, 4] (x228_3_0) n (f228_0_c b0_2 l0_0 n0_1 x107 x108)) x107 x108 = _
  rw [e]; rfl
def f228_t (c : Orc) (lf : Nat) (lp0 : Bool → List T → Int → Int → List T → Option (List T)) (l0_0 : List T) (n0_1 : Int) (b0_2 : Bool) : Option (List T) :=
 (lp0 b0_2 l0_0 n0_1 0 ([] : List T)).bind fun r109 =>
 some [T.st [T.sl (asL (nth r109 6)), T.i .i64 (asI (nth r109 4)), T.b (asB (nth r109 5))]]
def f228 (c : Orc) (lf : Nat) (l0_0 : List T) (n0_1 : Int) (b0_2 : Bool) : Option (List T) := f228_t c lf (fun (b0_2 : Bool) (l0_0 : List T) (n0_1 x107 : Int) (x108 : List T) => f228_0 c lf b0_2 l0_0 n0_1 lf x107 x108) l0_0 n0_1 b0_2
theorem f228_raw (c : Orc) (lf : Nat) (l0_0 : List T) (n0_1 : Int) (b0_2 : Bool) : funK c env lf 6 fi228 [.st [.sl l0_0, .i .i64 n0_1, .b b0_2]] = f228_t c lf (fun (b0_2 : Bool) (l0_0 : List T) (n0_1 x107 : Int) (x108 : List T) => lpK c env lf 6 fi228 3 3 [] [1, 2, 3, 4] (x228_3_0) lf (f228_0_c b0_2 l0_0 n0_1 x107 x108)) l0_0 n0_1 b0_2 := by kernel_rfl
theorem f228_eq (c : Orc) (lf : Nat) (l0_0 : List T) (n0_1 : Int) (b0_2 : Bool) : funK c env lf 6 fi228 [.st [.sl l0_0, .i .i64 n0_1, .b b0_2]] = f228 c lf l0_0 n0_1 b0_2 := by
 refine (f228_raw c lf l0_0 n0_1 b0_2).trans ?_
 have e0 : (fun (b0_2 : Bool) (l0_0 : List T) (n0_1 x107 : Int) (x108 : List T) => lpK c env lf 6 fi228 3 3 [] [1, 2, 3, 4] (x228_3_0) lf (f228_0_c b0_2 l0_0 n0_1 x107 x108)) = (fun (b0_2 : Bool) (l0_0 : List T) (n0_1 x107 : Int) (x108 : List T) => f228_0 c lf b0_2 l0_0 n0_1 lf x107 x108) := by funext b0_2 l0_0 n0_1 x107 x108; exact f228_0_eq c lf b0_2 l0_0 n0_1 lf x107 x108
 rw [e0]; rfl
def f194_0_s (c : Orc) (lf : Nat) (l0_0 : List T) (L : Int → List T → Option (List T)) (x116 : Int) (x117 : List T) : Option (List T) :=
 bif iLt x116 (l0_0.length : Int) then
  bif inR x116 l0_0.length then
  (c 228 [T.st [T.sl (asL (T.cell (l0_0.getD x116.toNat T.u) 0)), T.i .i64 (asI (T.cell (l0_0.getD x116.toNat T.u) 1)), T.b (asB (T.cell (l0_0.getD x116.toNat T.u) 2))]]).bind fun r118 =>
  bif nLe (x117.length + ([T.st [T.sl (asL (T.cell (nth r118 0) 0)), T.i .i64 (asI (T.cell (nth r118 0) 1)), T.b (asB (T.cell (nth r118 0) 2))]] : List T).length) LIM then
  L (IntKind.wrap .i64 (x116 + 1)) (x117 ++ ([T.st [T.sl (asL (T.cell (nth r118 0) 0)), T.i .i64 (asI (T.cell (nth r118 0) 1)), T.b (asB (T.cell (nth r118 0) 2))]] : List T))
  else none
  else none
 else
  some [T.i .i64 0, T.sl ([] : List T), T.sl x117]
def f194_0_c (l0_0 : List T) (x116 : Int) (x117 : List T) : CSt := ⟨[.bp 1 0, .bp 2 0, .bp 4 0, .i .i64 x116], [.dead, .box [.ro 0 true [.sl true [.b, .sl false [.i .u8]], .i .i64, .b] l0_0], .box [.rf 3 [] 0 none], .row true [.sl true [.b, .sl false [.i .u8]], .i .i64, .b] ([] : List T) 0 false, .box [.rf 5 [] 0 none], .row true [.sl true [.b, .sl false [.i .u8]], .i .i64, .b] x117 0 false]⟩
theorem f194_0_round (c : Orc) (lf : Nat) (l0_0 : List T) (L : CSt → Option (List T)) (x116 : Int) (x117 : List T) :
 roundK c env lf 6 fi194 1 3 [] [1, 2, 3, 4] (x194_3_0) L (f194_0_c l0_0 x116 x117) = f194_0_s c lf l0_0 (fun x116 x117 => L (f194_0_c l0_0 x116 x117)) x116 x117 := by kernel_rfl
def f194_0 (c : Orc) (lf : Nat) (l0_0 : List T) : Nat → Int → List T → Option (List T)
 | 0 => fun _ _ => none
 | n + 1 => fun x116 x117 => f194_0_s c lf l0_0 (f194_0 c lf l0_0 n) x116 x117
theorem f194_0_u (c : Orc) (lf : Nat) (l0_0 : List T) (n : Nat) (x116 : Int) (x117 : List T) : f194_0 c lf l0_0 (n + 1) x116 x117 = f194_0_s c lf l0_0 (f194_0 c lf l0_0 n) x116 x117 := rfl
theorem f194_0_eq (c : Orc) (lf : Nat) (l0_0 : List T) (n : Nat) (x116 : Int) (x117 : List T) :
 lpK c env lf 6 fi194 1 3 [] [1, 2, 3, 4] (x194_3_0) n (f194_0_c l0_0 x116 x117) = f194_0 c lf l0_0 n x116 x117 := by
 induction n generalizing x116 x117 with
 | zero => rfl
 | succ n ih =>
  refine (f194_0_round c lf l0_0 _ x116 x117).trans ?_
  have e : (fun x116 x117 => lpK c env lf 6 fi194 1 3 [] [1, 2, 3, 4] (x194_3_0) n (f194_0_c l0_0 x116 x117)) = f194_0 c lf l0_0 n := by funext x116 x117; exact ih x116 x117
  show f194_0_s c lf l0_0 (fun x116 x117 => lpK c env lf 6 fi194 1 3 [] [1, 2, 3, 4] (x194_3_0) n (f194_0_c l0_0 x116 x117)) x116 x117 = _
  rw [e]; rfl
def f194_t (c : Orc) (lf : Nat) (lp0 : List T → Int → List T → Option (List T)) (l0_0 : List T) : Option (List T) :=
 (lp0 l0_0 0 ([] : List T)).bind fun r119 =>
 some [T.st [T.sl (asL (nth r119 2))]]
def f194 (c : Orc) (lf : Nat) (l0_0 : List T) : Option (List T) := f194_t c lf (fun (l0_0 : List T) (x116 : Int) (x117 : List T) => f194_0 c lf l0_0 lf x116 x117) l0_0
theorem f194_raw (c : Orc) (lf : Nat) (l0_0 : List T) : funK c env lf 6 fi194 [.st [.sl l0_0]] = f194_t c lf (fun (l0_0 : List T) (x116 : Int) (x117 : List T) => lpK c env lf 6 fi194 1 3 [] [1, 2, 3, 4] (x194_3_0) lf (f194_0_c l0_0 x116 x117)) l0_0 := by kernel_rfl
theorem f194_eq (c : Orc) (lf : Nat) (l0_0 : List T) : funK c env lf 6 fi194 [.st [.sl l0_0]] = f194 c lf l0_0 := by
 refine (f194_raw c lf l0_0).trans ?_
 have e0 : (fun (l0_0 : List T) (x116 : Int) (x117 : List T) => lpK c env lf 6 fi194 1 3 [] [1, 2, 3, 4] (x194_3_0) lf (f194_0_c l0_0 x116 x117)) = (fun (l0_0 : List T) (x116 : Int) (x117 : List T) => f194_0 c lf l0_0 lf x116 x117) := by funext l0_0 x116 x117; exact f194_0_eq c lf l0_0 lf x116 x117
 rw [e0]; rfl
def f152_t (c : Orc) (lf : Nat) (l0_0 : List T) (n0_1 : Int) (l0_2 : List T) (b0_3 : Bool) : Option (List T) :=
 (c 194 [T.st [T.sl l0_0]]).bind fun r120 =>
 bif nLe (([] : List T).length + l0_2.length) LIM then
 some [T.st [T.sl (asL (T.cell (nth r120 0) 0)), T.i .i64 n0_1, T.sl (([] : List T) ++ l0_2), T.b b0_3]]
 else none
def f152 (c : Orc) (lf : Nat) (l0_0 : List T) (n0_1 : Int) (l0_2 : List T) (b0_3 : Bool) : Option (List T) := f152_t c lf l0_0 n0_1 l0_2 b0_3
theorem f152_eq (c : Orc) (lf : Nat) (l0_0 : List T) (n0_1 : Int) (l0_2 : List T) (b0_3 : Bool) : funK c env lf 6 fi152 [.st [.sl l0_0, .i .i64 n0_1, .sl l0_2, .b b0_3]] = f152 c lf l0_0 n0_1 l0_2 b0_3 := by kernel_rfl
def f102_t (c : Orc) (lf : Nat) (l0_0 : List T) (n0_1 : Int) (l0_2 : List T) (b0_3 : Bool) (n0_4 : Int) : Option (List T) :=
 (c 152 [T.st [T.sl l0_0, T.i .i64 n0_1, T.sl l0_2, T.b b0_3]]).bind fun r121 =>
 some [T.st [T.sl (asL (T.cell (nth r121 0) 0)), T.i .i64 (asI (T.cell (nth r121 0) 1)), T.sl (asL (T.cell (nth r121 0) 2)), T.b (asB (T.cell (nth r121 0) 3)), T.i .i64 n0_4]]
def f102 (c : Orc) (lf : Nat) (l0_0 : List T) (n0_1 : Int) (l0_2 : List T) (b0_3 : Bool) (n0_4 : Int) : Option (List T) := f102_t c lf l0_0 n0_1 l0_2 b0_3 n0_4
theorem f102_eq (c : Orc) (lf : Nat) (l0_0 : List T) (n0_1 : Int) (l0_2 : List T) (b0_3 : Bool) (n0_4 : Int) : funK c env lf 6 fi102 [.st [.sl l0_0, .i .i64 n0_1, .sl l0_2, .b b0_3, .i .i64 n0_4]] = f102 c lf l0_0 n0_1 l0_2 b0_3 n0_4 := by kernel_rfl
def f103_t (c : Orc) (lf : Nat) (n0_0 n0_1 : Int) (l0_2 : List T) : Option (List T) :=
 (c 71 [T.i .i64 n0_0, T.i .i64 1, T.i .i64 4]).bind fun r122 =>
 bif asB (nth r122 0) then
  (c 71 [T.i .i64 n0_1, T.i .i64 0, T.i .i64 1000000]).bind fun r123 =>
  bif asB (nth r123 0) then
   some [T.b (iLe (l0_2.length : Int) 380)]
  else
   some [T.b false]
 else
  some [T.b false]
def f103 (c : Orc) (lf : Nat) (n0_0 n0_1 : Int) (l0_2 : List T) : Option (List T) := f103_t c lf n0_0 n0_1 l0_2
theorem f103_eq (c : Orc) (lf : Nat) (n0_0 n0_1 : Int) (l0_2 : List T) : funK c env lf 6 fi103 [.st [.i .i64 n0_0, .i .i64 n0_1, .sl l0_2]] = f103 c lf n0_0 n0_1 l0_2 := by kernel_rfl
def f196_0_s (c : Orc) (lf : Nat) (L : Int → List T → Option (List T)) (x131 : Int) (x132 : List T) : Option (List T) :=
 bif iLt 127 x131 then
  bif nLe (x132.length + ([T.i .u8 (IntKind.wrap .u8 (intBits .or .i64 (intBits .and .i64 x131 127) 128))] : List T).length) LIM then
  L (shiftI .shr .i64 x131 7) (x132 ++ ([T.i .u8 (IntKind.wrap .u8 (intBits .or .i64 (intBits .and .i64 x131 127) 128))] : List T))
  else none
 else
  some [T.i .i64 0, T.i .i64 x131, T.sl x132]
def f196_0_c (x131 : Int) (x132 : List T) : CSt := ⟨[.i .i64 x131, .rf 2 [] 0 none], [.dead, .dead, .row false [.i .u8] x132 0 false]⟩
theorem f196_0_round (c : Orc) (lf : Nat) (L : CSt → Option (List T)) (x131 : Int) (x132 : List T) :
 roundK c env lf 6 fi196 2 6 [] [1, 5] (x196_6_0) L (f196_0_c x131 x132) = f196_0_s c lf (fun x131 x132 => L (f196_0_c x131 x132)) x131 x132 := by kernel_rfl
def f196_0 (c : Orc) (lf : Nat) : Nat → Int → List T → Option (List T)
 | 0 => fun _ _ => none
 | n + 1 => fun x131 x132 => f196_0_s c lf (f196_0 c lf n) x131 x132
theorem f196_0_u (c : Orc) (lf n : Nat) (x131 : Int) (x132 : List T) : f196_0 c lf (n + 1) x131 x132 = f196_0_s c lf (f196_0 c lf n) x131 x132 := rfl
theorem f196_0_eq (c : Orc) (lf n : Nat) (x131 : Int) (x132 : List T) :
 lpK c env lf 6 fi196 2 6 [] [1, 5] (x196_6_0) n (f196_0_c x131 x132) = f196_0 c lf n x131 x132 := by
 induction n generalizing x131 x132 with
 | zero => rfl
 | succ n ih =>
  refine (f196_0_round c lf _ x131 x132).trans ?_
  have e : (fun x131 x132 => lpK c env lf 6 fi196 2 6 [] [1, 5] (x196_6_0) n (f196_0_c x131 x132)) = f196_0 c lf n := by funext x131 x132; exact ih x131 x132
  show f196_0_s c lf (fun x131 x132 => lpK c env lf 6 fi196 2 6 [] [1, 5] (x196_6_0) n (f196_0_c x131 x132)) x131 x132 = _
  rw [e]; rfl
def f196_1_s (c : Orc) (lf : Nat) (l0 : List T) (L : Unit → Option (List T)) : Option (List T) :=
 some [T.i .i64 0, T.i .i64 0, T.sl (([] : List T) ++ l0)]
def f196_1_c (l0 : List T) : CSt := ⟨[.i .i64 0, .rf 2 [] 0 none], [.dead, .dead, .row false [.i .u8] (([] : List T) ++ l0) 0 false]⟩
theorem f196_1_round (c : Orc) (lf : Nat) (l0 : List T) (L : CSt → Option (List T)) :
 roundK c env lf 6 fi196 2 6 [] [1, 5] (x196_6_0) L (f196_1_c l0) = f196_1_s c lf l0 (fun _ => L (f196_1_c l0)) := by kernel_rfl
def f196_1 (c : Orc) (lf : Nat) (l0 : List T) : Nat → Unit → Option (List T)
 | 0 => fun _ => none
 | n + 1 => fun _ => f196_1_s c lf l0 (f196_1 c lf l0 n)
theorem f196_1_eq (c : Orc) (lf : Nat) (l0 : List T) (n : Nat) :
 lpK c env lf 6 fi196 2 6 [] [1, 5] (x196_6_0) n (f196_1_c l0) = f196_1 c lf l0 n () := by
 induction n with
 | zero => rfl
 | succ n ih =>
  refine (f196_1_round c lf l0 _).trans ?_
  have e : (fun (_ : Unit) => lpK c env lf 6 fi196 2 6 [] [1, 5] (x196_6_0) n (f196_1_c l0)) = f196_1 c lf l0 n := by funext _; exact ih
  show f196_1_s c lf l0 (fun _ => lpK c env lf 6 fi196 2 6 [] [1, 5] (x196_6_0) n (f196_1_c l0)) = _
  rw [e]; rfl
def f196_2_s (c : Orc) (lf : Nat) (L : Int → List T → Option (List T)) (x135 : Int) (x136 : List T) : Option (List T) :=
 bif iLt 127 x135 then
  bif nLe (x136.length + ([T.i .u8 (IntKind.wrap .u8 (intBits .or .i64 (intBits .and .i64 x135 127) 128))] : List T).length) LIM then
  L (shiftI .shr .i64 x135 7) (x136 ++ ([T.i .u8 (IntKind.wrap .u8 (intBits .or .i64 (intBits .and .i64 x135 127) 128))] : List T))
  else none
 else
  some [T.i .i64 0, T.i .i64 x135, T.sl x136]
def f196_2_c (x135 : Int) (x136 : List T) : CSt := ⟨[.i .i64 x135, .rf 2 [] 0 none], [.dead, .dead, .row false [.i .u8] x136 0 false]⟩
theorem f196_2_round (c : Orc) (lf : Nat) (L : CSt → Option (List T)) (x135 : Int) (x136 : List T) :
 roundK c env lf 6 fi196 2 6 [] [1, 5] (x196_6_0) L (f196_2_c x135 x136) = f196_2_s c lf (fun x135 x136 => L (f196_2_c x135 x136)) x135 x136 := by kernel_rfl
def f196_2 (c : Orc) (lf : Nat) : Nat → Int → List T → Option (List T)
 | 0 => fun _ _ => none
 | n + 1 => fun x135 x136 => f196_2_s c lf (f196_2 c lf n) x135 x136
theorem f196_2_u (c : Orc) (lf n : Nat) (x135 : Int) (x136 : List T) : f196_2 c lf (n + 1) x135 x136 = f196_2_s c lf (f196_2 c lf n) x135 x136 := rfl
theorem f196_2_eq (c : Orc) (lf n : Nat) (x135 : Int) (x136 : List T) :
 lpK c env lf 6 fi196 2 6 [] [1, 5] (x196_6_0) n (f196_2_c x135 x136) = f196_2 c lf n x135 x136 := by
 induction n generalizing x135 x136 with
 | zero => rfl
 | succ n ih =>
  refine (f196_2_round c lf _ x135 x136).trans ?_
  have e : (fun x135 x136 => lpK c env lf 6 fi196 2 6 [] [1, 5] (x196_6_0) n (f196_2_c x135 x136)) = f196_2 c lf n := by funext x135 x136; exact ih x135 x136
  show f196_2_s c lf (fun x135 x136 => lpK c env lf 6 fi196 2 6 [] [1, 5] (x196_6_0) n (f196_2_c x135 x136)) x135 x136 = _
  rw [e]; rfl
def f196_t (c : Orc) (lf : Nat) (lp0 : Int → List T → Option (List T)) (lp1 : List T → Option (List T)) (lp2 : Int → List T → Option (List T)) (l0 : List T) (n1 : Int) : Option (List T) :=
 bif nLe (([] : List T).length + l0.length) LIM then
 bif iLt 1000000 n1 then
  (lp0 1000000 (([] : List T) ++ l0)).bind fun r133 =>
  bif nLe ((asL (nth r133 2)).length + ([T.i .u8 (IntKind.wrap .u8 (asI (nth r133 1)))] : List T).length) LIM then
  some [T.sl ((asL (nth r133 2)) ++ ([T.i .u8 (IntKind.wrap .u8 (asI (nth r133 1)))] : List T))]
  else none
 else
  bif iLt n1 0 then
   (lp1 l0).bind fun r134 =>
   bif nLe ((asL (nth r134 2)).length + ([T.i .u8 (IntKind.wrap .u8 (asI (nth r134 1)))] : List T).length) LIM then
   some [T.sl ((asL (nth r134 2)) ++ ([T.i .u8 (IntKind.wrap .u8 (asI (nth r134 1)))] : List T))]
   else none
  else
   (lp2 n1 (([] : List T) ++ l0)).bind fun r137 =>
   bif nLe ((asL (nth r137 2)).length + ([T.i .u8 (IntKind.wrap .u8 (asI (nth r137 1)))] : List T).length) LIM then
   some [T.sl ((asL (nth r137 2)) ++ ([T.i .u8 (IntKind.wrap .u8 (asI (nth r137 1)))] : List T))]
   else none
 else none
def f196 (c : Orc) (lf : Nat) (l0 : List T) (n1 : Int) : Option (List T) := f196_t c lf (fun (x131 : Int) (x132 : List T) => f196_0 c lf lf x131 x132) (fun (l0 : List T) => f196_1 c lf l0 lf ()) (fun (x135 : Int) (x136 : List T) => f196_2 c lf lf x135 x136) l0 n1
theorem f196_raw (c : Orc) (lf : Nat) (l0 : List T) (n1 : Int) : funK c env lf 6 fi196 [.sl l0, .i .i64 n1] = f196_t c lf (fun (x131 : Int) (x132 : List T) => lpK c env lf 6 fi196 2 6 [] [1, 5] (x196_6_0) lf (f196_0_c x131 x132)) (fun (l0 : List T) => lpK c env lf 6 fi196 2 6 [] [1, 5] (x196_6_0) lf (f196_1_c l0)) (fun (x135 : Int) (x136 : List T) => lpK c env lf 6 fi196 2 6 [] [1, 5] (x196_6_0) lf (f196_2_c x135 x136)) l0 n1 := by kernel_rfl
theorem f196_eq (c : Orc) (lf : Nat) (l0 : List T) (n1 : Int) : funK c env lf 6 fi196 [.sl l0, .i .i64 n1] = f196 c lf l0 n1 := by
 refine (f196_raw c lf l0 n1).trans ?_
 have e0 : (fun (x131 : Int) (x132 : List T) => lpK c env lf 6 fi196 2 6 [] [1, 5] (x196_6_0) lf (f196_0_c x131 x132)) = (fun (x131 : Int) (x132 : List T) => f196_0 c lf lf x131 x132) := by funext x131 x132; exact f196_0_eq c lf lf x131 x132
 have e1 : (fun (l0 : List T) => lpK c env lf 6 fi196 2 6 [] [1, 5] (x196_6_0) lf (f196_1_c l0)) = (fun (l0 : List T) => f196_1 c lf l0 lf ()) := by funext l0; exact f196_1_eq c lf l0 lf
 have e2 : (fun (x135 : Int) (x136 : List T) => lpK c env lf 6 fi196 2 6 [] [1, 5] (x196_6_0) lf (f196_2_c x135 x136)) = (fun (x135 : Int) (x136 : List T) => f196_2 c lf lf x135 x136) := by funext x135 x136; exact f196_2_eq c lf lf x135 x136
 rw [e0, e1, e2]; rfl
def f195_t (c : Orc) (lf : Nat) (l0 : List T) (s1 : ByteArray) : Option (List T) :=
 (c 196 [T.sl l0, T.i .i64 (s1.size : Int)]).bind fun r138 =>
 bif nLe ((asL (nth r138 0)).length + (listOf s1).length) LIM then
 some [T.sl ((asL (nth r138 0)) ++ (listOf s1))]
 else none
def f195 (c : Orc) (lf : Nat) (l0 : List T) (s1 : ByteArray) : Option (List T) := f195_t c lf l0 s1
theorem f195_eq (c : Orc) (lf : Nat) (l0 : List T) (s1 : ByteArray) : funK c env lf 6 fi195 [.sl l0, .s s1] = f195 c lf l0 s1 := by kernel_rfl
def f133_1_s (c : Orc) (lf : Nat) (x152 : List T) (x154 : Int) (L : Int → Int → Option (List T)) (x155 x156 : Int) : Option (List T) :=
 bif iLt x156 8 then
  bif (intBits .and .i64 x155 1) == 1 then
   L (intBits .xor .i64 (shiftI .shr .i64 x155 1) 2197175160) (IntKind.wrap .i64 (x156 + 1))
  else
   L (shiftI .shr .i64 x155 1) (IntKind.wrap .i64 (x156 + 1))
 else
  some [T.i .i64 0, T.sl x152, T.i .i64 x155, T.i .i64 x154]
def f133_1_c (x152 : List T) (x154 x155 x156 : Int) : CSt := ⟨[.ro 0 false [.i .u8] x152, .i .i64 x155, .i .i64 x154, .i .i64 x156], [.dead]⟩
theorem f133_1_round (c : Orc) (lf : Nat) (x152 : List T) (x154 : Int) (L : CSt → Option (List T)) (x155 x156 : Int) :
 roundK c env lf 6 fi133 1 7 [] [0, 3, 4, 5] (x133_7_0) L (f133_1_c x152 x154 x155 x156) = f133_1_s c lf x152 x154 (fun x155 x156 => L (f133_1_c x152 x154 x155 x156)) x155 x156 := by kernel_rfl
def f133_1 (c : Orc) (lf : Nat) (x152 : List T) (x154 : Int) : Nat → Int → Int → Option (List T)
 | 0 => fun _ _ => none
 | n + 1 => fun x155 x156 => f133_1_s c lf x152 x154 (f133_1 c lf x152 x154 n) x155 x156
theorem f133_1_u (c : Orc) (lf : Nat) (x152 : List T) (x154 : Int) (n : Nat) (x155 x156 : Int) : f133_1 c lf x152 x154 (n + 1) x155 x156 = f133_1_s c lf x152 x154 (f133_1 c lf x152 x154 n) x155 x156 := rfl
theorem f133_1_eq (c : Orc) (lf : Nat) (x152 : List T) (x154 : Int) (n : Nat) (x155 x156 : Int) :
 lpK c env lf 6 fi133 1 7 [] [0, 3, 4, 5] (x133_7_0) n (f133_1_c x152 x154 x155 x156) = f133_1 c lf x152 x154 n x155 x156 := by
 induction n generalizing x155 x156 with
 | zero => rfl
 | succ n ih =>
  refine (f133_1_round c lf x152 x154 _ x155 x156).trans ?_
  have e : (fun x155 x156 => lpK c env lf 6 fi133 1 7 [] [0, 3, 4, 5] (x133_7_0) n (f133_1_c x152 x154 x155 x156)) = f133_1 c lf x152 x154 n := by funext x155 x156; exact ih x155 x156
  show f133_1_s c lf x152 x154 (fun x155 x156 => lpK c env lf 6 fi133 1 7 [] [0, 3, 4, 5] (x133_7_0) n (f133_1_c x152 x154 x155 x156)) x155 x156 = _
  rw [e]; rfl
def f133_0_s (c : Orc) (lf : Nat) (L : List T → Int → Int → Option (List T)) (lp0 : List T → Int → Int → Int → Option (List T)) (x152 : List T) (x153 x154 : Int) : Option (List T) :=
 bif iLt x154 (x152.length : Int) then
  bif inR x154 x152.length then
  (lp0 x152 x154 (intBits .xor .i64 x153 (IntKind.wrap .i64 (asI (x152.getD x154.toNat T.u)))) 0).bind fun r157 =>
  L (asL (nth r157 1)) (asI (nth r157 2)) (IntKind.wrap .i64 ((asI (nth r157 3)) + 1))
  else none
 else
  some [T.i .i64 0, T.i .i64 x153]
def f133_0_c (x152 : List T) (x153 x154 : Int) : CSt := ⟨[.ro 0 false [.i .u8] x152, .i .i64 x153, .i .i64 x154], [.dead]⟩
theorem f133_0_round (c : Orc) (lf : Nat) (L : CSt → Option (List T)) (x152 : List T) (x153 x154 : Int) :
 roundK c env lf 6 fi133 1 3 [] [0, 3, 4] (x133_3_0) L (f133_0_c x152 x153 x154) = f133_0_s c lf (fun x152 x153 x154 => L (f133_0_c x152 x153 x154)) (fun (x152 : List T) (x154 x155 x156 : Int) => lpK c env lf 6 fi133 1 7 [] [0, 3, 4, 5] (x133_7_0) lf (f133_1_c x152 x154 x155 x156)) x152 x153 x154 := by kernel_rfl
def f133_0 (c : Orc) (lf : Nat) : Nat → List T → Int → Int → Option (List T)
 | 0 => fun _ _ _ => none
 | n + 1 => fun x152 x153 x154 => f133_0_s c lf (f133_0 c lf n) (fun (x152 : List T) (x154 x155 x156 : Int) => f133_1 c lf x152 x154 lf x155 x156) x152 x153 x154
theorem f133_0_u (c : Orc) (lf n : Nat) (x152 : List T) (x153 x154 : Int) : f133_0 c lf (n + 1) x152 x153 x154 = f133_0_s c lf (f133_0 c lf n) (fun (x152 : List T) (x154 x155 x156 : Int) => f133_1 c lf x152 x154 lf x155 x156) x152 x153 x154 := rfl
theorem f133_0_eq (c : Orc) (lf n : Nat) (x152 : List T) (x153 x154 : Int) :
 lpK c env lf 6 fi133 1 3 [] [0, 3, 4] (x133_3_0) n (f133_0_c x152 x153 x154) = f133_0 c lf n x152 x153 x154 := by
 induction n generalizing x152 x153 x154 with
 | zero => rfl
 | succ n ih =>
  refine (f133_0_round c lf _ x152 x153 x154).trans ?_
  have e : (fun x152 x153 x154 => lpK c env lf 6 fi133 1 3 [] [0, 3, 4] (x133_3_0) n (f133_0_c x152 x153 x154)) = f133_0 c lf n := by funext x152 x153 x154; exact ih x152 x153 x154
  have e0 : (fun (x152 : List T) (x154 x155 x156 : Int) => lpK c env lf 6 fi133 1 7 [] [0, 3, 4, 5] (x133_7_0) lf (f133_1_c x152 x154 x155 x156)) = (fun (x152 : List T) (x154 x155 x156 : Int) => f133_1 c lf x152 x154 lf x155 x156) := by funext x152 x154 x155 x156; exact f133_1_eq c lf x152 x154 lf x155 x156
  show f133_0_s c lf (fun x152 x153 x154 => lpK c env lf 6 fi133 1 3 [] [0, 3, 4] (x133_3_0) n (f133_0_c x152 x153 x154)) (fun (x152 : List T) (x154 x155 x156 : Int) => lpK c env lf 6 fi133 1 7 [] [0, 3, 4, 5] (x133_7_0) lf (f133_1_c x152 x154 x155 x156)) x152 x153 x154 = _
  rw [e, e0]; rfl
def f133_t (c : Orc) (lf : Nat) (lp0 : List T → Int → Int → Option (List T)) (l0 : List T) : Option (List T) :=
 (lp0 l0 4294967295 0).bind fun r158 =>
 some [T.i .i64 (intBits .xor .i64 (asI (nth r158 1)) 4294967295)]
def f133 (c : Orc) (lf : Nat) (l0 : List T) : Option (List T) := f133_t c lf (fun (x152 : List T) (x153 x154 : Int) => f133_0 c lf lf x152 x153 x154) l0
theorem f133_raw (c : Orc) (lf : Nat) (l0 : List T) : funK c env lf 6 fi133 [.sl l0] = f133_t c lf (fun (x152 : List T) (x153 x154 : Int) => lpK c env lf 6 fi133 1 3 [] [0, 3, 4] (x133_3_0) lf (f133_0_c x152 x153 x154)) l0 := by kernel_rfl
theorem f133_eq (c : Orc) (lf : Nat) (l0 : List T) : funK c env lf 6 fi133 [.sl l0] = f133 c lf l0 := by
 refine (f133_raw c lf l0).trans ?_
 have e0 : (fun (x152 : List T) (x153 x154 : Int) => lpK c env lf 6 fi133 1 3 [] [0, 3, 4] (x133_3_0) lf (f133_0_c x152 x153 x154)) = (fun (x152 : List T) (x153 x154 : Int) => f133_0 c lf lf x152 x153 x154) := by funext x152 x153 x154; exact f133_0_eq c lf lf x152 x153 x154
 rw [e0]; rfl
def f153_t (c : Orc) (lf : Nat) (n0_0 n0_1 : Int) (l0_2 : List T) : Option (List T) :=
 (c 103 [T.st [T.i .i64 n0_0, T.i .i64 n0_1, T.sl l0_2]]).bind fun r159 =>
 bif !(asB (nth r159 0)) then
  some [T.sl ([] : List T)]
 else
  (c 196 [T.sl ([] : List T), T.i .i64 n0_0]).bind fun r160 =>
  (c 196 [T.sl (asL (nth r160 0)), T.i .i64 n0_1]).bind fun r161 =>
  (c 195 [T.sl (asL (nth r161 0)), T.s (bytesOf l0_2)]).bind fun r162 =>
  (c 133 [T.sl (asL (nth r162 0))]).bind fun r163 =>
  bif nLe ((asL (nth r162 0)).length + ([T.i .u8 (IntKind.wrap .u8 (shiftI .shr .i64 (asI (nth r163 0)) 24)), T.i .u8 (IntKind.wrap .u8 (shiftI .shr .i64 (asI (nth r163 0)) 16)), T.i .u8 (IntKind.wrap .u8 (shiftI .shr .i64 (asI (nth r163 0)) 8)), T.i .u8 (IntKind.wrap .u8 (asI (nth r163 0)))] : List T).length) LIM then
  some [T.sl ((asL (nth r162 0)) ++ ([T.i .u8 (IntKind.wrap .u8 (shiftI .shr .i64 (asI (nth r163 0)) 24)), T.i .u8 (IntKind.wrap .u8 (shiftI .shr .i64 (asI (nth r163 0)) 16)), T.i .u8 (IntKind.wrap .u8 (shiftI .shr .i64 (asI (nth r163 0)) 8)), T.i .u8 (IntKind.wrap .u8 (asI (nth r163 0)))] : List T))]
  else none
def f153 (c : Orc) (lf : Nat) (n0_0 n0_1 : Int) (l0_2 : List T) : Option (List T) := f153_t c lf n0_0 n0_1 l0_2
theorem f153_eq (c : Orc) (lf : Nat) (n0_0 n0_1 : Int) (l0_2 : List T) : funK c env lf 6 fi153 [.st [.i .i64 n0_0, .i .i64 n0_1, .sl l0_2]] = f153 c lf n0_0 n0_1 l0_2 := by kernel_rfl
def f197_0_s (c : Orc) (lf : Nat) (b0_2 : Bool) (l0_0 : List T) (n0_1 : Int) (L : Int → Int → Option (List T)) (x167 x168 : Int) : Option (List T) :=
 bif iLt x168 (l0_0.length : Int) then
  bif inR x168 l0_0.length then
  bif asB (T.cell (l0_0.getD x168.toNat T.u) 0) then
   L (IntKind.wrap .i64 (x167 + 1)) (IntKind.wrap .i64 (x168 + 1))
  else
   L x167 (IntKind.wrap .i64 (x168 + 1))
  else none
 else
  some [T.i .i64 0, T.i .i64 x167]
def f197_0_c (b0_2 : Bool) (l0_0 : List T) (n0_1 x167 x168 : Int) : CSt := ⟨[.bp 3 0, .i .i64 x167, .i .i64 x168], [.dead, .dead, .dead, .box [.ro 0 true [.b, .sl false [.i .u8]] l0_0, .i .i64 n0_1, .b b0_2]]⟩
theorem f197_0_round (c : Orc) (lf : Nat) (b0_2 : Bool) (l0_0 : List T) (n0_1 : Int) (L : CSt → Option (List T)) (x167 x168 : Int) :
 roundK c env lf 6 fi197 3 3 [] [1, 3, 4] (x197_3_0) L (f197_0_c b0_2 l0_0 n0_1 x167 x168) = f197_0_s c lf b0_2 l0_0 n0_1 (fun x167 x168 => L (f197_0_c b0_2 l0_0 n0_1 x167 x168)) x167 x168 := by kernel_rfl
def f197_0 (c : Orc) (lf : Nat) (b0_2 : Bool) (l0_0 : List T) (n0_1 : Int) : Nat → Int → Int → Option (List T)
 | 0 => fun _ _ => none
 | n + 1 => fun x167 x168 => f197_0_s c lf b0_2 l0_0 n0_1 (f197_0 c lf b0_2 l0_0 n0_1 n) x167 x168
theorem f197_0_u (c : Orc) (lf : Nat) (b0_2 : Bool) (l0_0 : List T) (n0_1 : Int) (n : Nat) (x167 x168 : Int) : f197_0 c lf b0_2 l0_0 n0_1 (n + 1) x167 x168 = f197_0_s c lf b0_2 l0_0 n0_1 (f197_0 c lf b0_2 l0_0 n0_1 n) x167 x168 := rfl
theorem f197_0_eq (c : Orc) (lf : Nat) (b0_2 : Bool) (l0_0 : List T) (n0_1 : Int) (n : Nat) (x167 x168 : Int) :
 lpK c env lf 6 fi197 3 3 [] [1, 3, 4] (x197_3_0) n (f197_0_c b0_2 l0_0 n0_1 x167 x168) = f197_0 c lf b0_2 l0_0 n0_1 n x167 x168 := by
 induction n generalizing x167 x168 with
 | zero => rfl
 | succ n ih =>
  refine (f197_0_round c lf b0_2 l0_0 n0_1 _ x167 x168).trans ?_
  have e : (fun x167 x168 => lpK c env lf 6 fi197 3 3 [] [1, 3, 4] (x197_3_0) n (f197_0_c b0_2 l0_0 n0_1 x167 x168)) = f197_0 c lf b0_2 l0_0 n0_1 n := by funext x167 x168; exact ih x167 x168
  show f197_0_s c lf b0_2 l0_0 n0_1 (fun x167 x168 => lpK c env lf 6 fi197 3 3 [] [1, 3, 4] (x197_3_0) n (f197_0_c b0_2 l0_0 n0_1 x167 x168)) x167 x168 = _
  rw [e]; rfl
def f197_t (c : Orc) (lf : Nat) (lp0 : Bool → List T → Int → Int → Int → Option (List T)) (l0_0 : List T) (n0_1 : Int) (b0_2 : Bool) : Option (List T) :=
 (lp0 b0_2 l0_0 n0_1 0 0).bind fun r169 =>
 some [T.i .i64 (asI (nth r169 1))]
def f197 (c : Orc) (lf : Nat) (l0_0 : List T) (n0_1 : Int) (b0_2 : Bool) : Option (List T) := f197_t c lf (fun (b0_2 : Bool) (l0_0 : List T) (n0_1 x167 x168 : Int) => f197_0 c lf b0_2 l0_0 n0_1 lf x167 x168) l0_0 n0_1 b0_2
theorem f197_raw (c : Orc) (lf : Nat) (l0_0 : List T) (n0_1 : Int) (b0_2 : Bool) : funK c env lf 6 fi197 [.st [.sl l0_0, .i .i64 n0_1, .b b0_2]] = f197_t c lf (fun (b0_2 : Bool) (l0_0 : List T) (n0_1 x167 x168 : Int) => lpK c env lf 6 fi197 3 3 [] [1, 3, 4] (x197_3_0) lf (f197_0_c b0_2 l0_0 n0_1 x167 x168)) l0_0 n0_1 b0_2 := by kernel_rfl
theorem f197_eq (c : Orc) (lf : Nat) (l0_0 : List T) (n0_1 : Int) (b0_2 : Bool) : funK c env lf 6 fi197 [.st [.sl l0_0, .i .i64 n0_1, .b b0_2]] = f197 c lf l0_0 n0_1 b0_2 := by
 refine (f197_raw c lf l0_0 n0_1 b0_2).trans ?_
 have e0 : (fun (b0_2 : Bool) (l0_0 : List T) (n0_1 x167 x168 : Int) => lpK c env lf 6 fi197 3 3 [] [1, 3, 4] (x197_3_0) lf (f197_0_c b0_2 l0_0 n0_1 x167 x168)) = (fun (b0_2 : Bool) (l0_0 : List T) (n0_1 x167 x168 : Int) => f197_0 c lf b0_2 l0_0 n0_1 lf x167 x168) := by funext b0_2 l0_0 n0_1 x167 x168; exact f197_0_eq c lf b0_2 l0_0 n0_1 lf x167 x168
 rw [e0]; rfl
def f198_0_s (c : Orc) (lf : Nat) (b0_3 : Bool) (l0_0 l0_2 : List T) (n0_1 n0_4 : Int) (L : Int → Int → Option (List T)) (x176 x177 : Int) : Option (List T) :=
 bif iLt x177 (l0_0.length : Int) then
  bif inR x177 l0_0.length then
  bif !(asB (T.cell (l0_0.getD x177.toNat T.u) 2)) then
   bif inR x177 l0_0.length then
   (c 197 [T.st [T.sl (asL (T.cell (l0_0.getD x177.toNat T.u) 0)), T.i .i64 (asI (T.cell (l0_0.getD x177.toNat T.u) 1)), T.b (asB (T.cell (l0_0.getD x177.toNat T.u) 2))]]).bind fun r178 =>
   bif (asI (nth r178 0)) == 0 then
    L (IntKind.wrap .i64 (x176 + 1)) (IntKind.wrap .i64 (x177 + 1))
   else
    L x176 (IntKind.wrap .i64 (x177 + 1))
   else none
  else
   L x176 (IntKind.wrap .i64 (x177 + 1))
  else none
 else
  some [T.i .i64 0, T.i .i64 x176]
def f198_0_c (b0_3 : Bool) (l0_0 l0_2 : List T) (n0_1 n0_4 : Int) (x176 x177 : Int) : CSt := ⟨[.bp 5 0, .i .i64 x176, .i .i64 x177], [.dead, .dead, .dead, .dead, .dead, .box [.ro 0 true [.sl true [.b, .sl false [.i .u8]], .i .i64, .b] l0_0, .i .i64 n0_1, .ro 0 true [.i .i64, .i .i64, .i .i64] l0_2, .b b0_3, .i .i64 n0_4]]⟩
theorem f198_0_round (c : Orc) (lf : Nat) (b0_3 : Bool) (l0_0 l0_2 : List T) (n0_1 n0_4 : Int) (L : CSt → Option (List T)) (x176 x177 : Int) :
 roundK c env lf 6 fi198 5 3 [] [1, 3, 4] (x198_3_0) L (f198_0_c b0_3 l0_0 l0_2 n0_1 n0_4 x176 x177) = f198_0_s c lf b0_3 l0_0 l0_2 n0_1 n0_4 (fun x176 x177 => L (f198_0_c b0_3 l0_0 l0_2 n0_1 n0_4 x176 x177)) x176 x177 := by kernel_rfl
def f198_0 (c : Orc) (lf : Nat) (b0_3 : Bool) (l0_0 l0_2 : List T) (n0_1 n0_4 : Int) : Nat → Int → Int → Option (List T)
 | 0 => fun _ _ => none
 | n + 1 => fun x176 x177 => f198_0_s c lf b0_3 l0_0 l0_2 n0_1 n0_4 (f198_0 c lf b0_3 l0_0 l0_2 n0_1 n0_4 n) x176 x177
theorem f198_0_u (c : Orc) (lf : Nat) (b0_3 : Bool) (l0_0 l0_2 : List T) (n0_1 n0_4 : Int) (n : Nat) (x176 x177 : Int) : f198_0 c lf b0_3 l0_0 l0_2 n0_1 n0_4 (n + 1) x176 x177 = f198_0_s c lf b0_3 l0_0 l0_2 n0_1 n0_4 (f198_0 c lf b0_3 l0_0 l0_2 n0_1 n0_4 n) x176 x177 := rfl
theorem f198_0_eq (c : Orc) (lf : Nat) (b0_3 : Bool) (l0_0 l0_2 : List T) (n0_1 n0_4 : Int) (n : Nat) (x176 x177 : Int) :
 lpK c env lf 6 fi198 5 3 [] [1, 3, 4] (x198_3_0) n (f198_0_c b0_3 l0_0 l0_2 n0_1 n0_4 x176 x177) = f198_0 c lf b0_3 l0_0 l0_2 n0_1 n0_4 n x176 x177 := by
 induction n generalizing x176 x177 with
 | zero => rfl
 | succ n ih =>
  refine (f198_0_round c lf b0_3 l0_0 l0_2 n0_1 n0_4 _ x176 x177).trans ?_
  have e : (fun x176 x177 => lpK c env lf 6 fi198 5 3 [] [1, 3, 4] (x198_3_0) n (f198_0_c b0_3 l0_0 l0_2 n0_1 n0_4 x176 x177)) = f198_0 c lf b0_3 l0_0 l0_2 n0_1 n0_4 n := by funext x176 x177; exact ih x176 x177
  show f198_0_s c lf b0_3 l0_0 l0_2 n0_1 n0_4 (fun x176 x177 => lpK c env lf 6 fi198 5 3 [] [1, 3, 4] (x198_3_0) n (f198_0_c b0_3 l0_0 l0_2 n0_1 n0_4 x176 x177)) x176 x177 = _
  rw [e]; rfl
def f198_t (c : Orc) (lf : Nat) (lp0 : Bool → List T → List T → Int → Int → Int → Int → Option (List T)) (l0_0 : List T) (n0_1 : Int) (l0_2 : List T) (b0_3 : Bool) (n0_4 : Int) : Option (List T) :=
 (lp0 b0_3 l0_0 l0_2 n0_1 n0_4 0 0).bind fun r179 =>
 some [T.i .i64 (asI (nth r179 1))]
def f198 (c : Orc) (lf : Nat) (l0_0 : List T) (n0_1 : Int) (l0_2 : List T) (b0_3 : Bool) (n0_4 : Int) : Option (List T) := f198_t c lf (fun (b0_3 : Bool) (l0_0 l0_2 : List T) (n0_1 n0_4 : Int) (x176 x177 : Int) => f198_0 c lf b0_3 l0_0 l0_2 n0_1 n0_4 lf x176 x177) l0_0 n0_1 l0_2 b0_3 n0_4
theorem f198_raw (c : Orc) (lf : Nat) (l0_0 : List T) (n0_1 : Int) (l0_2 : List T) (b0_3 : Bool) (n0_4 : Int) : funK c env lf 6 fi198 [.st [.sl l0_0, .i .i64 n0_1, .sl l0_2, .b b0_3, .i .i64 n0_4]] = f198_t c lf (fun (b0_3 : Bool) (l0_0 l0_2 : List T) (n0_1 n0_4 : Int) (x176 x177 : Int) => lpK c env lf 6 fi198 5 3 [] [1, 3, 4] (x198_3_0) lf (f198_0_c b0_3 l0_0 l0_2 n0_1 n0_4 x176 x177)) l0_0 n0_1 l0_2 b0_3 n0_4 := by kernel_rfl
theorem f198_eq (c : Orc) (lf : Nat) (l0_0 : List T) (n0_1 : Int) (l0_2 : List T) (b0_3 : Bool) (n0_4 : Int) : funK c env lf 6 fi198 [.st [.sl l0_0, .i .i64 n0_1, .sl l0_2, .b b0_3, .i .i64 n0_4]] = f198 c lf l0_0 n0_1 l0_2 b0_3 n0_4 := by
 refine (f198_raw c lf l0_0 n0_1 l0_2 b0_3 n0_4).trans ?_
 have e0 : (fun (b0_3 : Bool) (l0_0 l0_2 : List T) (n0_1 n0_4 : Int) (x176 x177 : Int) => lpK c env lf 6 fi198 5 3 [] [1, 3, 4] (x198_3_0) lf (f198_0_c b0_3 l0_0 l0_2 n0_1 n0_4 x176 x177)) = (fun (b0_3 : Bool) (l0_0 l0_2 : List T) (n0_1 n0_4 : Int) (x176 x177 : Int) => f198_0 c lf b0_3 l0_0 l0_2 n0_1 n0_4 lf x176 x177) := by funext b0_3 l0_0 l0_2 n0_1 n0_4 x176 x177; exact f198_0_eq c lf b0_3 l0_0 l0_2 n0_1 n0_4 lf x176 x177
 rw [e0]; rfl
def f154_0_s (c : Orc) (lf : Nat) (b0_3 : Bool) (l0_0 l0_2 : List T) (n1 n0_1 n0_4 : Int) (L : Int → Int → Option (List T)) (x187 x188 : Int) : Option (List T) :=
 bif iLt x188 (l0_0.length : Int) then
  bif inR x188 l0_0.length then
  (c 197 [T.st [T.sl (asL (T.cell (l0_0.getD x188.toNat T.u) 0)), T.i .i64 (asI (T.cell (l0_0.getD x188.toNat T.u) 1)), T.b (asB (T.cell (l0_0.getD x188.toNat T.u) 2))]]).bind fun r189 =>
  bif !(asB (T.cell (l0_0.getD x188.toNat T.u) 2)) then
   bif iLt 0 (asI (nth r189 0)) then
    bif iLt (asI (nth r189 0)) ((asL (T.cell (l0_0.getD x188.toNat T.u) 0)).length : Int) then
     some [T.i .i64 0, T.i .i64 x188]
    else
     bif !(asB (T.cell (l0_0.getD x188.toNat T.u) 2)) then
      bif (asI (nth r189 0)) == 0 then
       bif iLt x187 0 then
        L x188 (IntKind.wrap .i64 (x188 + 1))
       else
        L x187 (IntKind.wrap .i64 (x188 + 1))
      else
       L x187 (IntKind.wrap .i64 (x188 + 1))
     else
      L x187 (IntKind.wrap .i64 (x188 + 1))
   else
    bif !(asB (T.cell (l0_0.getD x188.toNat T.u) 2)) then
     bif (asI (nth r189 0)) == 0 then
      bif iLt x187 0 then
       L x188 (IntKind.wrap .i64 (x188 + 1))
      else
       L x187 (IntKind.wrap .i64 (x188 + 1))
     else
      L x187 (IntKind.wrap .i64 (x188 + 1))
    else
     L x187 (IntKind.wrap .i64 (x188 + 1))
  else
   bif !(asB (T.cell (l0_0.getD x188.toNat T.u) 2)) then
    bif (asI (nth r189 0)) == 0 then
     bif iLt x187 0 then
      L x188 (IntKind.wrap .i64 (x188 + 1))
     else
      L x187 (IntKind.wrap .i64 (x188 + 1))
    else
     L x187 (IntKind.wrap .i64 (x188 + 1))
   else
    L x187 (IntKind.wrap .i64 (x188 + 1))
  else none
 else
  some [T.i .i64 1, T.i .i64 n1, T.i .i64 x187, T.sl l0_0, T.i .i64 n0_1, T.sl l0_2, T.b b0_3, T.i .i64 n0_4]
def f154_0_c (b0_3 : Bool) (l0_0 l0_2 : List T) (n1 n0_1 : Int) (n0_4 x187 x188 : Int) : CSt := ⟨[.i .i64 n1, .bp 6 0, .i .i64 x187, .i .i64 x188], [.dead, .dead, .dead, .dead, .dead, .dead, .box [.ro 0 true [.sl true [.b, .sl false [.i .u8]], .i .i64, .b] l0_0, .i .i64 n0_1, .ro 0 true [.i .i64, .i .i64, .i .i64] l0_2, .b b0_3, .i .i64 n0_4]]⟩
theorem f154_0_round (c : Orc) (lf : Nat) (b0_3 : Bool) (l0_0 l0_2 : List T) (n1 n0_1 n0_4 : Int) (L : CSt → Option (List T)) (x187 x188 : Int) :
 roundK c env lf 6 fi154 6 3 [] [1, 2, 5, 6] (x154_3_0) L (f154_0_c b0_3 l0_0 l0_2 n1 n0_1 n0_4 x187 x188) = f154_0_s c lf b0_3 l0_0 l0_2 n1 n0_1 n0_4 (fun x187 x188 => L (f154_0_c b0_3 l0_0 l0_2 n1 n0_1 n0_4 x187 x188)) x187 x188 := by kernel_rfl
def f154_0 (c : Orc) (lf : Nat) (b0_3 : Bool) (l0_0 l0_2 : List T) (n1 n0_1 n0_4 : Int) : Nat → Int → Int → Option (List T)
 | 0 => fun _ _ => none
 | n + 1 => fun x187 x188 => f154_0_s c lf b0_3 l0_0 l0_2 n1 n0_1 n0_4 (f154_0 c lf b0_3 l0_0 l0_2 n1 n0_1 n0_4 n) x187 x188
theorem f154_0_u (c : Orc) (lf : Nat) (b0_3 : Bool) (l0_0 l0_2 : List T) (n1 n0_1 n0_4 : Int) (n : Nat) (x187 x188 : Int) : f154_0 c lf b0_3 l0_0 l0_2 n1 n0_1 n0_4 (n + 1) x187 x188 = f154_0_s c lf b0_3 l0_0 l0_2 n1 n0_1 n0_4 (f154_0 c lf b0_3 l0_0 l0_2 n1 n0_1 n0_4 n) x187 x188 := rfl
theorem f154_0_eq (c : Orc) (lf : Nat) (b0_3 : Bool) (l0_0 l0_2 : List T) (n1 n0_1 n0_4 : Int) (n : Nat) (x187 x188 : Int) :
 lpK c env lf 6 fi154 6 3 [] [1, 2, 5, 6] (x154_3_0) n (f154_0_c b0_3 l0_0 l0_2 n1 n0_1 n0_4 x187 x188) = f154_0 c lf b0_3 l0_0 l0_2 n1 n0_1 n0_4 n x187 x188 := by
 induction n generalizing x187 x188 with
 | zero => rfl
 | succ n ih =>
  refine (f154_0_round c lf b0_3 l0_0 l0_2 n1 n0_1 n0_4 _ x187 x188).trans ?_
  have e : (fun x187 x188 => lpK c env lf 6 fi154 6 3 [] [1, 2, 5, 6] (x154_3_0) n (f154_0_c b0_3 l0_0 l0_2 n1 n0_1 n0_4 x187 x188)) = f154_0 c lf b0_3 l0_0 l0_2 n1 n0_1 n0_4 n := by funext x187 x188; exact ih x187 x188
  show f154_0_s c lf b0_3 l0_0 l0_2 n1 n0_1 n0_4 (fun x187 x188 => lpK c env lf 6 fi154 6 3 [] [1, 2, 5, 6] (x154_3_0) n (f154_0_c b0_3 l0_0 l0_2 n1 n0_1 n0_4 x187 x188)) x187 x188 = _
  rw [e]; rfl
def f154_t (c : Orc) (lf : Nat) (lp0 : Bool → List T → List T → Int → Int → Int → Int → Int → Option (List T)) (l0_0 : List T) (n0_1 : Int) (l0_2 : List T) (b0_3 : Bool) (n0_4 n1 : Int) : Option (List T) :=
 (lp0 b0_3 l0_0 l0_2 n1 n0_1 n0_4 (-1) 0).bind fun r190 =>
 bif asI (nth r190 0) == 0 then
  some [T.i .i64 (asI (nth r190 1))]
 else
  (c 198 [T.st [T.sl (asL (nth r190 3)), T.i .i64 (asI (nth r190 4)), T.sl (asL (nth r190 5)), T.b (asB (nth r190 6)), T.i .i64 (asI (nth r190 7))]]).bind fun r191 =>
  bif iLt (asI (nth r190 1)) (asI (nth r191 0)) then
   some [T.i .i64 (asI (nth r190 2))]
  else
   some [T.i .i64 (-1)]
def f154 (c : Orc) (lf : Nat) (l0_0 : List T) (n0_1 : Int) (l0_2 : List T) (b0_3 : Bool) (n0_4 n1 : Int) : Option (List T) := f154_t c lf (fun (b0_3 : Bool) (l0_0 l0_2 : List T) (n1 n0_1 : Int) (n0_4 x187 x188 : Int) => f154_0 c lf b0_3 l0_0 l0_2 n1 n0_1 n0_4 lf x187 x188) l0_0 n0_1 l0_2 b0_3 n0_4 n1
theorem f154_raw (c : Orc) (lf : Nat) (l0_0 : List T) (n0_1 : Int) (l0_2 : List T) (b0_3 : Bool) (n0_4 n1 : Int) : funK c env lf 6 fi154 [.st [.sl l0_0, .i .i64 n0_1, .sl l0_2, .b b0_3, .i .i64 n0_4], .i .i64 n1] = f154_t c lf (fun (b0_3 : Bool) (l0_0 l0_2 : List T) (n1 n0_1 : Int) (n0_4 x187 x188 : Int) => lpK c env lf 6 fi154 6 3 [] [1, 2, 5, 6] (x154_3_0) lf (f154_0_c b0_3 l0_0 l0_2 n1 n0_1 n0_4 x187 x188)) l0_0 n0_1 l0_2 b0_3 n0_4 n1 := by kernel_rfl
theorem f154_eq (c : Orc) (lf : Nat) (l0_0 : List T) (n0_1 : Int) (l0_2 : List T) (b0_3 : Bool) (n0_4 n1 : Int) : funK c env lf 6 fi154 [.st [.sl l0_0, .i .i64 n0_1, .sl l0_2, .b b0_3, .i .i64 n0_4], .i .i64 n1] = f154 c lf l0_0 n0_1 l0_2 b0_3 n0_4 n1 := by
 refine (f154_raw c lf l0_0 n0_1 l0_2 b0_3 n0_4 n1).trans ?_
 have e0 : (fun (b0_3 : Bool) (l0_0 l0_2 : List T) (n1 n0_1 : Int) (n0_4 x187 x188 : Int) => lpK c env lf 6 fi154 6 3 [] [1, 2, 5, 6] (x154_3_0) lf (f154_0_c b0_3 l0_0 l0_2 n1 n0_1 n0_4 x187 x188)) = (fun (b0_3 : Bool) (l0_0 l0_2 : List T) (n1 n0_1 : Int) (n0_4 x187 x188 : Int) => f154_0 c lf b0_3 l0_0 l0_2 n1 n0_1 n0_4 lf x187 x188) := by funext b0_3 l0_0 l0_2 n1 n0_1 n0_4 x187 x188; exact f154_0_eq c lf b0_3 l0_0 l0_2 n1 n0_1 n0_4 lf x187 x188
 rw [e0]; rfl
def f155_t (c : Orc) (lf : Nat) (l0_0 : List T) (n1 : Int) : Option (List T) :=
 bif iLt n1 0 then
  some [T.i .i64 (-1)]
 else
  bif iLe (l0_0.length : Int) n1 then
   some [T.i .i64 (-1)]
  else
   bif inR n1 l0_0.length then
   (c 197 [T.st [T.sl (asL (T.cell (l0_0.getD n1.toNat T.u) 0)), T.i .i64 (asI (T.cell (l0_0.getD n1.toNat T.u) 1)), T.b (asB (T.cell (l0_0.getD n1.toNat T.u) 2))]]).bind fun r192 =>
   some [T.i .i64 (asI (nth r192 0))]
   else none
def f155 (c : Orc) (lf : Nat) (l0_0 : List T) (n1 : Int) : Option (List T) := f155_t c lf l0_0 n1
theorem f155_eq (c : Orc) (lf : Nat) (l0_0 : List T) (n1 : Int) : funK c env lf 6 fi155 [.st [.sl l0_0], .i .i64 n1] = f155 c lf l0_0 n1 := by kernel_rfl
def f229_t (c : Orc) (lf : Nat) (l0_0 : List T) (n1 : Int) (b2 : Bool) : Option (List T) :=
 (c 124 [T.st [T.sl l0_0]]).bind fun r193 =>
 bif !(asB (nth r193 0)) then
  some [T.i .i64 1]
 else
  bif iLt n1 0 then
   some [T.i .i64 1]
  else
   bif iLe (l0_0.length : Int) n1 then
    some [T.i .i64 1]
   else
    bif inR n1 l0_0.length then
    bif asB (T.cell (l0_0.getD n1.toNat T.u) 2) then
     some [T.i .i64 2]
    else
     bif b2 then
      some [T.i .i64 5]
     else
      some [T.i .i64 0]
    else none
def f229 (c : Orc) (lf : Nat) (l0_0 : List T) (n1 : Int) (b2 : Bool) : Option (List T) := f229_t c lf l0_0 n1 b2
theorem f229_eq (c : Orc) (lf : Nat) (l0_0 : List T) (n1 : Int) (b2 : Bool) : funK c env lf 6 fi229 [.st [.sl l0_0], .i .i64 n1, .b b2] = f229 c lf l0_0 n1 b2 := by kernel_rfl
def f200_t (c : Orc) (lf : Nat) (l0_0 : List T) (n1 : Int) (l2 : List T) : Option (List T) :=
 bif iLt 400 (l2.length : Int) then
  some [T.i .i64 1]
 else
  (c 155 [T.st [T.sl l0_0], T.i .i64 n1]).bind fun r194 =>
  (c 229 [T.st [T.sl l0_0], T.i .i64 n1, T.b ((asI (nth r194 0)) == 8)]).bind fun r195 =>
  some [T.i .i64 (asI (nth r195 0))]
def f200 (c : Orc) (lf : Nat) (l0_0 : List T) (n1 : Int) (l2 : List T) : Option (List T) := f200_t c lf l0_0 n1 l2
theorem f200_eq (c : Orc) (lf : Nat) (l0_0 : List T) (n1 : Int) (l2 : List T) : funK c env lf 6 fi200 [.st [.sl l0_0], .i .i64 n1, .sl l2] = f200 c lf l0_0 n1 l2 := by kernel_rfl
def f199_t (c : Orc) (lf : Nat) (l0_0 : List T) (n0_1 : Int) (l0_2 : List T) (b0_3 : Bool) (n1 : Int) : Option (List T) :=
 (c 70 [T.st [T.sl l0_0, T.i .i64 n0_1, T.sl l0_2, T.b b0_3]]).bind fun r196 =>
 bif !(asB (nth r196 0)) then
  some [T.i .i64 1]
 else
  bif b0_3 then
   some [T.i .i64 10]
  else
   bif iLe 100000 n0_1 then
    some [T.i .i64 10]
   else
    some [T.i .i64 n1]
def f199 (c : Orc) (lf : Nat) (l0_0 : List T) (n0_1 : Int) (l0_2 : List T) (b0_3 : Bool) (n1 : Int) : Option (List T) := f199_t c lf l0_0 n0_1 l0_2 b0_3 n1
theorem f199_eq (c : Orc) (lf : Nat) (l0_0 : List T) (n0_1 : Int) (l0_2 : List T) (b0_3 : Bool) (n1 : Int) : funK c env lf 6 fi199 [.st [.sl l0_0, .i .i64 n0_1, .sl l0_2, .b b0_3], .i .i64 n1] = f199 c lf l0_0 n0_1 l0_2 b0_3 n1 := by kernel_rfl
def f201_0_s (c : Orc) (lf : Nat) (b0_3 : Bool) (l0_0 l0_2 : List T) (n0_1 : Int) (L : Int → Option (List T)) (x199 : Int) : Option (List T) :=
 bif iLt x199 (l0_2.length : Int) then
  bif inR x199 l0_2.length then
  bif (asI (T.cell (l0_2.getD x199.toNat T.u) 0)) == n0_1 then
   bif inR x199 l0_2.length then
   some [T.i .i64 0, T.b true, T.i .i64 (asI (T.cell (l0_2.getD x199.toNat T.u) 0)), T.i .i64 (asI (T.cell (l0_2.getD x199.toNat T.u) 1)), T.i .i64 (asI (T.cell (l0_2.getD x199.toNat T.u) 2))]
   else none
  else
   L (IntKind.wrap .i64 (x199 + 1))
  else none
 else
  some [T.i .i64 1, T.i .i64 0, T.i .i64 0, T.i .i64 0]
def f201_0_c (b0_3 : Bool) (l0_0 l0_2 : List T) (n0_1 x199 : Int) : CSt := ⟨[.bp 4 0, .bp 5 0, .i .i64 x199], [.dead, .dead, .dead, .dead, .box [.ro 0 true [.sl true [.b, .sl false [.i .u8]], .i .i64, .b] l0_0, .i .i64 n0_1, .ro 0 true [.i .i64, .i .i64, .i .i64] l0_2, .b b0_3], .box [.i .i64 0, .i .i64 0, .i .i64 0]]⟩
theorem f201_0_round (c : Orc) (lf : Nat) (b0_3 : Bool) (l0_0 l0_2 : List T) (n0_1 : Int) (L : CSt → Option (List T)) (x199 : Int) :
 roundK c env lf 6 fi201 4 2 [] [1, 2, 4] (x201_2_0) L (f201_0_c b0_3 l0_0 l0_2 n0_1 x199) = f201_0_s c lf b0_3 l0_0 l0_2 n0_1 (fun x199 => L (f201_0_c b0_3 l0_0 l0_2 n0_1 x199)) x199 := by kernel_rfl
def f201_0 (c : Orc) (lf : Nat) (b0_3 : Bool) (l0_0 l0_2 : List T) (n0_1 : Int) : Nat → Int → Option (List T)
 | 0 => fun _ => none
 | n + 1 => fun x199 => f201_0_s c lf b0_3 l0_0 l0_2 n0_1 (f201_0 c lf b0_3 l0_0 l0_2 n0_1 n) x199
theorem f201_0_u (c : Orc) (lf : Nat) (b0_3 : Bool) (l0_0 l0_2 : List T) (n0_1 : Int) (n : Nat) (x199 : Int) : f201_0 c lf b0_3 l0_0 l0_2 n0_1 (n + 1) x199 = f201_0_s c lf b0_3 l0_0 l0_2 n0_1 (f201_0 c lf b0_3 l0_0 l0_2 n0_1 n) x199 := rfl
theorem f201_0_eq (c : Orc) (lf : Nat) (b0_3 : Bool) (l0_0 l0_2 : List T) (n0_1 : Int) (n : Nat) (x199 : Int) :
 lpK c env lf 6 fi201 4 2 [] [1, 2, 4] (x201_2_0) n (f201_0_c b0_3 l0_0 l0_2 n0_1 x199) = f201_0 c lf b0_3 l0_0 l0_2 n0_1 n x199 := by
 induction n generalizing x199 with
 | zero => rfl
 | succ n ih =>
  refine (f201_0_round c lf b0_3 l0_0 l0_2 n0_1 _ x199).trans ?_
  have e : (fun x199 => lpK c env lf 6 fi201 4 2 [] [1, 2, 4] (x201_2_0) n (f201_0_c b0_3 l0_0 l0_2 n0_1 x199)) = f201_0 c lf b0_3 l0_0 l0_2 n0_1 n := by funext x199; exact ih x199
  show f201_0_s c lf b0_3 l0_0 l0_2 n0_1 (fun x199 => lpK c env lf 6 fi201 4 2 [] [1, 2, 4] (x201_2_0) n (f201_0_c b0_3 l0_0 l0_2 n0_1 x199)) x199 = _
  rw [e]; rfl
def f201_t (c : Orc) (lf : Nat) (lp0 : Bool → List T → List T → Int → Int → Option (List T)) (l0_0 : List T) (n0_1 : Int) (l0_2 : List T) (b0_3 : Bool) : Option (List T) :=
 (lp0 b0_3 l0_0 l0_2 n0_1 0).bind fun r200 =>
 bif asI (nth r200 0) == 0 then
  some [T.st [T.i .i64 (asI (nth r200 2)), T.i .i64 (asI (nth r200 3)), T.i .i64 (asI (nth r200 4))], T.b (asB (nth r200 1))]
 else
  some [T.st [T.i .i64 0, T.i .i64 0, T.i .i64 0], T.b false]
def f201 (c : Orc) (lf : Nat) (l0_0 : List T) (n0_1 : Int) (l0_2 : List T) (b0_3 : Bool) : Option (List T) := f201_t c lf (fun (b0_3 : Bool) (l0_0 l0_2 : List T) (n0_1 x199 : Int) => f201_0 c lf b0_3 l0_0 l0_2 n0_1 lf x199) l0_0 n0_1 l0_2 b0_3
theorem f201_raw (c : Orc) (lf : Nat) (l0_0 : List T) (n0_1 : Int) (l0_2 : List T) (b0_3 : Bool) : funK c env lf 6 fi201 [.st [.sl l0_0, .i .i64 n0_1, .sl l0_2, .b b0_3]] = f201_t c lf (fun (b0_3 : Bool) (l0_0 l0_2 : List T) (n0_1 x199 : Int) => lpK c env lf 6 fi201 4 2 [] [1, 2, 4] (x201_2_0) lf (f201_0_c b0_3 l0_0 l0_2 n0_1 x199)) l0_0 n0_1 l0_2 b0_3 := by kernel_rfl
theorem f201_eq (c : Orc) (lf : Nat) (l0_0 : List T) (n0_1 : Int) (l0_2 : List T) (b0_3 : Bool) : funK c env lf 6 fi201 [.st [.sl l0_0, .i .i64 n0_1, .sl l0_2, .b b0_3]] = f201 c lf l0_0 n0_1 l0_2 b0_3 := by
 refine (f201_raw c lf l0_0 n0_1 l0_2 b0_3).trans ?_
 have e0 : (fun (b0_3 : Bool) (l0_0 l0_2 : List T) (n0_1 x199 : Int) => lpK c env lf 6 fi201 4 2 [] [1, 2, 4] (x201_2_0) lf (f201_0_c b0_3 l0_0 l0_2 n0_1 x199)) = (fun (b0_3 : Bool) (l0_0 l0_2 : List T) (n0_1 x199 : Int) => f201_0 c lf b0_3 l0_0 l0_2 n0_1 lf x199) := by funext b0_3 l0_0 l0_2 n0_1 x199; exact f201_0_eq c lf b0_3 l0_0 l0_2 n0_1 lf x199
 rw [e0]; rfl
def f202_t (c : Orc) (lf : Nat) (l0_0 : List T) (n1 : Int) (l2 : List T) : Option (List T) :=
 (c 194 [T.st [T.sl l0_0]]).bind fun r201 =>
 (c 200 [T.st [T.sl l0_0], T.i .i64 n1, T.sl l2]).bind fun r202 =>
 bif (asI (nth r202 0)) == 0 then
  bif inR n1 ((asL (T.cell (nth r201 0) 0)).length) then
  (c 155 [T.st [T.sl l0_0], T.i .i64 n1]).bind fun r203 =>
  bif nLe (([] : List T).length + l2.length) LIM then
  bif inR (asI (nth r203 0)) ((asL (T.cell ((asL (T.cell (nth r201 0) 0)).getD n1.toNat T.u) 0)).length) then
  some [T.st [T.sl ((asL (T.cell (nth r201 0) 0)).set n1.toNat (T.setc ((asL (T.cell (nth r201 0) 0)).getD n1.toNat T.u) 0 (T.sl ((asL (T.cell ((asL (T.cell (nth r201 0) 0)).getD n1.toNat T.u) 0)).set ((asI (nth r203 0)).toNat) (T.st [T.b true, T.sl (([] : List T) ++ l2)])))))], T.i .i64 (asI (nth r202 0))]
  else none
  else none
  else none
 else
  some [T.st [T.sl (asL (T.cell (nth r201 0) 0))], T.i .i64 (asI (nth r202 0))]
def f202 (c : Orc) (lf : Nat) (l0_0 : List T) (n1 : Int) (l2 : List T) : Option (List T) := f202_t c lf l0_0 n1 l2
theorem f202_eq (c : Orc) (lf : Nat) (l0_0 : List T) (n1 : Int) (l2 : List T) : funK c env lf 6 fi202 [.st [.sl l0_0], .i .i64 n1, .sl l2] = f202 c lf l0_0 n1 l2 := by kernel_rfl
def f156_t (c : Orc) (lf : Nat) (l0_0 : List T) (n0_1 : Int) (l0_2 : List T) (b0_3 : Bool) (n1 : Int) (l2 : List T) : Option (List T) :=
 (c 152 [T.st [T.sl l0_0, T.i .i64 n0_1, T.sl l0_2, T.b b0_3]]).bind fun r204 =>
 (c 200 [T.st [T.sl l0_0], T.i .i64 n1, T.sl l2]).bind fun r205 =>
 (c 199 [T.st [T.sl l0_0, T.i .i64 n0_1, T.sl l0_2, T.b b0_3], T.i .i64 (asI (nth r205 0))]).bind fun r206 =>
 bif (asI (nth r206 0)) != 0 then
  some [T.st [T.sl (asL (T.cell (nth r204 0) 0)), T.i .i64 (asI (T.cell (nth r204 0) 1)), T.sl (asL (T.cell (nth r204 0) 2)), T.b (asB (T.cell (nth r204 0) 3))], T.i .i64 (asI (nth r206 0))]
 else
  (c 201 [T.st [T.sl l0_0, T.i .i64 n0_1, T.sl l0_2, T.b b0_3]]).bind fun r207 =>
  bif asB (nth r207 1) then
   bif (asI (T.cell (nth r207 0) 1)) == 1 then
    bif inR n1 ((asL (T.cell (nth r204 0) 0)).length) then
    some [T.st [T.sl ((asL (T.cell (nth r204 0) 0)).set n1.toNat (T.setc ((asL (T.cell (nth r204 0) 0)).getD n1.toNat T.u) 2 (T.b true))), T.i .i64 (IntKind.wrap .i64 (n0_1 + 1)), T.sl (asL (T.cell (nth r204 0) 2)), T.b (asB (T.cell (nth r204 0) 3))], T.i .i64 2]
    else none
   else
    bif asB (nth r207 1) then
     bif iLt (asI (T.cell (nth r207 0) 2)) (l2.length : Int) then
      bif iLe 0 (asI (T.cell (nth r207 0) 2)) && iLe (asI (T.cell (nth r207 0) 2)) (l2.length : Int) then
      (c 202 [T.st [T.sl l0_0], T.i .i64 n1, T.sl (l2.take ((asI (T.cell (nth r207 0) 2)).toNat))]).bind fun r208 =>
      bif asB (nth r207 1) then
       some [T.st [T.sl (asL (T.cell (nth r208 0) 0)), T.i .i64 (IntKind.wrap .i64 (n0_1 + 1)), T.sl (asL (T.cell (nth r204 0) 2)), T.b (asB (nth r207 1))], T.i .i64 10]
      else
       some [T.st [T.sl (asL (T.cell (nth r208 0) 0)), T.i .i64 (IntKind.wrap .i64 (n0_1 + 1)), T.sl (asL (T.cell (nth r204 0) 2)), T.b (asB (nth r207 1))], T.i .i64 0]
      else none
     else
      bif iLe 0 (l2.length : Int) && iLe (l2.length : Int) (l2.length : Int) then
      (c 202 [T.st [T.sl l0_0], T.i .i64 n1, T.sl (l2.take ((l2.length : Int).toNat))]).bind fun r209 =>
      bif asB (nth r207 1) then
       some [T.st [T.sl (asL (T.cell (nth r209 0) 0)), T.i .i64 (IntKind.wrap .i64 (n0_1 + 1)), T.sl (asL (T.cell (nth r204 0) 2)), T.b (asB (nth r207 1))], T.i .i64 10]
      else
       some [T.st [T.sl (asL (T.cell (nth r209 0) 0)), T.i .i64 (IntKind.wrap .i64 (n0_1 + 1)), T.sl (asL (T.cell (nth r204 0) 2)), T.b (asB (nth r207 1))], T.i .i64 0]
      else none
    else
     bif iLe 0 (l2.length : Int) && iLe (l2.length : Int) (l2.length : Int) then
     (c 202 [T.st [T.sl l0_0], T.i .i64 n1, T.sl (l2.take ((l2.length : Int).toNat))]).bind fun r210 =>
     bif asB (nth r207 1) then
      some [T.st [T.sl (asL (T.cell (nth r210 0) 0)), T.i .i64 (IntKind.wrap .i64 (n0_1 + 1)), T.sl (asL (T.cell (nth r204 0) 2)), T.b (asB (nth r207 1))], T.i .i64 10]
     else
      some [T.st [T.sl (asL (T.cell (nth r210 0) 0)), T.i .i64 (IntKind.wrap .i64 (n0_1 + 1)), T.sl (asL (T.cell (nth r204 0) 2)), T.b (asB (nth r207 1))], T.i .i64 0]
     else none
  else
   bif asB (nth r207 1) then
    bif iLt (asI (T.cell (nth r207 0) 2)) (l2.length : Int) then
     bif iLe 0 (asI (T.cell (nth r207 0) 2)) && iLe (asI (T.cell (nth r207 0) 2)) (l2.length : Int) then
     (c 202 [T.st [T.sl l0_0], T.i .i64 n1, T.sl (l2.take ((asI (T.cell (nth r207 0) 2)).toNat))]).bind fun r211 =>
     bif asB (nth r207 1) then
      some [T.st [T.sl (asL (T.cell (nth r211 0) 0)), T.i .i64 (IntKind.wrap .i64 (n0_1 + 1)), T.sl (asL (T.cell (nth r204 0) 2)), T.b (asB (nth r207 1))], T.i .i64 10]
     else
      some [T.st [T.sl (asL (T.cell (nth r211 0) 0)), T.i .i64 (IntKind.wrap .i64 (n0_1 + 1)), T.sl (asL (T.cell (nth r204 0) 2)), T.b (asB (nth r207 1))], T.i .i64 0]
     else none
    else
     bif iLe 0 (l2.length : Int) && iLe (l2.length : Int) (l2.length : Int) then
     (c 202 [T.st [T.sl l0_0], T.i .i64 n1, T.sl (l2.take ((l2.length : Int).toNat))]).bind fun r212 =>
     bif asB (nth r207 1) then
      some [T.st [T.sl (asL (T.cell (nth r212 0) 0)), T.i .i64 (IntKind.wrap .i64 (n0_1 + 1)), T.sl (asL (T.cell (nth r204 0) 2)), T.b (asB (nth r207 1))], T.i .i64 10]
     else
      some [T.st [T.sl (asL (T.cell (nth r212 0) 0)), T.i .i64 (IntKind.wrap .i64 (n0_1 + 1)), T.sl (asL (T.cell (nth r204 0) 2)), T.b (asB (nth r207 1))], T.i .i64 0]
     else none
   else
    bif iLe 0 (l2.length : Int) && iLe (l2.length : Int) (l2.length : Int) then
    (c 202 [T.st [T.sl l0_0], T.i .i64 n1, T.sl (l2.take ((l2.length : Int).toNat))]).bind fun r213 =>
    bif asB (nth r207 1) then
     some [T.st [T.sl (asL (T.cell (nth r213 0) 0)), T.i .i64 (IntKind.wrap .i64 (n0_1 + 1)), T.sl (asL (T.cell (nth r204 0) 2)), T.b (asB (nth r207 1))], T.i .i64 10]
    else
     some [T.st [T.sl (asL (T.cell (nth r213 0) 0)), T.i .i64 (IntKind.wrap .i64 (n0_1 + 1)), T.sl (asL (T.cell (nth r204 0) 2)), T.b (asB (nth r207 1))], T.i .i64 0]
    else none
def f156 (c : Orc) (lf : Nat) (l0_0 : List T) (n0_1 : Int) (l0_2 : List T) (b0_3 : Bool) (n1 : Int) (l2 : List T) : Option (List T) := f156_t c lf l0_0 n0_1 l0_2 b0_3 n1 l2
theorem f156_eq (c : Orc) (lf : Nat) (l0_0 : List T) (n0_1 : Int) (l0_2 : List T) (b0_3 : Bool) (n1 : Int) (l2 : List T) : funK c env lf 6 fi156 [.st [.sl l0_0, .i .i64 n0_1, .sl l0_2, .b b0_3], .i .i64 n1, .sl l2] = f156 c lf l0_0 n0_1 l0_2 b0_3 n1 l2 := by kernel_rfl
def f104_0_s (c : Orc) (lf : Nat) (n3 n0_4 : Int) (r227 : List T) (L : Int → Int → Bool → List T → List T → Option (List T)) (x231 x232 : Int) (x233 : Bool) (x234 x235 : List T) : Option (List T) :=
 bif iLe x231 (x234.length : Int) then
  (c 154 [T.st [T.sl x234, T.i .i64 x232, T.sl x235, T.b x233, T.i .i64 n0_4], T.i .i64 n3]).bind fun r236 =>
  bif x233 then
   some [T.i .i64 0, T.i .i64 (-1), T.i .i64 10, T.i .i64 x232, T.b x233, T.i .i64 n0_4, T.sl x234, T.sl x235]
  else
   bif iLt (asI (nth r236 0)) 0 then
    some [T.i .i64 0, T.i .i64 (-1), T.i .i64 9, T.i .i64 x232, T.b x233, T.i .i64 n0_4, T.sl x234, T.sl x235]
   else
    (c 155 [T.st [T.sl x234], T.i .i64 (asI (nth r236 0))]).bind fun r237 =>
    (c 156 [T.st [T.sl x234, T.i .i64 x232, T.sl x235, T.b x233], T.i .i64 (asI (nth r236 0)), T.sl (asL (nth r227 0))]).bind fun r238 =>
    bif (asI (nth r238 1)) == 0 then
     some [T.i .i64 0, T.i .i64 (IntKind.wrap .i64 ((IntKind.wrap .i64 ((asI (nth r236 0)) * 8)) + (asI (nth r237 0)))), T.i .i64 0, T.i .i64 (asI (T.cell (nth r238 0) 1)), T.b (asB (T.cell (nth r238 0) 3)), T.i .i64 (IntKind.wrap .i64 (n0_4 + 1)), T.sl (asL (T.cell (nth r238 0) 0)), T.sl (asL (T.cell (nth r238 0) 2))]
    else
     bif (asI (nth r238 1)) != 2 then
      bif asB (T.cell (nth r238 0) 3) then
       some [T.i .i64 0, T.i .i64 (-1), T.i .i64 10, T.i .i64 (asI (T.cell (nth r238 0) 1)), T.b (asB (T.cell (nth r238 0) 3)), T.i .i64 (IntKind.wrap .i64 (n0_4 + 1)), T.sl (asL (T.cell (nth r238 0) 0)), T.sl (asL (T.cell (nth r238 0) 2))]
      else
       some [T.i .i64 0, T.i .i64 (-1), T.i .i64 10, T.i .i64 (asI (T.cell (nth r238 0) 1)), T.b (asB (T.cell (nth r238 0) 3)), T.i .i64 n0_4, T.sl (asL (T.cell (nth r238 0) 0)), T.sl (asL (T.cell (nth r238 0) 2))]
     else
      L (IntKind.wrap .i64 (x231 + 1)) (asI (T.cell (nth r238 0) 1)) (asB (T.cell (nth r238 0) 3)) (asL (T.cell (nth r238 0) 0)) (asL (T.cell (nth r238 0) 2))
 else
  some [T.i .i64 1, T.i .i64 x232, T.b x233, T.i .i64 n0_4, T.sl x234, T.sl x235, T.i .i64 0, T.b false, T.i .i64 0, T.sl ([] : List T), T.sl ([] : List T)]
def f104_0_c (n3 n0_4 : Int) (r227 : List T) (x231 x232 : Int) (x233 : Bool) (x234 x235 : List T) : CSt := ⟨[.i .i64 n3, .bp 8 0, .bp 11 0, .rf 14 [] 0 none, .i .i64 x231], [.dead, .dead, .dead, .dead, .dead, .dead, .dead, .dead, .box [.rf 9 [] 0 none, .i .i64 x232, .rf 10 [] 0 none, .b x233, .i .i64 n0_4], .row true [.sl true [.b, .sl false [.i .u8]], .i .i64, .b] x234 0 false, .row true [.i .i64, .i .i64, .i .i64] x235 0 false, .box [.rf 12 [] 0 none, .i .i64 0, .rf 13 [] 0 none, .b false, .i .i64 0], .row true [.sl true [.b, .sl false [.i .u8]], .i .i64, .b] ([] : List T) 0 false, .row true [.i .i64, .i .i64, .i .i64] ([] : List T) 0 false, .row false [.i .u8] (asL (nth r227 0)) 0 false]⟩
theorem f104_0_round (c : Orc) (lf : Nat) (n3 n0_4 : Int) (r227 : List T) (L : CSt → Option (List T)) (x231 x232 : Int) (x233 : Bool) (x234 x235 : List T) :
 roundK c env lf 6 fi104 8 3 [] [3, 4, 8, 11, 12] (x104_3_0) L (f104_0_c n3 n0_4 r227 x231 x232 x233 x234 x235) = f104_0_s c lf n3 n0_4 r227 (fun x231 x232 x233 x234 x235 => L (f104_0_c n3 n0_4 r227 x231 x232 x233 x234 x235)) x231 x232 x233 x234 x235 := by kernel_rfl
def f104_0 (c : Orc) (lf : Nat) (n3 n0_4 : Int) (r227 : List T) : Nat → Int → Int → Bool → List T → List T → Option (List T)
 | 0 => fun _ _ _ _ _ => none
 | n + 1 => fun x231 x232 x233 x234 x235 => f104_0_s c lf n3 n0_4 r227 (f104_0 c lf n3 n0_4 r227 n) x231 x232 x233 x234 x235
theorem f104_0_u (c : Orc) (lf : Nat) (n3 n0_4 : Int) (r227 : List T) (n : Nat) (x231 x232 : Int) (x233 : Bool) (x234 x235 : List T) : f104_0 c lf n3 n0_4 r227 (n + 1) x231 x232 x233 x234 x235 = f104_0_s c lf n3 n0_4 r227 (f104_0 c lf n3 n0_4 r227 n) x231 x232 x233 x234 x235 := rfl
theorem f104_0_eq (c : Orc) (lf : Nat) (n3 n0_4 : Int) (r227 : List T) (n : Nat) (x231 x232 : Int) (x233 : Bool) (x234 x235 : List T) :
 lpK c env lf 6 fi104 8 3 [] [3, 4, 8, 11, 12] (x104_3_0) n (f104_0_c n3 n0_4 r227 x231 x232 x233 x234 x235) = f104_0 c lf n3 n0_4 r227 n x231 x232 x233 x234 x235 := by
 induction n generalizing x231 x232 x233 x234 x235 with
 | zero => rfl
 | succ n ih =>
  refine (f104_0_round c lf n3 n0_4 r227 _ x231 x232 x233 x234 x235).trans ?_
  have e : (fun x231 x232 x233 x234 x235 => lpK c env lf 6 fi104 8 3 [] [3, 4, 8, 11, 12] (x104_3_0) n (f104_0_c n3 n0_4 r227 x231 x232 x233 x234 x235)) = f104_0 c lf n3 n0_4 r227 n := by funext x231 x232 x233 x234 x235; exact ih x231 x232 x233 x234 x235
  show f104_0_s c lf n3 n0_4 r227 (fun x231 x232 x233 x234 x235 => lpK c env lf 6 fi104 8 3 [] [3, 4, 8, 11, 12] (x104_3_0) n (f104_0_c n3 n0_4 r227 x231 x232 x233 x234 x235)) x231 x232 x233 x234 x235 = _
  rw [e]; rfl
def f104_t (c : Orc) (lf : Nat) (lp0 : Int → Int → List T → Int → Int → Bool → List T → List T → Option (List T)) (l0_0 : List T) (n0_1 : Int) (l0_2 : List T) (b0_3 : Bool) (n0_4 n1 : Int) (l2 : List T) (n3 : Int) : Option (List T) :=
 (c 153 [T.st [T.i .i64 n1, T.i .i64 n0_4, T.sl l2]]).bind fun r227 =>
 (lp0 n3 n0_4 r227 0 n0_1 b0_3 l0_0 l0_2).bind fun r239 =>
 bif asI (nth r239 0) == 0 then
  some [T.st [T.sl (asL (nth r239 6)), T.i .i64 (asI (nth r239 3)), T.sl (asL (nth r239 7)), T.b (asB (nth r239 4)), T.i .i64 (asI (nth r239 5))], T.i .i64 (asI (nth r239 1)), T.i .i64 (asI (nth r239 2))]
 else
  some [T.st [T.sl (asL (nth r239 4)), T.i .i64 (asI (nth r239 1)), T.sl (asL (nth r239 5)), T.b (asB (nth r239 2)), T.i .i64 (asI (nth r239 3))], T.i .i64 (-1), T.i .i64 9]
def f104 (c : Orc) (lf : Nat) (l0_0 : List T) (n0_1 : Int) (l0_2 : List T) (b0_3 : Bool) (n0_4 n1 : Int) (l2 : List T) (n3 : Int) : Option (List T) := f104_t c lf (fun (n3 n0_4 : Int) (r227 : List T) (x231 x232 : Int) (x233 : Bool) (x234 x235 : List T) => f104_0 c lf n3 n0_4 r227 lf x231 x232 x233 x234 x235) l0_0 n0_1 l0_2 b0_3 n0_4 n1 l2 n3
theorem f104_raw (c : Orc) (lf : Nat) (l0_0 : List T) (n0_1 : Int) (l0_2 : List T) (b0_3 : Bool) (n0_4 n1 : Int) (l2 : List T) (n3 : Int) : funK c env lf 6 fi104 [.st [.sl l0_0, .i .i64 n0_1, .sl l0_2, .b b0_3, .i .i64 n0_4], .i .i64 n1, .sl l2, .i .i64 n3] = f104_t c lf (fun (n3 n0_4 : Int) (r227 : List T) (x231 x232 : Int) (x233 : Bool) (x234 x235 : List T) => lpK c env lf 6 fi104 8 3 [] [3, 4, 8, 11, 12] (x104_3_0) lf (f104_0_c n3 n0_4 r227 x231 x232 x233 x234 x235)) l0_0 n0_1 l0_2 b0_3 n0_4 n1 l2 n3 := by kernel_rfl
theorem f104_eq (c : Orc) (lf : Nat) (l0_0 : List T) (n0_1 : Int) (l0_2 : List T) (b0_3 : Bool) (n0_4 n1 : Int) (l2 : List T) (n3 : Int) : funK c env lf 6 fi104 [.st [.sl l0_0, .i .i64 n0_1, .sl l0_2, .b b0_3, .i .i64 n0_4], .i .i64 n1, .sl l2, .i .i64 n3] = f104 c lf l0_0 n0_1 l0_2 b0_3 n0_4 n1 l2 n3 := by
 refine (f104_raw c lf l0_0 n0_1 l0_2 b0_3 n0_4 n1 l2 n3).trans ?_
 have e0 : (fun (n3 n0_4 : Int) (r227 : List T) (x231 x232 : Int) (x233 : Bool) (x234 x235 : List T) => lpK c env lf 6 fi104 8 3 [] [3, 4, 8, 11, 12] (x104_3_0) lf (f104_0_c n3 n0_4 r227 x231 x232 x233 x234 x235)) = (fun (n3 n0_4 : Int) (r227 : List T) (x231 x232 : Int) (x233 : Bool) (x234 x235 : List T) => f104_0 c lf n3 n0_4 r227 lf x231 x232 x233 x234 x235) := by funext n3 n0_4 r227 x231 x232 x233 x234 x235; exact f104_0_eq c lf n3 n0_4 r227 lf x231 x232 x233 x234 x235
 rw [e0]; rfl
def f46_t (c : Orc) (lf : Nat) (l0_0 : List T) (n0_1 : Int) (l0_2 : List T) (b0_3 : Bool) (n0_4 n1 : Int) (l2 : List T) (n3 : Int) : Option (List T) :=
 (c 102 [T.st [T.sl l0_0, T.i .i64 n0_1, T.sl l0_2, T.b b0_3, T.i .i64 n0_4]]).bind fun r240 =>
 (c 70 [T.st [T.sl l0_0, T.i .i64 n0_1, T.sl l0_2, T.b b0_3]]).bind fun r241 =>
 bif !(asB (nth r241 0)) then
  some [T.st [T.sl (asL (T.cell (nth r240 0) 0)), T.i .i64 (asI (T.cell (nth r240 0) 1)), T.sl (asL (T.cell (nth r240 0) 2)), T.b (asB (T.cell (nth r240 0) 3)), T.i .i64 (asI (T.cell (nth r240 0) 4))], T.i .i64 (-1), T.i .i64 1]
 else
  (c 103 [T.st [T.i .i64 n1, T.i .i64 n0_4, T.sl l2]]).bind fun r242 =>
  bif !(asB (nth r242 0)) then
   some [T.st [T.sl (asL (T.cell (nth r240 0) 0)), T.i .i64 (asI (T.cell (nth r240 0) 1)), T.sl (asL (T.cell (nth r240 0) 2)), T.b (asB (T.cell (nth r240 0) 3)), T.i .i64 (asI (T.cell (nth r240 0) 4))], T.i .i64 (-1), T.i .i64 1]
  else
   bif iLe 1000000 n0_4 then
    some [T.st [T.sl (asL (T.cell (nth r240 0) 0)), T.i .i64 (asI (T.cell (nth r240 0) 1)), T.sl (asL (T.cell (nth r240 0) 2)), T.b (asB (T.cell (nth r240 0) 3)), T.i .i64 (asI (T.cell (nth r240 0) 4))], T.i .i64 (-1), T.i .i64 1]
   else
    (c 104 [T.st [T.sl (asL (T.cell (nth r240 0) 0)), T.i .i64 (asI (T.cell (nth r240 0) 1)), T.sl (asL (T.cell (nth r240 0) 2)), T.b (asB (T.cell (nth r240 0) 3)), T.i .i64 (asI (T.cell (nth r240 0) 4))], T.i .i64 n1, T.sl l2, T.i .i64 n3]).bind fun r243 =>
    some [T.st [T.sl (asL (T.cell (nth r243 0) 0)), T.i .i64 (asI (T.cell (nth r243 0) 1)), T.sl (asL (T.cell (nth r243 0) 2)), T.b (asB (T.cell (nth r243 0) 3)), T.i .i64 (asI (T.cell (nth r243 0) 4))], T.i .i64 (asI (nth r243 1)), T.i .i64 (asI (nth r243 2))]
def f46 (c : Orc) (lf : Nat) (l0_0 : List T) (n0_1 : Int) (l0_2 : List T) (b0_3 : Bool) (n0_4 n1 : Int) (l2 : List T) (n3 : Int) : Option (List T) := f46_t c lf l0_0 n0_1 l0_2 b0_3 n0_4 n1 l2 n3
theorem f46_eq (c : Orc) (lf : Nat) (l0_0 : List T) (n0_1 : Int) (l0_2 : List T) (b0_3 : Bool) (n0_4 n1 : Int) (l2 : List T) (n3 : Int) : funK c env lf 6 fi46 [.st [.sl l0_0, .i .i64 n0_1, .sl l0_2, .b b0_3, .i .i64 n0_4], .i .i64 n1, .sl l2, .i .i64 n3] = f46 c lf l0_0 n0_1 l0_2 b0_3 n0_4 n1 l2 n3 := by kernel_rfl
def f106_t (c : Orc) (lf : Nat) (l0_0 : List T) (n0_1 n0_2 n1 : Int) : Option (List T) :=
 (c 97 [T.st [T.sl l0_0, T.i .i64 n0_1, T.i .i64 n0_2], T.i .i64 n1]).bind fun r244 =>
 some [T.b ((asI (nth r244 0)) == 0), T.st [T.sl l0_0, T.i .i64 (asI (T.cell (nth r244 1) 1)), T.i .i64 (asI (T.cell (nth r244 1) 2))]]
def f106 (c : Orc) (lf : Nat) (l0_0 : List T) (n0_1 n0_2 n1 : Int) : Option (List T) := f106_t c lf l0_0 n0_1 n0_2 n1
theorem f106_eq (c : Orc) (lf : Nat) (l0_0 : List T) (n0_1 n0_2 n1 : Int) : funK c env lf 6 fi106 [.st [.sl l0_0, .i .i64 n0_1, .i .i64 n0_2], .i .i64 n1] = f106 c lf l0_0 n0_1 n0_2 n1 := by kernel_rfl
def f85_0_s (c : Orc) (lf : Nat) (l0_0 : List T) (L : Int → Int → Int → Int → Bool → Int → List T → List T → Option (List T)) (x277 x278 : Int) (x279 x280 : Int) (x281 : Bool) (x282 : Int) (x283 x284 : List T) : Option (List T) :=
 bif iLt 0 x277 then
  (c 97 [T.st [T.sl l0_0, T.i .i64 x278, T.i .i64 x279], T.i .i64 4]).bind fun r285 =>
  (c 86 [T.st [T.sl l0_0, T.i .i64 (asI (T.cell (nth r285 1) 1)), T.i .i64 (asI (T.cell (nth r285 1) 2))]]).bind fun r286 =>
  (c 97 [T.st [T.sl l0_0, T.i .i64 (asI (T.cell (nth r286 1) 1)), T.i .i64 (asI (T.cell (nth r286 1) 2))], T.i .i64 2]).bind fun r287 =>
  (c 46 [T.st [T.sl x283, T.i .i64 x280, T.sl x284, T.b x281, T.i .i64 x282], T.i .i64 (IntKind.wrap .i64 (1 + (asI (nth r285 0)))), T.sl (asL (nth r286 0)), T.i .i64 (asI (nth r287 0))]).bind fun r288 =>
  bif asB (T.cell (nth r288 0) 3) then
   (c 106 [T.st [T.sl l0_0, T.i .i64 (asI (T.cell (nth r287 1) 1)), T.i .i64 (asI (T.cell (nth r287 1) 2))], T.i .i64 3]).bind fun r289 =>
   bif asB (nth r289 0) then
    L (IntKind.wrap .i64 (x277 - 1)) (asI (T.cell (nth r289 1) 1)) (asI (T.cell (nth r289 1) 2)) (asI (T.cell (nth r288 0) 1)) false (asI (T.cell (nth r288 0) 4)) (asL (T.cell (nth r288 0) 0)) (asL (T.cell (nth r288 0) 2))
   else
    L (IntKind.wrap .i64 (x277 - 1)) (asI (T.cell (nth r289 1) 1)) (asI (T.cell (nth r289 1) 2)) (asI (T.cell (nth r288 0) 1)) (asB (T.cell (nth r288 0) 3)) (asI (T.cell (nth r288 0) 4)) (asL (T.cell (nth r288 0) 0)) (asL (T.cell (nth r288 0) 2))
  else
   L (IntKind.wrap .i64 (x277 - 1)) (asI (T.cell (nth r287 1) 1)) (asI (T.cell (nth r287 1) 2)) (asI (T.cell (nth r288 0) 1)) (asB (T.cell (nth r288 0) 3)) (asI (T.cell (nth r288 0) 4)) (asL (T.cell (nth r288 0) 0)) (asL (T.cell (nth r288 0) 2))
 else
  some [T.i .i64 0, T.sl l0_0, T.i .i64 x278, T.i .i64 x279, T.i .i64 0, T.b false, T.i .i64 0, T.sl ([] : List T), T.sl ([] : List T), T.i .i64 x280, T.b x281, T.i .i64 x282, T.sl x283, T.sl x284]
def f85_0_c (l0_0 : List T) (x277 x278 : Int) (x279 x280 : Int) (x281 : Bool) (x282 : Int) (x283 x284 : List T) : CSt := ⟨[.bp 0 0, .bp 4 0, .bp 7 0, .i .i64 x277], [.box [.ro 1 false [.i .u8] l0_0, .i .i64 x278, .i .i64 x279], .dead, .dead, .dead, .box [.rf 5 [] 0 none, .i .i64 0, .rf 6 [] 0 none, .b false, .i .i64 0], .row true [.sl true [.b, .sl false [.i .u8]], .i .i64, .b] ([] : List T) 0 false, .row true [.i .i64, .i .i64, .i .i64] ([] : List T) 0 false, .box [.rf 8 [] 0 none, .i .i64 x280, .rf 9 [] 0 none, .b x281, .i .i64 x282], .row true [.sl true [.b, .sl false [.i .u8]], .i .i64, .b] x283 0 false, .row true [.i .i64, .i .i64, .i .i64] x284 0 false]⟩
theorem f85_0_round (c : Orc) (lf : Nat) (l0_0 : List T) (L : CSt → Option (List T)) (x277 x278 : Int) (x279 x280 : Int) (x281 : Bool) (x282 : Int) (x283 x284 : List T) :
 roundK c env lf 6 fi85 4 3 [] [0, 2, 3, 4] (x85_3_0) L (f85_0_c l0_0 x277 x278 x279 x280 x281 x282 x283 x284) = f85_0_s c lf l0_0 (fun x277 x278 x279 x280 x281 x282 x283 x284 => L (f85_0_c l0_0 x277 x278 x279 x280 x281 x282 x283 x284)) x277 x278 x279 x280 x281 x282 x283 x284 := by kernel_rfl
def f85_0 (c : Orc) (lf : Nat) (l0_0 : List T) : Nat → Int → Int → Int → Int → Bool → Int → List T → List T → Option (List T)
 | 0 => fun _ _ _ _ _ _ _ _ => none
 | n + 1 => fun x277 x278 x279 x280 x281 x282 x283 x284 => f85_0_s c lf l0_0 (f85_0 c lf l0_0 n) x277 x278 x279 x280 x281 x282 x283 x284
theorem f85_0_u (c : Orc) (lf : Nat) (l0_0 : List T) (n : Nat) (x277 x278 : Int) (x279 x280 : Int) (x281 : Bool) (x282 : Int) (x283 x284 : List T) : f85_0 c lf l0_0 (n + 1) x277 x278 x279 x280 x281 x282 x283 x284 = f85_0_s c lf l0_0 (f85_0 c lf l0_0 n) x277 x278 x279 x280 x281 x282 x283 x284 := rfl
theorem f85_0_eq (c : Orc) (lf : Nat) (l0_0 : List T) (n : Nat) (x277 x278 : Int) (x279 x280 : Int) (x281 : Bool) (x282 : Int) (x283 x284 : List T) :
 lpK c env lf 6 fi85 4 3 [] [0, 2, 3, 4] (x85_3_0) n (f85_0_c l0_0 x277 x278 x279 x280 x281 x282 x283 x284) = f85_0 c lf l0_0 n x277 x278 x279 x280 x281 x282 x283 x284 := by
 induction n generalizing x277 x278 x279 x280 x281 x282 x283 x284 with
 | zero => rfl
 | succ n ih =>
  refine (f85_0_round c lf l0_0 _ x277 x278 x279 x280 x281 x282 x283 x284).trans ?_
  have e : (fun x277 x278 x279 x280 x281 x282 x283 x284 => lpK c env lf 6 fi85 4 3 [] [0, 2, 3, 4] (x85_3_0) n (f85_0_c l0_0 x277 x278 x279 x280 x281 x282 x283 x284)) = f85_0 c lf l0_0 n := by funext x277 x278 x279 x280 x281 x282 x283 x284; exact ih x277 x278 x279 x280 x281 x282 x283 x284
  show f85_0_s c lf l0_0 (fun x277 x278 x279 x280 x281 x282 x283 x284 => lpK c env lf 6 fi85 4 3 [] [0, 2, 3, 4] (x85_3_0) n (f85_0_c l0_0 x277 x278 x279 x280 x281 x282 x283 x284)) x277 x278 x279 x280 x281 x282 x283 x284 = _
  rw [e]; rfl
def f85_t (c : Orc) (lf : Nat) (lp0 : List T → Int → Int → Int → Int → Bool → Int → List T → List T → Option (List T)) (l0_0 : List T) (n0_1 n0_2 : Int) : Option (List T) :=
 (c 97 [T.st [T.sl l0_0, T.i .i64 n0_1, T.i .i64 n0_2], T.i .i64 3]).bind fun r268 =>
 (c 139 [T.st [T.sl l0_0, T.i .i64 (asI (T.cell (nth r268 1) 1)), T.i .i64 (asI (T.cell (nth r268 1) 2))]]).bind fun r269 =>
 (c 138 [T.i .i64 (IntKind.wrap .i64 (3 + (asI (nth r268 0)))), T.sl (asL (nth r269 0))]).bind fun r270 =>
 (c 97 [T.st [T.sl l0_0, T.i .i64 (asI (T.cell (nth r269 1) 1)), T.i .i64 (asI (T.cell (nth r269 1) 2))], T.i .i64 20]).bind fun r271 =>
 (lp0 l0_0 (asI (nth r271 0)) (asI (T.cell (nth r271 1) 1)) (asI (T.cell (nth r271 1) 2)) (asI (T.cell (nth r270 0) 1)) (asB (T.cell (nth r270 0) 3)) 0 (asL (T.cell (nth r270 0) 0)) (asL (T.cell (nth r270 0) 2))).bind fun r290 =>
 some [T.st [T.sl (asL (nth r290 12)), T.i .i64 (asI (nth r290 9)), T.sl (asL (nth r290 13)), T.b (asB (nth r290 10)), T.i .i64 (asI (nth r290 11))], T.st [T.sl (asL (nth r290 1)), T.i .i64 (asI (nth r290 2)), T.i .i64 (asI (nth r290 3))]]
def f85 (c : Orc) (lf : Nat) (l0_0 : List T) (n0_1 n0_2 : Int) : Option (List T) := f85_t c lf (fun (l0_0 : List T) (x277 x278 : Int) (x279 x280 : Int) (x281 : Bool) (x282 : Int) (x283 x284 : List T) => f85_0 c lf l0_0 lf x277 x278 x279 x280 x281 x282 x283 x284) l0_0 n0_1 n0_2
theorem f85_raw (c : Orc) (lf : Nat) (l0_0 : List T) (n0_1 n0_2 : Int) : funK c env lf 6 fi85 [.st [.sl l0_0, .i .i64 n0_1, .i .i64 n0_2]] = f85_t c lf (fun (l0_0 : List T) (x277 x278 : Int) (x279 x280 : Int) (x281 : Bool) (x282 : Int) (x283 x284 : List T) => lpK c env lf 6 fi85 4 3 [] [0, 2, 3, 4] (x85_3_0) lf (f85_0_c l0_0 x277 x278 x279 x280 x281 x282 x283 x284)) l0_0 n0_1 n0_2 := by kernel_rfl
theorem f85_eq (c : Orc) (lf : Nat) (l0_0 : List T) (n0_1 n0_2 : Int) : funK c env lf 6 fi85 [.st [.sl l0_0, .i .i64 n0_1, .i .i64 n0_2]] = f85 c lf l0_0 n0_1 n0_2 := by
 refine (f85_raw c lf l0_0 n0_1 n0_2).trans ?_
 have e0 : (fun (l0_0 : List T) (x277 x278 : Int) (x279 x280 : Int) (x281 : Bool) (x282 : Int) (x283 x284 : List T) => lpK c env lf 6 fi85 4 3 [] [0, 2, 3, 4] (x85_3_0) lf (f85_0_c l0_0 x277 x278 x279 x280 x281 x282 x283 x284)) = (fun (l0_0 : List T) (x277 x278 : Int) (x279 x280 : Int) (x281 : Bool) (x282 : Int) (x283 x284 : List T) => f85_0 c lf l0_0 lf x277 x278 x279 x280 x281 x282 x283 x284) := by funext l0_0 x277 x278 x279 x280 x281 x282 x283 x284; exact f85_0_eq c lf l0_0 lf x277 x278 x279 x280 x281 x282 x283 x284
 rw [e0]; rfl
def f245_t (c : Orc) (lf : Nat) (l0_0 : List T) (n1 : Int) : Option (List T) :=
 bif iLe 0 n1 then
  bif iLt n1 (l0_0.length : Int) then
   bif inR n1 l0_0.length then
   (c 229 [T.st [T.sl l0_0], T.i .i64 n1, T.b (iLe 100000 (asI (T.cell (l0_0.getD n1.toNat T.u) 1)))]).bind fun r291 =>
   some [T.i .i64 (asI (nth r291 0))]
   else none
  else
   (c 229 [T.st [T.sl l0_0], T.i .i64 n1, T.b false]).bind fun r292 =>
   some [T.i .i64 (asI (nth r292 0))]
 else
  (c 229 [T.st [T.sl l0_0], T.i .i64 n1, T.b false]).bind fun r293 =>
  some [T.i .i64 (asI (nth r293 0))]
def f245 (c : Orc) (lf : Nat) (l0_0 : List T) (n1 : Int) : Option (List T) := f245_t c lf l0_0 n1
theorem f245_eq (c : Orc) (lf : Nat) (l0_0 : List T) (n1 : Int) : funK c env lf 6 fi245 [.st [.sl l0_0], .i .i64 n1] = f245 c lf l0_0 n1 := by kernel_rfl
def f246_t (c : Orc) (lf : Nat) (l0_0 : List T) (n1 : Int) : Option (List T) :=
 (c 194 [T.st [T.sl l0_0]]).bind fun r294 =>
 (c 245 [T.st [T.sl l0_0], T.i .i64 n1]).bind fun r295 =>
 bif (asI (nth r295 0)) == 0 then
  bif inR n1 ((asL (T.cell (nth r294 0) 0)).length) then
  bif inR n1 l0_0.length then
  bif inR n1 (((asL (T.cell (nth r294 0) 0)).set n1.toNat (T.setc ((asL (T.cell (nth r294 0) 0)).getD n1.toNat T.u) 0 (T.sl ([T.st [T.b false, T.sl []], T.st [T.b false, T.sl []], T.st [T.b false, T.sl []], T.st [T.b false, T.sl []], T.st [T.b false, T.sl []], T.st [T.b false, T.sl []], T.st [T.b false, T.sl []], T.st [T.b false, T.sl []]] : List T)))).length) then
  some [T.st [T.sl (((asL (T.cell (nth r294 0) 0)).set n1.toNat (T.setc ((asL (T.cell (nth r294 0) 0)).getD n1.toNat T.u) 0 (T.sl ([T.st [T.b false, T.sl []], T.st [T.b false, T.sl []], T.st [T.b false, T.sl []], T.st [T.b false, T.sl []], T.st [T.b false, T.sl []], T.st [T.b false, T.sl []], T.st [T.b false, T.sl []], T.st [T.b false, T.sl []]] : List T)))).set n1.toNat (T.setc (((asL (T.cell (nth r294 0) 0)).set n1.toNat (T.setc ((asL (T.cell (nth r294 0) 0)).getD n1.toNat T.u) 0 (T.sl ([T.st [T.b false, T.sl []], T.st [T.b false, T.sl []], T.st [T.b false, T.sl []], T.st [T.b false, T.sl []], T.st [T.b false, T.sl []], T.st [T.b false, T.sl []], T.st [T.b false, T.sl []], T.st [T.b false, T.sl []]] : List T)))).getD n1.toNat T.u) 1 (T.i .i64 (IntKind.wrap .i64 ((asI (T.cell (l0_0.getD n1.toNat T.u) 1)) + 1)))))], T.i .i64 (asI (nth r295 0))]
  else none
  else none
  else none
 else
  some [T.st [T.sl (asL (T.cell (nth r294 0) 0))], T.i .i64 (asI (nth r295 0))]
def f246 (c : Orc) (lf : Nat) (l0_0 : List T) (n1 : Int) : Option (List T) := f246_t c lf l0_0 n1
theorem f246_eq (c : Orc) (lf : Nat) (l0_0 : List T) (n1 : Int) : funK c env lf 6 fi246 [.st [.sl l0_0], .i .i64 n1] = f246 c lf l0_0 n1 := by kernel_rfl
def f225_0_s (c : Orc) (lf : Nat) (n1 n0_1 : Int) (r308 r311 : List T) (L : Int → List T → Option (List T)) (x313 : Int) (x314 : List T) : Option (List T) :=
 bif iLt x313 8 then
  bif iLt x313 (asI (T.cell (nth r311 0) 2)) then
   bif inR n1 x314.length then
   bif inR x313 ((asL (T.cell (x314.getD n1.toNat T.u) 0)).length) then
   L (IntKind.wrap .i64 (x313 + 1)) (x314.set n1.toNat (T.setc (x314.getD n1.toNat T.u) 0 (T.sl ((asL (T.cell (x314.getD n1.toNat T.u) 0)).set x313.toNat (T.st [T.b true, T.sl ([] : List T)])))))
   else none
   else none
  else
   some [T.i .i64 0, T.i .i64 0, T.b false, T.sl ([] : List T), T.sl ([] : List T), T.i .i64 (IntKind.wrap .i64 (n0_1 + 1)), T.b (asB (T.cell (nth r308 0) 3)), T.sl x314, T.sl (asL (T.cell (nth r308 0) 2))]
 else
  some [T.i .i64 0, T.i .i64 0, T.b false, T.sl ([] : List T), T.sl ([] : List T), T.i .i64 (IntKind.wrap .i64 (n0_1 + 1)), T.b (asB (T.cell (nth r308 0) 3)), T.sl x314, T.sl (asL (T.cell (nth r308 0) 2))]
def f225_0_c (n1 n0_1 : Int) (r308 r311 : List T) (x313 : Int) (x314 : List T) : CSt := ⟨[.i .i64 n1, .bp 5 0, .bp 8 0, .bp 11 0, .i .i64 x313], [.dead, .dead, .dead, .dead, .dead, .box [.rf 6 [] 0 none, .i .i64 0, .rf 7 [] 0 none, .b false], .row true [.sl true [.b, .sl false [.i .u8]], .i .i64, .b] ([] : List T) 0 false, .row true [.i .i64, .i .i64, .i .i64] ([] : List T) 0 false, .box [.rf 9 [] 0 none, .i .i64 (IntKind.wrap .i64 (n0_1 + 1)), .rf 10 [] 0 none, .b (asB (T.cell (nth r308 0) 3))], .row true [.sl true [.b, .sl false [.i .u8]], .i .i64, .b] x314 0 false, .row true [.i .i64, .i .i64, .i .i64] (asL (T.cell (nth r308 0) 2)) 0 false, .box [.i .i64 (asI (T.cell (nth r311 0) 0)), .i .i64 (asI (T.cell (nth r311 0) 1)), .i .i64 (asI (T.cell (nth r311 0) 2))]]⟩
theorem f225_0_round (c : Orc) (lf : Nat) (n1 n0_1 : Int) (r308 r311 : List T) (L : CSt → Option (List T)) (x313 : Int) (x314 : List T) :
 roundK c env lf 6 fi225 5 14 [] [1, 4, 6, 8, 10] (x225_14_0) L (f225_0_c n1 n0_1 r308 r311 x313 x314) = f225_0_s c lf n1 n0_1 r308 r311 (fun x313 x314 => L (f225_0_c n1 n0_1 r308 r311 x313 x314)) x313 x314 := by kernel_rfl
def f225_0 (c : Orc) (lf : Nat) (n1 n0_1 : Int) (r308 r311 : List T) : Nat → Int → List T → Option (List T)
 | 0 => fun _ _ => none
 | n + 1 => fun x313 x314 => f225_0_s c lf n1 n0_1 r308 r311 (f225_0 c lf n1 n0_1 r308 r311 n) x313 x314
theorem f225_0_u (c : Orc) (lf : Nat) (n1 n0_1 : Int) (r308 r311 : List T) (n : Nat) (x313 : Int) (x314 : List T) : f225_0 c lf n1 n0_1 r308 r311 (n + 1) x313 x314 = f225_0_s c lf n1 n0_1 r308 r311 (f225_0 c lf n1 n0_1 r308 r311 n) x313 x314 := rfl
theorem f225_0_eq (c : Orc) (lf : Nat) (n1 n0_1 : Int) (r308 r311 : List T) (n : Nat) (x313 : Int) (x314 : List T) :
 lpK c env lf 6 fi225 5 14 [] [1, 4, 6, 8, 10] (x225_14_0) n (f225_0_c n1 n0_1 r308 r311 x313 x314) = f225_0 c lf n1 n0_1 r308 r311 n x313 x314 := by
 induction n generalizing x313 x314 with
 | zero => rfl
 | succ n ih =>
  refine (f225_0_round c lf n1 n0_1 r308 r311 _ x313 x314).trans ?_
  have e : (fun x313 x314 => lpK c env lf 6 fi225 5 14 [] [1, 4, 6, 8, 10] (x225_14_0) n (f225_0_c n1 n0_1 r308 r311 x313 x314)) = f225_0 c lf n1 n0_1 r308 r311 n := by funext x313 x314; exact ih x313 x314
  show f225_0_s c lf n1 n0_1 r308 r311 (fun x313 x314 => lpK c env lf 6 fi225 5 14 [] [1, 4, 6, 8, 10] (x225_14_0) n (f225_0_c n1 n0_1 r308 r311 x313 x314)) x313 x314 = _
  rw [e]; rfl
def f225_1_s (c : Orc) (lf : Nat) (n1 n0_1 : Int) (r308 r311 : List T) (L : Int → List T → Option (List T)) (x317 : Int) (x318 : List T) : Option (List T) :=
 bif iLt x317 8 then
  bif iLt x317 (asI (T.cell (nth r311 0) 2)) then
   bif inR n1 x318.length then
   bif inR x317 ((asL (T.cell (x318.getD n1.toNat T.u) 0)).length) then
   L (IntKind.wrap .i64 (x317 + 1)) (x318.set n1.toNat (T.setc (x318.getD n1.toNat T.u) 0 (T.sl ((asL (T.cell (x318.getD n1.toNat T.u) 0)).set x317.toNat (T.st [T.b true, T.sl ([] : List T)])))))
   else none
   else none
  else
   some [T.i .i64 0, T.i .i64 0, T.b false, T.sl ([] : List T), T.sl ([] : List T), T.i .i64 (IntKind.wrap .i64 (n0_1 + 1)), T.b (asB (T.cell (nth r308 0) 3)), T.sl x318, T.sl (asL (T.cell (nth r308 0) 2))]
 else
  some [T.i .i64 0, T.i .i64 0, T.b false, T.sl ([] : List T), T.sl ([] : List T), T.i .i64 (IntKind.wrap .i64 (n0_1 + 1)), T.b (asB (T.cell (nth r308 0) 3)), T.sl x318, T.sl (asL (T.cell (nth r308 0) 2))]
def f225_1_c (n1 n0_1 : Int) (r308 r311 : List T) (x317 : Int) (x318 : List T) : CSt := ⟨[.i .i64 n1, .bp 5 0, .bp 8 0, .bp 11 0, .i .i64 x317], [.dead, .dead, .dead, .dead, .dead, .box [.rf 6 [] 0 none, .i .i64 0, .rf 7 [] 0 none, .b false], .row true [.sl true [.b, .sl false [.i .u8]], .i .i64, .b] ([] : List T) 0 false, .row true [.i .i64, .i .i64, .i .i64] ([] : List T) 0 false, .box [.rf 9 [] 0 none, .i .i64 (IntKind.wrap .i64 (n0_1 + 1)), .rf 10 [] 0 none, .b (asB (T.cell (nth r308 0) 3))], .row true [.sl true [.b, .sl false [.i .u8]], .i .i64, .b] x318 0 false, .row true [.i .i64, .i .i64, .i .i64] (asL (T.cell (nth r308 0) 2)) 0 false, .box [.i .i64 (asI (T.cell (nth r311 0) 0)), .i .i64 (asI (T.cell (nth r311 0) 1)), .i .i64 (asI (T.cell (nth r311 0) 2))]]⟩
theorem f225_1_round (c : Orc) (lf : Nat) (n1 n0_1 : Int) (r308 r311 : List T) (L : CSt → Option (List T)) (x317 : Int) (x318 : List T) :
 roundK c env lf 6 fi225 5 14 [] [1, 4, 6, 8, 10] (x225_14_0) L (f225_1_c n1 n0_1 r308 r311 x317 x318) = f225_1_s c lf n1 n0_1 r308 r311 (fun x317 x318 => L (f225_1_c n1 n0_1 r308 r311 x317 x318)) x317 x318 := by kernel_rfl
def f225_1 (c : Orc) (lf : Nat) (n1 n0_1 : Int) (r308 r311 : List T) : Nat → Int → List T → Option (List T)
 | 0 => fun _ _ => none
 | n + 1 => fun x317 x318 => f225_1_s c lf n1 n0_1 r308 r311 (f225_1 c lf n1 n0_1 r308 r311 n) x317 x318
theorem f225_1_eq (c : Orc) (lf : Nat) (n1 n0_1 : Int) (r308 r311 : List T) (n : Nat) (x317 : Int) (x318 : List T) :
 lpK c env lf 6 fi225 5 14 [] [1, 4, 6, 8, 10] (x225_14_0) n (f225_1_c n1 n0_1 r308 r311 x317 x318) = f225_1 c lf n1 n0_1 r308 r311 n x317 x318 := by
 induction n generalizing x317 x318 with
 | zero => rfl
 | succ n ih =>
  refine (f225_1_round c lf n1 n0_1 r308 r311 _ x317 x318).trans ?_
  have e : (fun x317 x318 => lpK c env lf 6 fi225 5 14 [] [1, 4, 6, 8, 10] (x225_14_0) n (f225_1_c n1 n0_1 r308 r311 x317 x318)) = f225_1 c lf n1 n0_1 r308 r311 n := by funext x317 x318; exact ih x317 x318
  show f225_1_s c lf n1 n0_1 r308 r311 (fun x317 x318 => lpK c env lf 6 fi225 5 14 [] [1, 4, 6, 8, 10] (x225_14_0) n (f225_1_c n1 n0_1 r308 r311 x317 x318)) x317 x318 = _
  rw [e]; rfl
def f225_t (c : Orc) (lf : Nat) (lp0 : Int → Int → List T → List T → Int → List T → Option (List T)) (lp1 : Int → Int → List T → List T → Int → List T → Option (List T)) (l0_0 : List T) (n0_1 : Int) (l0_2 : List T) (b0_3 : Bool) (n1 : Int) : Option (List T) :=
 (c 152 [T.st [T.sl l0_0, T.i .i64 n0_1, T.sl l0_2, T.b b0_3]]).bind fun r308 =>
 (c 245 [T.st [T.sl l0_0], T.i .i64 n1]).bind fun r309 =>
 (c 199 [T.st [T.sl l0_0, T.i .i64 n0_1, T.sl l0_2, T.b b0_3], T.i .i64 (asI (nth r309 0))]).bind fun r310 =>
 bif (asI (nth r310 0)) != 0 then
  some [T.st [T.sl (asL (T.cell (nth r308 0) 0)), T.i .i64 (asI (T.cell (nth r308 0) 1)), T.sl (asL (T.cell (nth r308 0) 2)), T.b (asB (T.cell (nth r308 0) 3))], T.i .i64 (asI (nth r310 0))]
 else
  (c 201 [T.st [T.sl l0_0, T.i .i64 n0_1, T.sl l0_2, T.b b0_3]]).bind fun r311 =>
  bif asB (nth r311 1) then
   bif (asI (T.cell (nth r311 0) 1)) == 1 then
    bif inR n1 ((asL (T.cell (nth r308 0) 0)).length) then
    some [T.st [T.sl ((asL (T.cell (nth r308 0) 0)).set n1.toNat (T.setc ((asL (T.cell (nth r308 0) 0)).getD n1.toNat T.u) 2 (T.b true))), T.i .i64 (IntKind.wrap .i64 (n0_1 + 1)), T.sl (asL (T.cell (nth r308 0) 2)), T.b (asB (T.cell (nth r308 0) 3))], T.i .i64 2]
    else none
   else
    (c 246 [T.st [T.sl l0_0], T.i .i64 n1]).bind fun r312 =>
    bif !(asB (nth r311 1)) then
     some [T.st [T.sl (asL (T.cell (nth r312 0) 0)), T.i .i64 (IntKind.wrap .i64 (n0_1 + 1)), T.sl (asL (T.cell (nth r308 0) 2)), T.b (asB (T.cell (nth r308 0) 3))], T.i .i64 0]
    else
     (lp0 n1 n0_1 r308 r311 0 (asL (T.cell (nth r312 0) 0))).bind fun r315 =>
     some [T.st [T.sl (asL (nth r315 7)), T.i .i64 (asI (nth r315 5)), T.sl (asL (nth r315 8)), T.b true], T.i .i64 10]
  else
   (c 246 [T.st [T.sl l0_0], T.i .i64 n1]).bind fun r316 =>
   bif !(asB (nth r311 1)) then
    some [T.st [T.sl (asL (T.cell (nth r316 0) 0)), T.i .i64 (IntKind.wrap .i64 (n0_1 + 1)), T.sl (asL (T.cell (nth r308 0) 2)), T.b (asB (T.cell (nth r308 0) 3))], T.i .i64 0]
   else
    (lp1 n1 n0_1 r308 r311 0 (asL (T.cell (nth r316 0) 0))).bind fun r319 =>
    some [T.st [T.sl (asL (nth r319 7)), T.i .i64 (asI (nth r319 5)), T.sl (asL (nth r319 8)), T.b true], T.i .i64 10]
def f225 (c : Orc) (lf : Nat) (l0_0 : List T) (n0_1 : Int) (l0_2 : List T) (b0_3 : Bool) (n1 : Int) : Option (List T) := f225_t c lf (fun (n1 n0_1 : Int) (r308 r311 : List T) (x313 : Int) (x314 : List T) => f225_0 c lf n1 n0_1 r308 r311 lf x313 x314) (fun (n1 n0_1 : Int) (r308 r311 : List T) (x317 : Int) (x318 : List T) => f225_1 c lf n1 n0_1 r308 r311 lf x317 x318) l0_0 n0_1 l0_2 b0_3 n1
theorem f225_raw (c : Orc) (lf : Nat) (l0_0 : List T) (n0_1 : Int) (l0_2 : List T) (b0_3 : Bool) (n1 : Int) : funK c env lf 6 fi225 [.st [.sl l0_0, .i .i64 n0_1, .sl l0_2, .b b0_3], .i .i64 n1] = f225_t c lf (fun (n1 n0_1 : Int) (r308 r311 : List T) (x313 : Int) (x314 : List T) => lpK c env lf 6 fi225 5 14 [] [1, 4, 6, 8, 10] (x225_14_0) lf (f225_0_c n1 n0_1 r308 r311 x313 x314)) (fun (n1 n0_1 : Int) (r308 r311 : List T) (x317 : Int) (x318 : List T) => lpK c env lf 6 fi225 5 14 [] [1, 4, 6, 8, 10] (x225_14_0) lf (f225_1_c n1 n0_1 r308 r311 x317 x318)) l0_0 n0_1 l0_2 b0_3 n1 := by kernel_rfl
theorem f225_eq (c : Orc) (lf : Nat) (l0_0 : List T) (n0_1 : Int) (l0_2 : List T) (b0_3 : Bool) (n1 : Int) : funK c env lf 6 fi225 [.st [.sl l0_0, .i .i64 n0_1, .sl l0_2, .b b0_3], .i .i64 n1] = f225 c lf l0_0 n0_1 l0_2 b0_3 n1 := by
 refine (f225_raw c lf l0_0 n0_1 l0_2 b0_3 n1).trans ?_
 have e0 : (fun (n1 n0_1 : Int) (r308 r311 : List T) (x313 : Int) (x314 : List T) => lpK c env lf 6 fi225 5 14 [] [1, 4, 6, 8, 10] (x225_14_0) lf (f225_0_c n1 n0_1 r308 r311 x313 x314)) = (fun (n1 n0_1 : Int) (r308 r311 : List T) (x313 : Int) (x314 : List T) => f225_0 c lf n1 n0_1 r308 r311 lf x313 x314) := by funext n1 n0_1 r308 r311 x313 x314; exact f225_0_eq c lf n1 n0_1 r308 r311 lf x313 x314
 have e1 : (fun (n1 n0_1 : Int) (r308 r311 : List T) (x317 : Int) (x318 : List T) => lpK c env lf 6 fi225 5 14 [] [1, 4, 6, 8, 10] (x225_14_0) lf (f225_1_c n1 n0_1 r308 r311 x317 x318)) = (fun (n1 n0_1 : Int) (r308 r311 : List T) (x317 : Int) (x318 : List T) => f225_1 c lf n1 n0_1 r308 r311 lf x317 x318) := by funext n1 n0_1 r308 r311 x317 x318; exact f225_1_eq c lf n1 n0_1 r308 r311 lf x317 x318
 rw [e0, e1]; rfl
def f190_0_s (c : Orc) (lf : Nat) (l0_0 : List T) (L : Int → Int → Int → Int → Bool → List T → List T → Option (List T)) (x351 x352 : Int) (x353 x354 : Int) (x355 : Bool) (x356 x357 : List T) : Option (List T) :=
 bif iLt 0 x351 then
  (c 97 [T.st [T.sl l0_0, T.i .i64 x352, T.i .i64 x353], T.i .i64 (x356.length : Int)]).bind fun r358 =>
  (c 97 [T.st [T.sl l0_0, T.i .i64 (asI (T.cell (nth r358 1) 1)), T.i .i64 (asI (T.cell (nth r358 1) 2))], T.i .i64 8]).bind fun r359 =>
  bif (asI (nth r359 0)) == 0 then
   (c 225 [T.st [T.sl x356, T.i .i64 x354, T.sl x357, T.b x355], T.i .i64 (asI (nth r358 0))]).bind fun r360 =>
   L (IntKind.wrap .i64 (x351 - 1)) (asI (T.cell (nth r359 1) 1)) (asI (T.cell (nth r359 1) 2)) (asI (T.cell (nth r360 0) 1)) (asB (T.cell (nth r360 0) 3)) (asL (T.cell (nth r360 0) 0)) (asL (T.cell (nth r360 0) 2))
  else
   bif (asI (nth r359 0)) == 1 then
    L (IntKind.wrap .i64 (x351 - 1)) (asI (T.cell (nth r359 1) 1)) (asI (T.cell (nth r359 1) 2)) x354 false x356 x357
   else
    (c 86 [T.st [T.sl l0_0, T.i .i64 (asI (T.cell (nth r359 1) 1)), T.i .i64 (asI (T.cell (nth r359 1) 2))]]).bind fun r361 =>
    (c 156 [T.st [T.sl x356, T.i .i64 x354, T.sl x357, T.b x355], T.i .i64 (asI (nth r358 0)), T.sl (asL (nth r361 0))]).bind fun r362 =>
    L (IntKind.wrap .i64 (x351 - 1)) (asI (T.cell (nth r361 1) 1)) (asI (T.cell (nth r361 1) 2)) (asI (T.cell (nth r362 0) 1)) (asB (T.cell (nth r362 0) 3)) (asL (T.cell (nth r362 0) 0)) (asL (T.cell (nth r362 0) 2))
 else
  some [T.i .i64 0, T.sl l0_0, T.i .i64 x352, T.i .i64 x353, T.i .i64 0, T.b false, T.sl ([] : List T), T.sl ([] : List T), T.i .i64 x354, T.b x355, T.sl x356, T.sl x357]
def f190_0_c (l0_0 : List T) (x351 x352 : Int) (x353 x354 : Int) (x355 : Bool) (x356 x357 : List T) : CSt := ⟨[.bp 0 0, .bp 4 0, .bp 7 0, .i .i64 x351], [.box [.ro 1 false [.i .u8] l0_0, .i .i64 x352, .i .i64 x353], .dead, .dead, .dead, .box [.rf 5 [] 0 none, .i .i64 0, .rf 6 [] 0 none, .b false], .row true [.sl true [.b, .sl false [.i .u8]], .i .i64, .b] ([] : List T) 0 false, .row true [.i .i64, .i .i64, .i .i64] ([] : List T) 0 false, .box [.rf 8 [] 0 none, .i .i64 x354, .rf 9 [] 0 none, .b x355], .row true [.sl true [.b, .sl false [.i .u8]], .i .i64, .b] x356 0 false, .row true [.i .i64, .i .i64, .i .i64] x357 0 false]⟩
theorem f190_0_round (c : Orc) (lf : Nat) (l0_0 : List T) (L : CSt → Option (List T)) (x351 x352 : Int) (x353 x354 : Int) (x355 : Bool) (x356 x357 : List T) :
 roundK c env lf 6 fi190 4 3 [] [0, 2, 3, 4] (x190_3_0) L (f190_0_c l0_0 x351 x352 x353 x354 x355 x356 x357) = f190_0_s c lf l0_0 (fun x351 x352 x353 x354 x355 x356 x357 => L (f190_0_c l0_0 x351 x352 x353 x354 x355 x356 x357)) x351 x352 x353 x354 x355 x356 x357 := by kernel_rfl
def f190_0 (c : Orc) (lf : Nat) (l0_0 : List T) : Nat → Int → Int → Int → Int → Bool → List T → List T → Option (List T)
 | 0 => fun _ _ _ _ _ _ _ => none
 | n + 1 => fun x351 x352 x353 x354 x355 x356 x357 => f190_0_s c lf l0_0 (f190_0 c lf l0_0 n) x351 x352 x353 x354 x355 x356 x357
theorem f190_0_u (c : Orc) (lf : Nat) (l0_0 : List T) (n : Nat) (x351 x352 : Int) (x353 x354 : Int) (x355 : Bool) (x356 x357 : List T) : f190_0 c lf l0_0 (n + 1) x351 x352 x353 x354 x355 x356 x357 = f190_0_s c lf l0_0 (f190_0 c lf l0_0 n) x351 x352 x353 x354 x355 x356 x357 := rfl
theorem f190_0_eq (c : Orc) (lf : Nat) (l0_0 : List T) (n : Nat) (x351 x352 : Int) (x353 x354 : Int) (x355 : Bool) (x356 x357 : List T) :
 lpK c env lf 6 fi190 4 3 [] [0, 2, 3, 4] (x190_3_0) n (f190_0_c l0_0 x351 x352 x353 x354 x355 x356 x357) = f190_0 c lf l0_0 n x351 x352 x353 x354 x355 x356 x357 := by
 induction n generalizing x351 x352 x353 x354 x355 x356 x357 with
 | zero => rfl
 | succ n ih =>
  refine (f190_0_round c lf l0_0 _ x351 x352 x353 x354 x355 x356 x357).trans ?_
  have e : (fun x351 x352 x353 x354 x355 x356 x357 => lpK c env lf 6 fi190 4 3 [] [0, 2, 3, 4] (x190_3_0) n (f190_0_c l0_0 x351 x352 x353 x354 x355 x356 x357)) = f190_0 c lf l0_0 n := by funext x351 x352 x353 x354 x355 x356 x357; exact ih x351 x352 x353 x354 x355 x356 x357
  show f190_0_s c lf l0_0 (fun x351 x352 x353 x354 x355 x356 x357 => lpK c env lf 6 fi190 4 3 [] [0, 2, 3, 4] (x190_3_0) n (f190_0_c l0_0 x351 x352 x353 x354 x355 x356 x357)) x351 x352 x353 x354 x355 x356 x357 = _
  rw [e]; rfl
def f190_t (c : Orc) (lf : Nat) (lp0 : List T → Int → Int → Int → Int → Bool → List T → List T → Option (List T)) (l0_0 : List T) (n0_1 n0_2 : Int) : Option (List T) :=
 (c 97 [T.st [T.sl l0_0, T.i .i64 n0_1, T.i .i64 n0_2], T.i .i64 3]).bind fun r342 =>
 (c 139 [T.st [T.sl l0_0, T.i .i64 (asI (T.cell (nth r342 1) 1)), T.i .i64 (asI (T.cell (nth r342 1) 2))]]).bind fun r343 =>
 (c 138 [T.i .i64 (IntKind.wrap .i64 (3 + (asI (nth r342 0)))), T.sl (asL (nth r343 0))]).bind fun r344 =>
 (c 97 [T.st [T.sl l0_0, T.i .i64 (asI (T.cell (nth r343 1) 1)), T.i .i64 (asI (T.cell (nth r343 1) 2))], T.i .i64 16]).bind fun r345 =>
 (lp0 l0_0 (asI (nth r345 0)) (asI (T.cell (nth r345 1) 1)) (asI (T.cell (nth r345 1) 2)) (asI (T.cell (nth r344 0) 1)) (asB (T.cell (nth r344 0) 3)) (asL (T.cell (nth r344 0) 0)) (asL (T.cell (nth r344 0) 2))).bind fun r363 =>
 some [T.st [T.sl (asL (nth r363 10)), T.i .i64 (asI (nth r363 8)), T.sl (asL (nth r363 11)), T.b (asB (nth r363 9))], T.st [T.sl (asL (nth r363 1)), T.i .i64 (asI (nth r363 2)), T.i .i64 (asI (nth r363 3))]]
def f190 (c : Orc) (lf : Nat) (l0_0 : List T) (n0_1 n0_2 : Int) : Option (List T) := f190_t c lf (fun (l0_0 : List T) (x351 x352 : Int) (x353 x354 : Int) (x355 : Bool) (x356 x357 : List T) => f190_0 c lf l0_0 lf x351 x352 x353 x354 x355 x356 x357) l0_0 n0_1 n0_2
theorem f190_raw (c : Orc) (lf : Nat) (l0_0 : List T) (n0_1 n0_2 : Int) : funK c env lf 6 fi190 [.st [.sl l0_0, .i .i64 n0_1, .i .i64 n0_2]] = f190_t c lf (fun (l0_0 : List T) (x351 x352 : Int) (x353 x354 : Int) (x355 : Bool) (x356 x357 : List T) => lpK c env lf 6 fi190 4 3 [] [0, 2, 3, 4] (x190_3_0) lf (f190_0_c l0_0 x351 x352 x353 x354 x355 x356 x357)) l0_0 n0_1 n0_2 := by kernel_rfl
theorem f190_eq (c : Orc) (lf : Nat) (l0_0 : List T) (n0_1 n0_2 : Int) : funK c env lf 6 fi190 [.st [.sl l0_0, .i .i64 n0_1, .i .i64 n0_2]] = f190 c lf l0_0 n0_1 n0_2 := by
 refine (f190_raw c lf l0_0 n0_1 n0_2).trans ?_
 have e0 : (fun (l0_0 : List T) (x351 x352 : Int) (x353 x354 : Int) (x355 : Bool) (x356 x357 : List T) => lpK c env lf 6 fi190 4 3 [] [0, 2, 3, 4] (x190_3_0) lf (f190_0_c l0_0 x351 x352 x353 x354 x355 x356 x357)) = (fun (l0_0 : List T) (x351 x352 : Int) (x353 x354 : Int) (x355 : Bool) (x356 x357 : List T) => f190_0 c lf l0_0 lf x351 x352 x353 x354 x355 x356 x357) := by funext l0_0 x351 x352 x353 x354 x355 x356 x357; exact f190_0_eq c lf l0_0 lf x351 x352 x353 x354 x355 x356 x357
 rw [e0]; rfl
def f226_0_s (c : Orc) (lf : Nat) (l0_0 : List T) (L : Int → Int → Int → List T → Option (List T)) (x392 x393 x394 : Int) (x395 : List T) : Option (List T) :=
 bif iLt 0 x392 then
  (c 97 [T.st [T.sl l0_0, T.i .i64 x393, T.i .i64 x394], T.i .i64 (x395.length : Int)]).bind fun r396 =>
  (c 106 [T.st [T.sl l0_0, T.i .i64 (asI (T.cell (nth r396 1) 1)), T.i .i64 (asI (T.cell (nth r396 1) 2))], T.i .i64 6]).bind fun r397 =>
  bif asB (nth r397 0) then
   (c 246 [T.st [T.sl x395], T.i .i64 (asI (nth r396 0))]).bind fun r398 =>
   L (IntKind.wrap .i64 (x392 - 1)) (asI (T.cell (nth r397 1) 1)) (asI (T.cell (nth r397 1) 2)) (asL (T.cell (nth r398 0) 0))
  else
   (c 86 [T.st [T.sl l0_0, T.i .i64 (asI (T.cell (nth r397 1) 1)), T.i .i64 (asI (T.cell (nth r397 1) 2))]]).bind fun r399 =>
   (c 202 [T.st [T.sl x395], T.i .i64 (asI (nth r396 0)), T.sl (asL (nth r399 0))]).bind fun r400 =>
   L (IntKind.wrap .i64 (x392 - 1)) (asI (T.cell (nth r399 1) 1)) (asI (T.cell (nth r399 1) 2)) (asL (T.cell (nth r400 0) 0))
 else
  some [T.i .i64 0, T.sl l0_0, T.i .i64 x393, T.i .i64 x394, T.sl ([] : List T), T.sl x395]
def f226_0_c (l0_0 : List T) (x392 x393 x394 : Int) (x395 : List T) : CSt := ⟨[.bp 0 0, .bp 4 0, .bp 6 0, .i .i64 x392], [.box [.ro 1 false [.i .u8] l0_0, .i .i64 x393, .i .i64 x394], .dead, .dead, .dead, .box [.rf 5 [] 0 none], .row true [.sl true [.b, .sl false [.i .u8]], .i .i64, .b] ([] : List T) 0 false, .box [.rf 7 [] 0 none], .row true [.sl true [.b, .sl false [.i .u8]], .i .i64, .b] x395 0 false]⟩
theorem f226_0_round (c : Orc) (lf : Nat) (l0_0 : List T) (L : CSt → Option (List T)) (x392 x393 x394 : Int) (x395 : List T) :
 roundK c env lf 6 fi226 4 3 [] [0, 2, 3, 4] (x226_3_0) L (f226_0_c l0_0 x392 x393 x394 x395) = f226_0_s c lf l0_0 (fun x392 x393 x394 x395 => L (f226_0_c l0_0 x392 x393 x394 x395)) x392 x393 x394 x395 := by kernel_rfl
def f226_0 (c : Orc) (lf : Nat) (l0_0 : List T) : Nat → Int → Int → Int → List T → Option (List T)
 | 0 => fun _ _ _ _ => none
 | n + 1 => fun x392 x393 x394 x395 => f226_0_s c lf l0_0 (f226_0 c lf l0_0 n) x392 x393 x394 x395
theorem f226_0_u (c : Orc) (lf : Nat) (l0_0 : List T) (n : Nat) (x392 x393 x394 : Int) (x395 : List T) : f226_0 c lf l0_0 (n + 1) x392 x393 x394 x395 = f226_0_s c lf l0_0 (f226_0 c lf l0_0 n) x392 x393 x394 x395 := rfl
theorem f226_0_eq (c : Orc) (lf : Nat) (l0_0 : List T) (n : Nat) (x392 x393 x394 : Int) (x395 : List T) :
 lpK c env lf 6 fi226 4 3 [] [0, 2, 3, 4] (x226_3_0) n (f226_0_c l0_0 x392 x393 x394 x395) = f226_0 c lf l0_0 n x392 x393 x394 x395 := by
 induction n generalizing x392 x393 x394 x395 with
 | zero => rfl
 | succ n ih =>
  refine (f226_0_round c lf l0_0 _ x392 x393 x394 x395).trans ?_
  have e : (fun x392 x393 x394 x395 => lpK c env lf 6 fi226 4 3 [] [0, 2, 3, 4] (x226_3_0) n (f226_0_c l0_0 x392 x393 x394 x395)) = f226_0 c lf l0_0 n := by funext x392 x393 x394 x395; exact ih x392 x393 x394 x395
  show f226_0_s c lf l0_0 (fun x392 x393 x394 x395 => lpK c env lf 6 fi226 4 3 [] [0, 2, 3, 4] (x226_3_0) n (f226_0_c l0_0 x392 x393 x394 x395)) x392 x393 x394 x395 = _
  rw [e]; rfl
def f226_t (c : Orc) (lf : Nat) (lp0 : List T → Int → Int → Int → List T → Option (List T)) (l0_0 : List T) (n0_1 n0_2 : Int) : Option (List T) :=
 (c 97 [T.st [T.sl l0_0, T.i .i64 n0_1, T.i .i64 n0_2], T.i .i64 3]).bind fun r384 =>
 (c 188 [T.i .i64 (IntKind.wrap .i64 (3 + (asI (nth r384 0))))]).bind fun r385 =>
 (c 97 [T.st [T.sl l0_0, T.i .i64 (asI (T.cell (nth r384 1) 1)), T.i .i64 (asI (T.cell (nth r384 1) 2))], T.i .i64 20]).bind fun r386 =>
 (lp0 l0_0 (asI (nth r386 0)) (asI (T.cell (nth r386 1) 1)) (asI (T.cell (nth r386 1) 2)) (asL (T.cell (nth r385 0) 0))).bind fun r401 =>
 (c 106 [T.st [T.sl (asL (nth r401 1)), T.i .i64 (asI (nth r401 2)), T.i .i64 (asI (nth r401 3))], T.i .i64 3]).bind fun r402 =>
 bif asB (nth r402 0) then
  (c 97 [T.st [T.sl (asL (nth r401 1)), T.i .i64 (asI (T.cell (nth r402 1) 1)), T.i .i64 (asI (T.cell (nth r402 1) 2))], T.i .i64 ((asL (nth r401 5)).length : Int)]).bind fun r403 =>
  bif inR (asI (nth r403 0)) ((asL (nth r401 5)).length) then
  some [T.st [T.sl ((asL (nth r401 5)).set ((asI (nth r403 0)).toNat) (T.setc ((asL (nth r401 5)).getD ((asI (nth r403 0)).toNat) T.u) 2 (T.b true)))], T.st [T.sl (asL (nth r401 1)), T.i .i64 (asI (T.cell (nth r403 1) 1)), T.i .i64 (asI (T.cell (nth r403 1) 2))]]
  else none
 else
  some [T.st [T.sl (asL (nth r401 5))], T.st [T.sl (asL (nth r401 1)), T.i .i64 (asI (T.cell (nth r402 1) 1)), T.i .i64 (asI (T.cell (nth r402 1) 2))]]
def f226 (c : Orc) (lf : Nat) (l0_0 : List T) (n0_1 n0_2 : Int) : Option (List T) := f226_t c lf (fun (l0_0 : List T) (x392 x393 x394 : Int) (x395 : List T) => f226_0 c lf l0_0 lf x392 x393 x394 x395) l0_0 n0_1 n0_2
theorem f226_raw (c : Orc) (lf : Nat) (l0_0 : List T) (n0_1 n0_2 : Int) : funK c env lf 6 fi226 [.st [.sl l0_0, .i .i64 n0_1, .i .i64 n0_2]] = f226_t c lf (fun (l0_0 : List T) (x392 x393 x394 : Int) (x395 : List T) => lpK c env lf 6 fi226 4 3 [] [0, 2, 3, 4] (x226_3_0) lf (f226_0_c l0_0 x392 x393 x394 x395)) l0_0 n0_1 n0_2 := by kernel_rfl
theorem f226_eq (c : Orc) (lf : Nat) (l0_0 : List T) (n0_1 n0_2 : Int) : funK c env lf 6 fi226 [.st [.sl l0_0, .i .i64 n0_1, .i .i64 n0_2]] = f226 c lf l0_0 n0_1 n0_2 := by
 refine (f226_raw c lf l0_0 n0_1 n0_2).trans ?_
 have e0 : (fun (l0_0 : List T) (x392 x393 x394 : Int) (x395 : List T) => lpK c env lf 6 fi226 4 3 [] [0, 2, 3, 4] (x226_3_0) lf (f226_0_c l0_0 x392 x393 x394 x395)) = (fun (l0_0 : List T) (x392 x393 x394 : Int) (x395 : List T) => f226_0 c lf l0_0 lf x392 x393 x394 x395) := by funext l0_0 x392 x393 x394 x395; exact f226_0_eq c lf l0_0 lf x392 x393 x394 x395
 rw [e0]; rfl
def f191_t (c : Orc) (lf : Nat) (l0_0 : List T) (n0_1 n0_2 : Int) : Option (List T) :=
 (c 226 [T.st [T.sl l0_0, T.i .i64 n0_1, T.i .i64 n0_2]]).bind fun r404 =>
 (c 97 [T.st [T.sl l0_0, T.i .i64 (asI (T.cell (nth r404 1) 1)), T.i .i64 (asI (T.cell (nth r404 1) 2))], T.i .i64 ((asL (T.cell (nth r404 0) 0)).length : Int)]).bind fun r405 =>
 (c 97 [T.st [T.sl l0_0, T.i .i64 (asI (T.cell (nth r405 1) 1)), T.i .i64 (asI (T.cell (nth r405 1) 2))], T.i .i64 16]).bind fun r406 =>
 bif (asI (nth r406 0)) == 0 then
  (c 96 [T.st [T.sl l0_0, T.i .i64 (asI (T.cell (nth r406 1) 1)), T.i .i64 (asI (T.cell (nth r406 1) 2))], T.sl ([T.i .i64 (-1), T.i .i64 100000, T.i .i64 100001] : List T)]).bind fun r407 =>
  bif inR (asI (nth r405 0)) ((asL (T.cell (nth r404 0) 0)).length) then
  some [T.st [T.sl ((asL (T.cell (nth r404 0) 0)).set ((asI (nth r405 0)).toNat) (T.setc ((asL (T.cell (nth r404 0) 0)).getD ((asI (nth r405 0)).toNat) T.u) 1 (T.i .i64 (asI (nth r407 0)))))], T.st [T.sl l0_0, T.i .i64 (asI (T.cell (nth r407 1) 1)), T.i .i64 (asI (T.cell (nth r407 1) 2))]]
  else none
 else
  bif (asI (nth r406 0)) == 1 then
   bif inR (asI (nth r405 0)) ((asL (T.cell (nth r404 0) 0)).length) then
   bif inR 7 ((asL (T.cell ((asL (T.cell (nth r404 0) 0)).getD ((asI (nth r405 0)).toNat) T.u) 0)).length) then
   some [T.st [T.sl ((asL (T.cell (nth r404 0) 0)).set ((asI (nth r405 0)).toNat) (T.setc ((asL (T.cell (nth r404 0) 0)).getD ((asI (nth r405 0)).toNat) T.u) 0 (T.sl ((asL (T.cell ((asL (T.cell (nth r404 0) 0)).getD ((asI (nth r405 0)).toNat) T.u) 0)).set 7 (T.setc ((asL (T.cell ((asL (T.cell (nth r404 0) 0)).getD ((asI (nth r405 0)).toNat) T.u) 0)).getD 7 T.u) 0 (T.b true))))))], T.st [T.sl l0_0, T.i .i64 (asI (T.cell (nth r406 1) 1)), T.i .i64 (asI (T.cell (nth r406 1) 2))]]
   else none
   else none
  else
   bif (asI (nth r406 0)) == 2 then
    bif inR (asI (nth r405 0)) ((asL (T.cell (nth r404 0) 0)).length) then
    bif inR 7 ((asL (T.cell ((asL (T.cell (nth r404 0) 0)).getD ((asI (nth r405 0)).toNat) T.u) 0)).length) then
    some [T.st [T.sl ((asL (T.cell (nth r404 0) 0)).set ((asI (nth r405 0)).toNat) (T.setc ((asL (T.cell (nth r404 0) 0)).getD ((asI (nth r405 0)).toNat) T.u) 0 (T.sl ((asL (T.cell ((asL (T.cell (nth r404 0) 0)).getD ((asI (nth r405 0)).toNat) T.u) 0)).set 7 (T.setc ((asL (T.cell ((asL (T.cell (nth r404 0) 0)).getD ((asI (nth r405 0)).toNat) T.u) 0)).getD 7 T.u) 1 (T.sl ([T.i .u8 1] : List T)))))))], T.st [T.sl l0_0, T.i .i64 (asI (T.cell (nth r406 1) 1)), T.i .i64 (asI (T.cell (nth r406 1) 2))]]
    else none
    else none
   else
    bif (asI (nth r406 0)) == 3 then
     bif inR (asI (nth r405 0)) ((asL (T.cell (nth r404 0) 0)).length) then
     bif iLe 0 1 && iLe 1 ((asL (T.cell ((asL (T.cell (nth r404 0) 0)).getD ((asI (nth r405 0)).toNat) T.u) 0)).length : Int) && iLe ((asL (T.cell ((asL (T.cell (nth r404 0) 0)).getD ((asI (nth r405 0)).toNat) T.u) 0)).length : Int) ((asL (T.cell ((asL (T.cell (nth r404 0) 0)).getD ((asI (nth r405 0)).toNat) T.u) 0)).length : Int) then
     bif inR (asI (nth r405 0)) ((asL (T.cell (nth r404 0) 0)).length) then
     bif (((okL true [.sl true [.b, .sl false [.i .u8]], .i .i64, .b] (((asL (T.cell (nth r404 0) 0)).set ((asI (nth r405 0)).toNat) (T.setc ((asL (T.cell (nth r404 0) 0)).getD ((asI (nth r405 0)).toNat) T.u) 0 T.u)).set ((asI (nth r405 0)).toNat) (T.setc (((asL (T.cell (nth r404 0) 0)).set ((asI (nth r405 0)).toNat) (T.setc ((asL (T.cell (nth r404 0) 0)).getD ((asI (nth r405 0)).toNat) T.u) 0 T.u)).getD ((asI (nth r405 0)).toNat) T.u) 0 (T.sl (((asL (T.cell ((asL (T.cell (nth r404 0) 0)).getD ((asI (nth r405 0)).toNat) T.u) 0)).drop 1).take ((((asL (T.cell ((asL (T.cell (nth r404 0) 0)).getD ((asI (nth r405 0)).toNat) T.u) 0)).length : Int).toNat) - 1)))))) && true) && true) && true then
     some [T.st [T.sl (((asL (T.cell (nth r404 0) 0)).set ((asI (nth r405 0)).toNat) (T.setc ((asL (T.cell (nth r404 0) 0)).getD ((asI (nth r405 0)).toNat) T.u) 0 T.u)).set ((asI (nth r405 0)).toNat) (T.setc (((asL (T.cell (nth r404 0) 0)).set ((asI (nth r405 0)).toNat) (T.setc ((asL (T.cell (nth r404 0) 0)).getD ((asI (nth r405 0)).toNat) T.u) 0 T.u)).getD ((asI (nth r405 0)).toNat) T.u) 0 (T.sl (((asL (T.cell ((asL (T.cell (nth r404 0) 0)).getD ((asI (nth r405 0)).toNat) T.u) 0)).drop 1).take ((((asL (T.cell ((asL (T.cell (nth r404 0) 0)).getD ((asI (nth r405 0)).toNat) T.u) 0)).length : Int).toNat) - 1)))))], T.st [T.sl l0_0, T.i .i64 (asI (T.cell (nth r406 1) 1)), T.i .i64 (asI (T.cell (nth r406 1) 2))]]
     else none
     else none
     else none
     else none
    else
     bif (asI (nth r406 0)) == 4 then
      bif iLe 0 0 && iLe 0 2 && iLe 2 ((asL (T.cell (nth r404 0) 0)).length : Int) then
      some [T.st [T.sl (((asL (T.cell (nth r404 0) 0)).drop 0).take (2 - 0))], T.st [T.sl l0_0, T.i .i64 (asI (T.cell (nth r406 1) 1)), T.i .i64 (asI (T.cell (nth r406 1) 2))]]
      else none
     else
      some [T.st [T.sl (asL (T.cell (nth r404 0) 0))], T.st [T.sl l0_0, T.i .i64 (asI (T.cell (nth r406 1) 1)), T.i .i64 (asI (T.cell (nth r406 1) 2))]]
def f191 (c : Orc) (lf : Nat) (l0_0 : List T) (n0_1 n0_2 : Int) : Option (List T) := f191_t c lf l0_0 n0_1 n0_2
theorem f191_eq (c : Orc) (lf : Nat) (l0_0 : List T) (n0_1 n0_2 : Int) : funK c env lf 6 fi191 [.st [.sl l0_0, .i .i64 n0_1, .i .i64 n0_2]] = f191 c lf l0_0 n0_1 n0_2 := by kernel_rfl
def f148_t (c : Orc) (lf : Nat) (l0_0 : List T) (n0_1 n0_2 : Int) : Option (List T) :=
 (c 190 [T.st [T.sl l0_0, T.i .i64 n0_1, T.i .i64 n0_2]]).bind fun r408 =>
 (c 97 [T.st [T.sl l0_0, T.i .i64 (asI (T.cell (nth r408 1) 1)), T.i .i64 (asI (T.cell (nth r408 1) 2))], T.i .i64 16]).bind fun r409 =>
 bif (asI (nth r409 0)) == 0 then
  (c 96 [T.st [T.sl l0_0, T.i .i64 (asI (T.cell (nth r409 1) 1)), T.i .i64 (asI (T.cell (nth r409 1) 2))], T.sl ([T.i .i64 (-1), T.i .i64 100000, T.i .i64 100001] : List T)]).bind fun r410 =>
  some [T.st [T.sl (asL (T.cell (nth r408 0) 0)), T.i .i64 (asI (nth r410 0)), T.sl (asL (T.cell (nth r408 0) 2)), T.b (asB (T.cell (nth r408 0) 3))], T.st [T.sl l0_0, T.i .i64 (asI (T.cell (nth r410 1) 1)), T.i .i64 (asI (T.cell (nth r410 1) 2))]]
 else
  bif (asI (nth r409 0)) == 1 then
   (c 96 [T.st [T.sl l0_0, T.i .i64 (asI (T.cell (nth r409 1) 1)), T.i .i64 (asI (T.cell (nth r409 1) 2))], T.sl ([T.i .i64 0, T.i .i64 100000, T.i .i64 100001] : List T)]).bind fun r411 =>
   (c 97 [T.st [T.sl l0_0, T.i .i64 (asI (T.cell (nth r411 1) 1)), T.i .i64 (asI (T.cell (nth r411 1) 2))], T.i .i64 4]).bind fun r412 =>
   (c 96 [T.st [T.sl l0_0, T.i .i64 (asI (T.cell (nth r412 1) 1)), T.i .i64 (asI (T.cell (nth r412 1) 2))], T.sl ([T.i .i64 (-1), T.i .i64 0, T.i .i64 401] : List T)]).bind fun r413 =>
   bif nLe ((asL (T.cell (nth r408 0) 2)).length + ([T.st [T.i .i64 (asI (nth r411 0)), T.i .i64 (asI (nth r412 0)), T.i .i64 (asI (nth r413 0))]] : List T).length) LIM then
   some [T.st [T.sl (asL (T.cell (nth r408 0) 0)), T.i .i64 (asI (T.cell (nth r408 0) 1)), T.sl ((asL (T.cell (nth r408 0) 2)) ++ ([T.st [T.i .i64 (asI (nth r411 0)), T.i .i64 (asI (nth r412 0)), T.i .i64 (asI (nth r413 0))]] : List T)), T.b (asB (T.cell (nth r408 0) 3))], T.st [T.sl l0_0, T.i .i64 (asI (T.cell (nth r413 1) 1)), T.i .i64 (asI (T.cell (nth r413 1) 2))]]
   else none
  else
   bif (asI (nth r409 0)) == 2 then
    (c 191 [T.st [T.sl l0_0, T.i .i64 (asI (T.cell (nth r409 1) 1)), T.i .i64 (asI (T.cell (nth r409 1) 2))]]).bind fun r414 =>
    some [T.st [T.sl (asL (T.cell (nth r414 0) 0)), T.i .i64 (asI (T.cell (nth r408 0) 1)), T.sl (asL (T.cell (nth r408 0) 2)), T.b (asB (T.cell (nth r408 0) 3))], T.st [T.sl l0_0, T.i .i64 (asI (T.cell (nth r414 1) 1)), T.i .i64 (asI (T.cell (nth r414 1) 2))]]
   else
    some [T.st [T.sl (asL (T.cell (nth r408 0) 0)), T.i .i64 (asI (T.cell (nth r408 0) 1)), T.sl (asL (T.cell (nth r408 0) 2)), T.b (asB (T.cell (nth r408 0) 3))], T.st [T.sl l0_0, T.i .i64 (asI (T.cell (nth r409 1) 1)), T.i .i64 (asI (T.cell (nth r409 1) 2))]]
def f148 (c : Orc) (lf : Nat) (l0_0 : List T) (n0_1 n0_2 : Int) : Option (List T) := f148_t c lf l0_0 n0_1 n0_2
theorem f148_eq (c : Orc) (lf : Nat) (l0_0 : List T) (n0_1 n0_2 : Int) : funK c env lf 6 fi148 [.st [.sl l0_0, .i .i64 n0_1, .i .i64 n0_2]] = f148 c lf l0_0 n0_1 n0_2 := by kernel_rfl
def f95_t (c : Orc) (lf : Nat) (l0_0 : List T) (n0_1 n0_2 : Int) : Option (List T) :=
 (c 85 [T.st [T.sl l0_0, T.i .i64 n0_1, T.i .i64 n0_2]]).bind fun r415 =>
 (c 97 [T.st [T.sl l0_0, T.i .i64 (asI (T.cell (nth r415 1) 1)), T.i .i64 (asI (T.cell (nth r415 1) 2))], T.i .i64 12]).bind fun r416 =>
 bif (asI (nth r416 0)) == 0 then
  (c 96 [T.st [T.sl l0_0, T.i .i64 (asI (T.cell (nth r416 1) 1)), T.i .i64 (asI (T.cell (nth r416 1) 2))], T.sl ([T.i .i64 (-1), T.i .i64 0, T.i .i64 1000000, T.i .i64 1000001] : List T)]).bind fun r417 =>
  some [T.st [T.sl (asL (T.cell (nth r415 0) 0)), T.i .i64 (asI (T.cell (nth r415 0) 1)), T.sl (asL (T.cell (nth r415 0) 2)), T.b (asB (T.cell (nth r415 0) 3)), T.i .i64 (asI (nth r417 0))], T.st [T.sl l0_0, T.i .i64 (asI (T.cell (nth r417 1) 1)), T.i .i64 (asI (T.cell (nth r417 1) 2))]]
 else
  bif (asI (nth r416 0)) == 1 then
   (c 148 [T.st [T.sl l0_0, T.i .i64 (asI (T.cell (nth r416 1) 1)), T.i .i64 (asI (T.cell (nth r416 1) 2))]]).bind fun r418 =>
   some [T.st [T.sl (asL (T.cell (nth r418 0) 0)), T.i .i64 (asI (T.cell (nth r418 0) 1)), T.sl (asL (T.cell (nth r418 0) 2)), T.b (asB (T.cell (nth r418 0) 3)), T.i .i64 (asI (T.cell (nth r415 0) 4))], T.st [T.sl l0_0, T.i .i64 (asI (T.cell (nth r418 1) 1)), T.i .i64 (asI (T.cell (nth r418 1) 2))]]
  else
   some [T.st [T.sl (asL (T.cell (nth r415 0) 0)), T.i .i64 (asI (T.cell (nth r415 0) 1)), T.sl (asL (T.cell (nth r415 0) 2)), T.b (asB (T.cell (nth r415 0) 3)), T.i .i64 (asI (T.cell (nth r415 0) 4))], T.st [T.sl l0_0, T.i .i64 (asI (T.cell (nth r416 1) 1)), T.i .i64 (asI (T.cell (nth r416 1) 2))]]
def f95 (c : Orc) (lf : Nat) (l0_0 : List T) (n0_1 n0_2 : Int) : Option (List T) := f95_t c lf l0_0 n0_1 n0_2
theorem f95_eq (c : Orc) (lf : Nat) (l0_0 : List T) (n0_1 n0_2 : Int) : funK c env lf 6 fi95 [.st [.sl l0_0, .i .i64 n0_1, .i .i64 n0_2]] = f95 c lf l0_0 n0_1 n0_2 := by kernel_rfl
def f51_t (c : Orc) (lf : Nat) (l0 : List T) : Option (List T) :=
 (c 84 [T.sl l0]).bind fun r419 =>
 (c 95 [T.st [T.sl (asL (T.cell (nth r419 0) 0)), T.i .i64 (asI (T.cell (nth r419 0) 1)), T.i .i64 (asI (T.cell (nth r419 0) 2))]]).bind fun r420 =>
 (c 86 [T.st [T.sl (asL (T.cell (nth r419 0) 0)), T.i .i64 (asI (T.cell (nth r420 1) 1)), T.i .i64 (asI (T.cell (nth r420 1) 2))]]).bind fun r421 =>
 (c 106 [T.st [T.sl (asL (T.cell (nth r419 0) 0)), T.i .i64 (asI (T.cell (nth r421 1) 1)), T.i .i64 (asI (T.cell (nth r421 1) 2))], T.i .i64 12]).bind fun r422 =>
 bif asB (nth r422 0) then
  (c 97 [T.st [T.sl (asL (T.cell (nth r419 0) 0)), T.i .i64 (asI (T.cell (nth r422 1) 1)), T.i .i64 (asI (T.cell (nth r422 1) 2))], T.i .i64 2]).bind fun r423 =>
  bif iLe 0 (IntKind.wrap .i64 (380 + (asI (nth r423 0)))) && iLe (IntKind.wrap .i64 (380 + (asI (nth r423 0)))) (LIM : Int) && ((IntKind.wrap .i64 (380 + (asI (nth r423 0)))) == (IntKind.wrap .i64 (380 + (asI (nth r423 0))))) then
  (c 106 [T.st [T.sl (asL (T.cell (nth r419 0) 0)), T.i .i64 (asI (T.cell (nth r423 1) 1)), T.i .i64 (asI (T.cell (nth r423 1) 2))], T.i .i64 4]).bind fun r424 =>
  bif asB (nth r424 0) then
   (c 97 [T.st [T.sl (asL (T.cell (nth r419 0) 0)), T.i .i64 (asI (T.cell (nth r424 1) 1)), T.i .i64 (asI (T.cell (nth r424 1) 2))], T.i .i64 2]).bind fun r425 =>
   (c 97 [T.st [T.sl (asL (T.cell (nth r419 0) 0)), T.i .i64 (asI (T.cell (nth r425 1) 1)), T.i .i64 (asI (T.cell (nth r425 1) 2))], T.i .i64 6]).bind fun r426 =>
   (c 96 [T.st [T.sl (asL (T.cell (nth r419 0) 0)), T.i .i64 (asI (T.cell (nth r426 1) 1)), T.i .i64 (asI (T.cell (nth r426 1) 2))], T.sl ([T.i .i64 1, T.i .i64 2, T.i .i64 3, T.i .i64 4, T.i .i64 0, T.i .i64 5] : List T)]).bind fun r427 =>
   (c 96 [T.st [T.sl (asL (T.cell (nth r419 0) 0)), T.i .i64 (asI (T.cell (nth r427 1) 1)), T.i .i64 (asI (T.cell (nth r427 1) 2))], T.sl ([T.i .i64 0, T.i .i64 1, T.i .i64 2] : List T)]).bind fun r428 =>
   some [T.st [T.sl (asL (T.cell (nth r420 0) 0)), T.i .i64 (asI (T.cell (nth r420 0) 1)), T.sl ([T.st [T.i .i64 (asI (T.cell (nth r420 0) 1)), T.i .i64 (IntKind.wrap .i64 (1 + (asI (nth r425 0)))), T.i .i64 (asI (nth r426 0))]] : List T), T.b (asB (T.cell (nth r420 0) 3)), T.i .i64 (asI (T.cell (nth r420 0) 4))], T.i .i64 (asI (nth r427 0)), T.sl (List.replicate (IntKind.wrap .i64 (380 + (asI (nth r423 0)))).toNat (T.i .u8 0)), T.i .i64 (asI (nth r428 0))]
  else
   (c 96 [T.st [T.sl (asL (T.cell (nth r419 0) 0)), T.i .i64 (asI (T.cell (nth r424 1) 1)), T.i .i64 (asI (T.cell (nth r424 1) 2))], T.sl ([T.i .i64 1, T.i .i64 2, T.i .i64 3, T.i .i64 4, T.i .i64 0, T.i .i64 5] : List T)]).bind fun r429 =>
   (c 96 [T.st [T.sl (asL (T.cell (nth r419 0) 0)), T.i .i64 (asI (T.cell (nth r429 1) 1)), T.i .i64 (asI (T.cell (nth r429 1) 2))], T.sl ([T.i .i64 0, T.i .i64 1, T.i .i64 2] : List T)]).bind fun r430 =>
   some [T.st [T.sl (asL (T.cell (nth r420 0) 0)), T.i .i64 (asI (T.cell (nth r420 0) 1)), T.sl (asL (T.cell (nth r420 0) 2)), T.b (asB (T.cell (nth r420 0) 3)), T.i .i64 (asI (T.cell (nth r420 0) 4))], T.i .i64 (asI (nth r429 0)), T.sl (List.replicate (IntKind.wrap .i64 (380 + (asI (nth r423 0)))).toNat (T.i .u8 0)), T.i .i64 (asI (nth r430 0))]
  else none
 else
  (c 106 [T.st [T.sl (asL (T.cell (nth r419 0) 0)), T.i .i64 (asI (T.cell (nth r422 1) 1)), T.i .i64 (asI (T.cell (nth r422 1) 2))], T.i .i64 4]).bind fun r431 =>
  bif asB (nth r431 0) then
   (c 97 [T.st [T.sl (asL (T.cell (nth r419 0) 0)), T.i .i64 (asI (T.cell (nth r431 1) 1)), T.i .i64 (asI (T.cell (nth r431 1) 2))], T.i .i64 2]).bind fun r432 =>
   (c 97 [T.st [T.sl (asL (T.cell (nth r419 0) 0)), T.i .i64 (asI (T.cell (nth r432 1) 1)), T.i .i64 (asI (T.cell (nth r432 1) 2))], T.i .i64 6]).bind fun r433 =>
   (c 96 [T.st [T.sl (asL (T.cell (nth r419 0) 0)), T.i .i64 (asI (T.cell (nth r433 1) 1)), T.i .i64 (asI (T.cell (nth r433 1) 2))], T.sl ([T.i .i64 1, T.i .i64 2, T.i .i64 3, T.i .i64 4, T.i .i64 0, T.i .i64 5] : List T)]).bind fun r434 =>
   (c 96 [T.st [T.sl (asL (T.cell (nth r419 0) 0)), T.i .i64 (asI (T.cell (nth r434 1) 1)), T.i .i64 (asI (T.cell (nth r434 1) 2))], T.sl ([T.i .i64 0, T.i .i64 1, T.i .i64 2] : List T)]).bind fun r435 =>
   some [T.st [T.sl (asL (T.cell (nth r420 0) 0)), T.i .i64 (asI (T.cell (nth r420 0) 1)), T.sl ([T.st [T.i .i64 (asI (T.cell (nth r420 0) 1)), T.i .i64 (IntKind.wrap .i64 (1 + (asI (nth r432 0)))), T.i .i64 (asI (nth r433 0))]] : List T), T.b (asB (T.cell (nth r420 0) 3)), T.i .i64 (asI (T.cell (nth r420 0) 4))], T.i .i64 (asI (nth r434 0)), T.sl (asL (nth r421 0)), T.i .i64 (asI (nth r435 0))]
  else
   (c 96 [T.st [T.sl (asL (T.cell (nth r419 0) 0)), T.i .i64 (asI (T.cell (nth r431 1) 1)), T.i .i64 (asI (T.cell (nth r431 1) 2))], T.sl ([T.i .i64 1, T.i .i64 2, T.i .i64 3, T.i .i64 4, T.i .i64 0, T.i .i64 5] : List T)]).bind fun r436 =>
   (c 96 [T.st [T.sl (asL (T.cell (nth r419 0) 0)), T.i .i64 (asI (T.cell (nth r436 1) 1)), T.i .i64 (asI (T.cell (nth r436 1) 2))], T.sl ([T.i .i64 0, T.i .i64 1, T.i .i64 2] : List T)]).bind fun r437 =>
   some [T.st [T.sl (asL (T.cell (nth r420 0) 0)), T.i .i64 (asI (T.cell (nth r420 0) 1)), T.sl (asL (T.cell (nth r420 0) 2)), T.b (asB (T.cell (nth r420 0) 3)), T.i .i64 (asI (T.cell (nth r420 0) 4))], T.i .i64 (asI (nth r436 0)), T.sl (asL (nth r421 0)), T.i .i64 (asI (nth r437 0))]
def f51 (c : Orc) (lf : Nat) (l0 : List T) : Option (List T) := f51_t c lf l0
theorem f51_eq (c : Orc) (lf : Nat) (l0 : List T) : funK c env lf 6 fi51 [.sl l0] = f51 c lf l0 := by kernel_rfl
def f141_1_s (c : Orc) (lf : Nat) (x459 : List T) (x460 x461 : Int) (x462 x463 : List T) (L : Int → List T → Option (List T)) (x465 : Int) (x466 : List T) : Option (List T) :=
 bif iLt x465 ((asL (T.cell (x459.getD x461.toNat T.u) 0)).length : Int) then
  bif inR x465 ((asL (T.cell (x459.getD x461.toNat T.u) 0)).length) then
  (c 147 [T.sl (asL (T.cell ((asL (T.cell (x459.getD x461.toNat T.u) 0)).getD x465.toNat T.u) 1))]).bind fun r467 =>
  bif nLe (x466.length + ([T.st [T.b (asB (T.cell ((asL (T.cell (x459.getD x461.toNat T.u) 0)).getD x465.toNat T.u) 0)), T.sl (asL (nth r467 0))]] : List T).length) LIM then
  L (IntKind.wrap .i64 (x465 + 1)) (x466 ++ ([T.st [T.b (asB (T.cell ((asL (T.cell (x459.getD x461.toNat T.u) 0)).getD x465.toNat T.u) 0)), T.sl (asL (nth r467 0))]] : List T))
  else none
  else none
 else
  some [T.i .i64 0, T.sl x459, T.i .i64 x460, T.i .i64 x461, T.sl x462, T.sl x463, T.sl (asL (T.cell (x459.getD x461.toNat T.u) 0)), T.i .i64 (asI (T.cell (x459.getD x461.toNat T.u) 1)), T.b (asB (T.cell (x459.getD x461.toNat T.u) 2)), T.sl x466]
def f141_1_c (x459 : List T) (x460 x461 : Int) (x462 x463 : List T) (x465 : Int) (x466 : List T) : CSt := ⟨[.bp 1 0, .bp 3 0, .bp 5 0, .rf 6 [] 0 none, .ro 0 true [.sl true [.b, .sl false [.i .u8]], .i .i64, .b] x459, .i .i64 x460, .i .i64 x461, .ro 0 true [.b, .sl false [.i .u8]] (asL (T.cell (x459.getD x461.toNat T.u) 0)), .i .i64 ((asL (T.cell (x459.getD x461.toNat T.u) 0)).length : Int), .i .i64 x465], [.dead, .box [.rf 2 [] 0 none], .row true [.sl true [.b, .sl false [.i .u8]], .i .i64, .b] x462 0 false, .box [.rf 4 [] 0 none], .row true [.sl true [.b, .sl false [.i .u8]], .i .i64, .b] x463 0 false, .box [.ro 0 true [.b, .sl false [.i .u8]] (asL (T.cell (x459.getD x461.toNat T.u) 0)), .i .i64 (asI (T.cell (x459.getD x461.toNat T.u) 1)), .b (asB (T.cell (x459.getD x461.toNat T.u) 2))], .row true [.b, .sl false [.i .u8]] x466 0 false]⟩
theorem f141_1_round (c : Orc) (lf : Nat) (x459 : List T) (x460 x461 : Int) (x462 x463 : List T) (L : CSt → Option (List T)) (x465 : Int) (x466 : List T) :
 roundK c env lf 6 fi141 1 7 [] [2, 3, 5, 6, 11, 12, 13, 19, 20, 21] (x141_7_0) L (f141_1_c x459 x460 x461 x462 x463 x465 x466) = f141_1_s c lf x459 x460 x461 x462 x463 (fun x465 x466 => L (f141_1_c x459 x460 x461 x462 x463 x465 x466)) x465 x466 := by kernel_rfl
def f141_1 (c : Orc) (lf : Nat) (x459 : List T) (x460 x461 : Int) (x462 x463 : List T) : Nat → Int → List T → Option (List T)
 | 0 => fun _ _ => none
 | n + 1 => fun x465 x466 => f141_1_s c lf x459 x460 x461 x462 x463 (f141_1 c lf x459 x460 x461 x462 x463 n) x465 x466
theorem f141_1_u (c : Orc) (lf : Nat) (x459 : List T) (x460 x461 : Int) (x462 x463 : List T) (n : Nat) (x465 : Int) (x466 : List T) : f141_1 c lf x459 x460 x461 x462 x463 (n + 1) x465 x466 = f141_1_s c lf x459 x460 x461 x462 x463 (f141_1 c lf x459 x460 x461 x462 x463 n) x465 x466 := rfl
theorem f141_1_eq (c : Orc) (lf : Nat) (x459 : List T) (x460 x461 : Int) (x462 x463 : List T) (n : Nat) (x465 : Int) (x466 : List T) :
 lpK c env lf 6 fi141 1 7 [] [2, 3, 5, 6, 11, 12, 13, 19, 20, 21] (x141_7_0) n (f141_1_c x459 x460 x461 x462 x463 x465 x466) = f141_1 c lf x459 x460 x461 x462 x463 n x465 x466 := by
 induction n generalizing x465 x466 with
 | zero => rfl
 | succ n ih =>
  refine (f141_1_round c lf x459 x460 x461 x462 x463 _ x465 x466).trans ?_
  have e : (fun x465 x466 => lpK c env lf 6 fi141 1 7 [] [2, 3, 5, 6, 11, 12, 13, 19, 20, 21] (x141_7_0) n (f141_1_c x459 x460 x461 x462 x463 x465 x466)) = f141_1 c lf x459 x460 x461 x462 x463 n := by funext x465 x466; exact ih x465 x466
  show f141_1_s c lf x459 x460 x461 x462 x463 (fun x465 x466 => lpK c env lf 6 fi141 1 7 [] [2, 3, 5, 6, 11, 12, 13, 19, 20, 21] (x141_7_0) n (f141_1_c x459 x460 x461 x462 x463 x465 x466)) x465 x466 = _
  rw [e]; rfl
def f141_0_s (c : Orc) (lf : Nat) (L : List T → Int → Int → List T → List T → Option (List T)) (lp0 : List T → Int → Int → List T → List T → Int → List T → Option (List T)) (x459 : List T) (x460 x461 : Int) (x462 x463 : List T) : Option (List T) :=
 bif iLt x461 x460 then
  bif inR x461 x459.length then
  (lp0 x459 x460 x461 x462 x463 0 ([] : List T)).bind fun r468 =>
  bif nLe ((asL (nth r468 5)).length + ([T.st [T.sl (asL (nth r468 9)), T.i .i64 (asI (nth r468 7)), T.b (asB (nth r468 8))]] : List T).length) LIM then
  L (asL (nth r468 1)) (asI (nth r468 2)) (IntKind.wrap .i64 ((asI (nth r468 3)) + 1)) (asL (nth r468 4)) ((asL (nth r468 5)) ++ ([T.st [T.sl (asL (nth r468 9)), T.i .i64 (asI (nth r468 7)), T.b (asB (nth r468 8))]] : List T))
  else none
  else none
 else
  some [T.i .i64 0, T.sl x462, T.sl x463]
def f141_0_c (x459 : List T) (x460 x461 : Int) (x462 x463 : List T) : CSt := ⟨[.bp 1 0, .bp 3 0, .ro 0 true [.sl true [.b, .sl false [.i .u8]], .i .i64, .b] x459, .i .i64 x460, .i .i64 x461], [.dead, .box [.rf 2 [] 0 none], .row true [.sl true [.b, .sl false [.i .u8]], .i .i64, .b] x462 0 false, .box [.rf 4 [] 0 none], .row true [.sl true [.b, .sl false [.i .u8]], .i .i64, .b] x463 0 false]⟩
theorem f141_0_round (c : Orc) (lf : Nat) (L : CSt → Option (List T)) (x459 : List T) (x460 x461 : Int) (x462 x463 : List T) :
 roundK c env lf 6 fi141 1 3 [] [2, 3, 11, 12, 13] (x141_3_0) L (f141_0_c x459 x460 x461 x462 x463) = f141_0_s c lf (fun x459 x460 x461 x462 x463 => L (f141_0_c x459 x460 x461 x462 x463)) (fun (x459 : List T) (x460 x461 : Int) (x462 x463 : List T) (x465 : Int) (x466 : List T) => lpK c env lf 6 fi141 1 7 [] [2, 3, 5, 6, 11, 12, 13, 19, 20, 21] (x141_7_0) lf (f141_1_c x459 x460 x461 x462 x463 x465 x466)) x459 x460 x461 x462 x463 := by kernel_rfl
def f141_0 (c : Orc) (lf : Nat) : Nat → List T → Int → Int → List T → List T → Option (List T)
 | 0 => fun _ _ _ _ _ => none
 | n + 1 => fun x459 x460 x461 x462 x463 => f141_0_s c lf (f141_0 c lf n) (fun (x459 : List T) (x460 x461 : Int) (x462 x463 : List T) (x465 : Int) (x466 : List T) => f141_1 c lf x459 x460 x461 x462 x463 lf x465 x466) x459 x460 x461 x462 x463
theorem f141_0_u (c : Orc) (lf n : Nat) (x459 : List T) (x460 x461 : Int) (x462 x463 : List T) : f141_0 c lf (n + 1) x459 x460 x461 x462 x463 = f141_0_s c lf (f141_0 c lf n) (fun (x459 : List T) (x460 x461 : Int) (x462 x463 : List T) (x465 : Int) (x466 : List T) => f141_1 c lf x459 x460 x461 x462 x463 lf x465 x466) x459 x460 x461 x462 x463 := rfl
theorem f141_0_eq (c : Orc) (lf n : Nat) (x459 : List T) (x460 x461 : Int) (x462 x463 : List T) :
 lpK c env lf 6 fi141 1 3 [] [2, 3, 11, 12, 13] (x141_3_0) n (f141_0_c x459 x460 x461 x462 x463) = f141_0 c lf n x459 x460 x461 x462 x463 := by
 induction n generalizing x459 x460 x461 x462 x463 with
 | zero => rfl
 | succ n ih =>
  refine (f141_0_round c lf _ x459 x460 x461 x462 x463).trans ?_
  have e : (fun x459 x460 x461 x462 x463 => lpK c env lf 6 fi141 1 3 [] [2, 3, 11, 12, 13] (x141_3_0) n (f141_0_c x459 x460 x461 x462 x463)) = f141_0 c lf n := by funext x459 x460 x461 x462 x463; exact ih x459 x460 x461 x462 x463
  have e0 : (fun (x459 : List T) (x460 x461 : Int) (x462 x463 : List T) (x465 : Int) (x466 : List T) => lpK c env lf 6 fi141 1 7 [] [2, 3, 5, 6, 11, 12, 13, 19, 20, 21] (x141_7_0) lf (f141_1_c x459 x460 x461 x462 x463 x465 x466)) = (fun (x459 : List T) (x460 x461 : Int) (x462 x463 : List T) (x465 : Int) (x466 : List T) => f141_1 c lf x459 x460 x461 x462 x463 lf x465 x466) := by funext x459 x460 x461 x462 x463 x465 x466; exact f141_1_eq c lf x459 x460 x461 x462 x463 lf x465 x466
  show f141_0_s c lf (fun x459 x460 x461 x462 x463 => lpK c env lf 6 fi141 1 3 [] [2, 3, 11, 12, 13] (x141_3_0) n (f141_0_c x459 x460 x461 x462 x463)) (fun (x459 : List T) (x460 x461 : Int) (x462 x463 : List T) (x465 : Int) (x466 : List T) => lpK c env lf 6 fi141 1 7 [] [2, 3, 5, 6, 11, 12, 13, 19, 20, 21] (x141_7_0) lf (f141_1_c x459 x460 x461 x462 x463 x465 x466)) x459 x460 x461 x462 x463 = _
  rw [e, e0]; rfl
def f141_t (c : Orc) (lf : Nat) (lp0 : List T → Int → Int → List T → List T → Option (List T)) (l0_0 : List T) : Option (List T) :=
 (lp0 l0_0 (l0_0.length : Int) 0 ([] : List T) ([] : List T)).bind fun r469 =>
 some [T.st [T.sl (asL (nth r469 2))]]
def f141 (c : Orc) (lf : Nat) (l0_0 : List T) : Option (List T) := f141_t c lf (fun (x459 : List T) (x460 x461 : Int) (x462 x463 : List T) => f141_0 c lf lf x459 x460 x461 x462 x463) l0_0
theorem f141_raw (c : Orc) (lf : Nat) (l0_0 : List T) : funK c env lf 6 fi141 [.st [.sl l0_0]] = f141_t c lf (fun (x459 : List T) (x460 x461 : Int) (x462 x463 : List T) => lpK c env lf 6 fi141 1 3 [] [2, 3, 11, 12, 13] (x141_3_0) lf (f141_0_c x459 x460 x461 x462 x463)) l0_0 := by kernel_rfl
theorem f141_eq (c : Orc) (lf : Nat) (l0_0 : List T) : funK c env lf 6 fi141 [.st [.sl l0_0]] = f141 c lf l0_0 := by
 refine (f141_raw c lf l0_0).trans ?_
 have e0 : (fun (x459 : List T) (x460 x461 : Int) (x462 x463 : List T) => lpK c env lf 6 fi141 1 3 [] [2, 3, 11, 12, 13] (x141_3_0) lf (f141_0_c x459 x460 x461 x462 x463)) = (fun (x459 : List T) (x460 x461 : Int) (x462 x463 : List T) => f141_0 c lf lf x459 x460 x461 x462 x463) := by funext x459 x460 x461 x462 x463; exact f141_0_eq c lf lf x459 x460 x461 x462 x463
 rw [e0]; rfl
def f87_t (c : Orc) (lf : Nat) (l0_0 : List T) (n0_1 : Int) (l0_2 : List T) (b0_3 : Bool) : Option (List T) :=
 (c 141 [T.st [T.sl l0_0]]).bind fun r470 =>
 (c 142 [T.sl l0_2]).bind fun r471 =>
 some [T.st [T.sl (asL (T.cell (nth r470 0) 0)), T.i .i64 n0_1, T.sl (asL (nth r471 0)), T.b b0_3]]
def f87 (c : Orc) (lf : Nat) (l0_0 : List T) (n0_1 : Int) (l0_2 : List T) (b0_3 : Bool) : Option (List T) := f87_t c lf l0_0 n0_1 l0_2 b0_3
theorem f87_eq (c : Orc) (lf : Nat) (l0_0 : List T) (n0_1 : Int) (l0_2 : List T) (b0_3 : Bool) : funK c env lf 6 fi87 [.st [.sl l0_0, .i .i64 n0_1, .sl l0_2, .b b0_3]] = f87 c lf l0_0 n0_1 l0_2 b0_3 := by kernel_rfl
def f88_t (c : Orc) (lf : Nat) (l0_0 : List T) (n0_1 : Int) (l0_2 : List T) (b0_3 : Bool) (n0_4 : Int) : Option (List T) :=
 (c 87 [T.st [T.sl l0_0, T.i .i64 n0_1, T.sl l0_2, T.b b0_3]]).bind fun r472 =>
 some [T.st [T.sl (asL (T.cell (nth r472 0) 0)), T.i .i64 (asI (T.cell (nth r472 0) 1)), T.sl (asL (T.cell (nth r472 0) 2)), T.b (asB (T.cell (nth r472 0) 3)), T.i .i64 n0_4]]
def f88 (c : Orc) (lf : Nat) (l0_0 : List T) (n0_1 : Int) (l0_2 : List T) (b0_3 : Bool) (n0_4 : Int) : Option (List T) := f88_t c lf l0_0 n0_1 l0_2 b0_3 n0_4
theorem f88_eq (c : Orc) (lf : Nat) (l0_0 : List T) (n0_1 : Int) (l0_2 : List T) (b0_3 : Bool) (n0_4 : Int) : funK c env lf 6 fi88 [.st [.sl l0_0, .i .i64 n0_1, .sl l0_2, .b b0_3, .i .i64 n0_4]] = f88 c lf l0_0 n0_1 l0_2 b0_3 n0_4 := by kernel_rfl
def f75_t (c : Orc) (lf : Nat) (n0 n1 n2 : Int) : Option (List T) :=
 bif iLe n1 n0 then
  some [T.b (iLe n0 n2)]
 else
  some [T.b false]
def f75 (c : Orc) (lf : Nat) (n0 n1 n2 : Int) : Option (List T) := f75_t c lf n0 n1 n2
theorem f75_eq (c : Orc) (lf : Nat) (n0 n1 n2 : Int) : funK c env lf 6 fi75 [.i .i64 n0, .i .i64 n1, .i .i64 n2] = f75 c lf n0 n1 n2 := by kernel_rfl
def f89_t (c : Orc) (lf : Nat) (n0_0 n0_1 : Int) (l0_2 : List T) : Option (List T) :=
 (c 75 [T.i .i64 n0_0, T.i .i64 1, T.i .i64 4]).bind fun r473 =>
 bif asB (nth r473 0) then
  (c 75 [T.i .i64 n0_1, T.i .i64 0, T.i .i64 1000000]).bind fun r474 =>
  bif asB (nth r474 0) then
   some [T.b (iLe (l0_2.length : Int) 380)]
  else
   some [T.b false]
 else
  some [T.b false]
def f89 (c : Orc) (lf : Nat) (n0_0 n0_1 : Int) (l0_2 : List T) : Option (List T) := f89_t c lf n0_0 n0_1 l0_2
theorem f89_eq (c : Orc) (lf : Nat) (n0_0 n0_1 : Int) (l0_2 : List T) : funK c env lf 6 fi89 [.st [.i .i64 n0_0, .i .i64 n0_1, .sl l0_2]] = f89 c lf n0_0 n0_1 l0_2 := by kernel_rfl
def f128_1_s (c : Orc) (lf : Nat) (x490 : List T) (x491 x492 : Int) (x493 : List T) (L : Int → Option (List T)) (x495 : Int) : Option (List T) :=
 bif iLt x495 ((asL (T.cell (x490.getD x492.toNat T.u) 0)).length : Int) then
  bif inR x495 ((asL (T.cell (x490.getD x492.toNat T.u) 0)).length) then
  bif iLt 400 ((asL (T.cell ((asL (T.cell (x490.getD x492.toNat T.u) 0)).getD x495.toNat T.u) 1)).length : Int) then
   some [T.i .i64 0, T.b false]
  else
   bif !(asB (T.cell ((asL (T.cell (x490.getD x492.toNat T.u) 0)).getD x495.toNat T.u) 0)) then
    bif iLt 0 ((asL (T.cell ((asL (T.cell (x490.getD x492.toNat T.u) 0)).getD x495.toNat T.u) 1)).length : Int) then
     some [T.i .i64 0, T.b false]
    else
     bif iLt 0 x495 then
      bif asB (T.cell ((asL (T.cell (x490.getD x492.toNat T.u) 0)).getD x495.toNat T.u) 0) then
       bif inR (IntKind.wrap .i64 (x495 - 1)) ((asL (T.cell (x490.getD x492.toNat T.u) 0)).length) then
       bif !(asB (T.cell ((asL (T.cell (x490.getD x492.toNat T.u) 0)).getD ((IntKind.wrap .i64 (x495 - 1)).toNat) T.u) 0)) then
        some [T.i .i64 0, T.b false]
       else
        L (IntKind.wrap .i64 (x495 + 1))
       else none
      else
       L (IntKind.wrap .i64 (x495 + 1))
     else
      L (IntKind.wrap .i64 (x495 + 1))
   else
    bif iLt 0 x495 then
     bif asB (T.cell ((asL (T.cell (x490.getD x492.toNat T.u) 0)).getD x495.toNat T.u) 0) then
      bif inR (IntKind.wrap .i64 (x495 - 1)) ((asL (T.cell (x490.getD x492.toNat T.u) 0)).length) then
      bif !(asB (T.cell ((asL (T.cell (x490.getD x492.toNat T.u) 0)).getD ((IntKind.wrap .i64 (x495 - 1)).toNat) T.u) 0)) then
       some [T.i .i64 0, T.b false]
      else
       L (IntKind.wrap .i64 (x495 + 1))
      else none
     else
      L (IntKind.wrap .i64 (x495 + 1))
    else
     L (IntKind.wrap .i64 (x495 + 1))
  else none
 else
  some [T.i .i64 1, T.sl x490, T.i .i64 x491, T.i .i64 x492, T.sl x493]
def f128_1_c (x490 : List T) (x491 x492 : Int) (x493 : List T) (x495 : Int) : CSt := ⟨[.bp 1 0, .bp 2 0, .ro 0 true [.sl true [.b, .sl false [.i .u8]], .i .i64, .b] x490, .i .i64 x491, .i .i64 x492, .ro 0 true [.b, .sl false [.i .u8]] (asL (T.cell (x490.getD x492.toNat T.u) 0)), .i .i64 ((asL (T.cell (x490.getD x492.toNat T.u) 0)).length : Int), .i .i64 x495], [.dead, .box [.ro 0 true [.sl true [.b, .sl false [.i .u8]], .i .i64, .b] x493], .box [.ro 0 true [.b, .sl false [.i .u8]] (asL (T.cell (x490.getD x492.toNat T.u) 0)), .i .i64 (asI (T.cell (x490.getD x492.toNat T.u) 1)), .b (asB (T.cell (x490.getD x492.toNat T.u) 2))]]⟩
theorem f128_1_round (c : Orc) (lf : Nat) (x490 : List T) (x491 x492 : Int) (x493 : List T) (L : CSt → Option (List T)) (x495 : Int) :
 roundK c env lf 6 fi128 1 7 [] [1, 4, 8, 9, 10, 25, 26, 27] (x128_7_0) L (f128_1_c x490 x491 x492 x493 x495) = f128_1_s c lf x490 x491 x492 x493 (fun x495 => L (f128_1_c x490 x491 x492 x493 x495)) x495 := by kernel_rfl
def f128_1 (c : Orc) (lf : Nat) (x490 : List T) (x491 x492 : Int) (x493 : List T) : Nat → Int → Option (List T)
 | 0 => fun _ => none
 | n + 1 => fun x495 => f128_1_s c lf x490 x491 x492 x493 (f128_1 c lf x490 x491 x492 x493 n) x495
theorem f128_1_u (c : Orc) (lf : Nat) (x490 : List T) (x491 x492 : Int) (x493 : List T) (n : Nat) (x495 : Int) : f128_1 c lf x490 x491 x492 x493 (n + 1) x495 = f128_1_s c lf x490 x491 x492 x493 (f128_1 c lf x490 x491 x492 x493 n) x495 := rfl
theorem f128_1_eq (c : Orc) (lf : Nat) (x490 : List T) (x491 x492 : Int) (x493 : List T) (n : Nat) (x495 : Int) :
 lpK c env lf 6 fi128 1 7 [] [1, 4, 8, 9, 10, 25, 26, 27] (x128_7_0) n (f128_1_c x490 x491 x492 x493 x495) = f128_1 c lf x490 x491 x492 x493 n x495 := by
 induction n generalizing x495 with
 | zero => rfl
 | succ n ih =>
  refine (f128_1_round c lf x490 x491 x492 x493 _ x495).trans ?_
  have e : (fun x495 => lpK c env lf 6 fi128 1 7 [] [1, 4, 8, 9, 10, 25, 26, 27] (x128_7_0) n (f128_1_c x490 x491 x492 x493 x495)) = f128_1 c lf x490 x491 x492 x493 n := by funext x495; exact ih x495
  show f128_1_s c lf x490 x491 x492 x493 (fun x495 => lpK c env lf 6 fi128 1 7 [] [1, 4, 8, 9, 10, 25, 26, 27] (x128_7_0) n (f128_1_c x490 x491 x492 x493 x495)) x495 = _
  rw [e]; rfl
def f128_0_s (c : Orc) (lf : Nat) (L : List T → Int → Int → List T → Option (List T)) (lp0 : List T → Int → Int → List T → Int → Option (List T)) (x490 : List T) (x491 x492 : Int) (x493 : List T) : Option (List T) :=
 bif iLt x492 x491 then
  bif inR x492 x490.length then
  bif ((asL (T.cell (x490.getD x492.toNat T.u) 0)).length : Int) != 8 then
   some [T.i .i64 0, T.b false]
  else
   (c 75 [T.i .i64 (asI (T.cell (x490.getD x492.toNat T.u) 1)), T.i .i64 0, T.i .i64 100000]).bind fun r494 =>
   bif !(asB (nth r494 0)) then
    some [T.i .i64 0, T.b false]
   else
    (lp0 x490 x491 x492 x493 0).bind fun r496 =>
    bif asI (nth r496 0) == 0 then
     some [T.i .i64 0, T.b (asB (nth r496 1))]
    else
     L (asL (nth r496 1)) (asI (nth r496 2)) (IntKind.wrap .i64 ((asI (nth r496 3)) + 1)) (asL (nth r496 4))
  else none
 else
  some [T.i .i64 1, T.sl x493]
def f128_0_c (x490 : List T) (x491 x492 : Int) (x493 : List T) : CSt := ⟨[.bp 1 0, .ro 0 true [.sl true [.b, .sl false [.i .u8]], .i .i64, .b] x490, .i .i64 x491, .i .i64 x492], [.dead, .box [.ro 0 true [.sl true [.b, .sl false [.i .u8]], .i .i64, .b] x493]]⟩
theorem f128_0_round (c : Orc) (lf : Nat) (L : CSt → Option (List T)) (x490 : List T) (x491 x492 : Int) (x493 : List T) :
 roundK c env lf 6 fi128 1 2 [] [1, 8, 9, 10] (x128_2_0) L (f128_0_c x490 x491 x492 x493) = f128_0_s c lf (fun x490 x491 x492 x493 => L (f128_0_c x490 x491 x492 x493)) (fun (x490 : List T) (x491 x492 : Int) (x493 : List T) (x495 : Int) => lpK c env lf 6 fi128 1 7 [] [1, 4, 8, 9, 10, 25, 26, 27] (x128_7_0) lf (f128_1_c x490 x491 x492 x493 x495)) x490 x491 x492 x493 := by kernel_rfl
def f128_0 (c : Orc) (lf : Nat) : Nat → List T → Int → Int → List T → Option (List T)
 | 0 => fun _ _ _ _ => none
 | n + 1 => fun x490 x491 x492 x493 => f128_0_s c lf (f128_0 c lf n) (fun (x490 : List T) (x491 x492 : Int) (x493 : List T) (x495 : Int) => f128_1 c lf x490 x491 x492 x493 lf x495) x490 x491 x492 x493
theorem f128_0_u (c : Orc) (lf n : Nat) (x490 : List T) (x491 x492 : Int) (x493 : List T) : f128_0 c lf (n + 1) x490 x491 x492 x493 = f128_0_s c lf (f128_0 c lf n) (fun (x490 : List T) (x491 x492 : Int) (x493 : List T) (x495 : Int) => f128_1 c lf x490 x491 x492 x493 lf x495) x490 x491 x492 x493 := rfl
theorem f128_0_eq (c : Orc) (lf n : Nat) (x490 : List T) (x491 x492 : Int) (x493 : List T) :
 lpK c env lf 6 fi128 1 2 [] [1, 8, 9, 10] (x128_2_0) n (f128_0_c x490 x491 x492 x493) = f128_0 c lf n x490 x491 x492 x493 := by
 induction n generalizing x490 x491 x492 x493 with
 | zero => rfl
 | succ n ih =>
  refine (f128_0_round c lf _ x490 x491 x492 x493).trans ?_
  have e : (fun x490 x491 x492 x493 => lpK c env lf 6 fi128 1 2 [] [1, 8, 9, 10] (x128_2_0) n (f128_0_c x490 x491 x492 x493)) = f128_0 c lf n := by funext x490 x491 x492 x493; exact ih x490 x491 x492 x493
  have e0 : (fun (x490 : List T) (x491 x492 : Int) (x493 : List T) (x495 : Int) => lpK c env lf 6 fi128 1 7 [] [1, 4, 8, 9, 10, 25, 26, 27] (x128_7_0) lf (f128_1_c x490 x491 x492 x493 x495)) = (fun (x490 : List T) (x491 x492 : Int) (x493 : List T) (x495 : Int) => f128_1 c lf x490 x491 x492 x493 lf x495) := by funext x490 x491 x492 x493 x495; exact f128_1_eq c lf x490 x491 x492 x493 lf x495
  show f128_0_s c lf (fun x490 x491 x492 x493 => lpK c env lf 6 fi128 1 2 [] [1, 8, 9, 10] (x128_2_0) n (f128_0_c x490 x491 x492 x493)) (fun (x490 : List T) (x491 x492 : Int) (x493 : List T) (x495 : Int) => lpK c env lf 6 fi128 1 7 [] [1, 4, 8, 9, 10, 25, 26, 27] (x128_7_0) lf (f128_1_c x490 x491 x492 x493 x495)) x490 x491 x492 x493 = _
  rw [e, e0]; rfl
def f128_t (c : Orc) (lf : Nat) (lp0 : List T → Int → Int → List T → Option (List T)) (l0_0 : List T) : Option (List T) :=
 (lp0 l0_0 (l0_0.length : Int) 0 l0_0).bind fun r497 =>
 bif asI (nth r497 0) == 0 then
  some [T.b (asB (nth r497 1))]
 else
  (c 75 [T.i .i64 ((asL (nth r497 1)).length : Int), T.i .i64 3, T.i .i64 24]).bind fun r498 =>
  some [T.b (asB (nth r498 0))]
def f128 (c : Orc) (lf : Nat) (l0_0 : List T) : Option (List T) := f128_t c lf (fun (x490 : List T) (x491 x492 : Int) (x493 : List T) => f128_0 c lf lf x490 x491 x492 x493) l0_0
theorem f128_raw (c : Orc) (lf : Nat) (l0_0 : List T) : funK c env lf 6 fi128 [.st [.sl l0_0]] = f128_t c lf (fun (x490 : List T) (x491 x492 : Int) (x493 : List T) => lpK c env lf 6 fi128 1 2 [] [1, 8, 9, 10] (x128_2_0) lf (f128_0_c x490 x491 x492 x493)) l0_0 := by kernel_rfl
theorem f128_eq (c : Orc) (lf : Nat) (l0_0 : List T) : funK c env lf 6 fi128 [.st [.sl l0_0]] = f128 c lf l0_0 := by
 refine (f128_raw c lf l0_0).trans ?_
 have e0 : (fun (x490 : List T) (x491 x492 : Int) (x493 : List T) => lpK c env lf 6 fi128 1 2 [] [1, 8, 9, 10] (x128_2_0) lf (f128_0_c x490 x491 x492 x493)) = (fun (x490 : List T) (x491 x492 : Int) (x493 : List T) => f128_0 c lf lf x490 x491 x492 x493) := by funext x490 x491 x492 x493; exact f128_0_eq c lf lf x490 x491 x492 x493
 rw [e0]; rfl
def f74_0_s (c : Orc) (lf : Nat) (b0_3 : Bool) (l0_0 l0_2 : List T) (n0_1 : Int) (L : Int → Option (List T)) (x512 : Int) : Option (List T) :=
 bif iLt x512 (l0_2.length : Int) then
  bif inR x512 l0_2.length then
  (c 75 [T.i .i64 (asI (T.cell (l0_2.getD x512.toNat T.u) 0)), T.i .i64 0, T.i .i64 100000]).bind fun r513 =>
  bif !(asB (nth r513 0)) then
   some [T.i .i64 0, T.b false]
  else
   (c 75 [T.i .i64 (asI (T.cell (l0_2.getD x512.toNat T.u) 1)), T.i .i64 1, T.i .i64 2]).bind fun r514 =>
   bif !(asB (nth r514 0)) then
    some [T.i .i64 0, T.b false]
   else
    (c 75 [T.i .i64 (asI (T.cell (l0_2.getD x512.toNat T.u) 2)), T.i .i64 0, T.i .i64 400]).bind fun r515 =>
    bif !(asB (nth r515 0)) then
     some [T.i .i64 0, T.b false]
    else
     bif iLt 0 x512 then
      bif inR (IntKind.wrap .i64 (x512 - 1)) l0_2.length then
      bif iLe (asI (T.cell (l0_2.getD x512.toNat T.u) 0)) (asI (T.cell (l0_2.getD ((IntKind.wrap .i64 (x512 - 1)).toNat) T.u) 0)) then
       some [T.i .i64 0, T.b false]
      else
       L (IntKind.wrap .i64 (x512 + 1))
      else none
     else
      L (IntKind.wrap .i64 (x512 + 1))
  else none
 else
  some [T.i .i64 1, T.sl l0_0, T.i .i64 n0_1, T.sl l0_2, T.b b0_3]
def f74_0_c (b0_3 : Bool) (l0_0 l0_2 : List T) (n0_1 x512 : Int) : CSt := ⟨[.bp 4 0, .ro 0 true [.i .i64, .i .i64, .i .i64] l0_2, .i .i64 (l0_2.length : Int), .i .i64 x512], [.dead, .dead, .dead, .dead, .box [.ro 0 true [.sl true [.b, .sl false [.i .u8]], .i .i64, .b] l0_0, .i .i64 n0_1, .ro 0 true [.i .i64, .i .i64, .i .i64] l0_2, .b b0_3]]⟩
theorem f74_0_round (c : Orc) (lf : Nat) (b0_3 : Bool) (l0_0 l0_2 : List T) (n0_1 : Int) (L : CSt → Option (List T)) (x512 : Int) :
 roundK c env lf 6 fi74 4 2 [] [1, 6, 7, 8] (x74_2_0) L (f74_0_c b0_3 l0_0 l0_2 n0_1 x512) = f74_0_s c lf b0_3 l0_0 l0_2 n0_1 (fun x512 => L (f74_0_c b0_3 l0_0 l0_2 n0_1 x512)) x512 := by kernel_rfl
def f74_0 (c : Orc) (lf : Nat) (b0_3 : Bool) (l0_0 l0_2 : List T) (n0_1 : Int) : Nat → Int → Option (List T)
 | 0 => fun _ => none
 | n + 1 => fun x512 => f74_0_s c lf b0_3 l0_0 l0_2 n0_1 (f74_0 c lf b0_3 l0_0 l0_2 n0_1 n) x512
theorem f74_0_u (c : Orc) (lf : Nat) (b0_3 : Bool) (l0_0 l0_2 : List T) (n0_1 : Int) (n : Nat) (x512 : Int) : f74_0 c lf b0_3 l0_0 l0_2 n0_1 (n + 1) x512 = f74_0_s c lf b0_3 l0_0 l0_2 n0_1 (f74_0 c lf b0_3 l0_0 l0_2 n0_1 n) x512 := rfl
theorem f74_0_eq (c : Orc) (lf : Nat) (b0_3 : Bool) (l0_0 l0_2 : List T) (n0_1 : Int) (n : Nat) (x512 : Int) :
 lpK c env lf 6 fi74 4 2 [] [1, 6, 7, 8] (x74_2_0) n (f74_0_c b0_3 l0_0 l0_2 n0_1 x512) = f74_0 c lf b0_3 l0_0 l0_2 n0_1 n x512 := by
 induction n generalizing x512 with
 | zero => rfl
 | succ n ih =>
  refine (f74_0_round c lf b0_3 l0_0 l0_2 n0_1 _ x512).trans ?_
  have e : (fun x512 => lpK c env lf 6 fi74 4 2 [] [1, 6, 7, 8] (x74_2_0) n (f74_0_c b0_3 l0_0 l0_2 n0_1 x512)) = f74_0 c lf b0_3 l0_0 l0_2 n0_1 n := by funext x512; exact ih x512
  show f74_0_s c lf b0_3 l0_0 l0_2 n0_1 (fun x512 => lpK c env lf 6 fi74 4 2 [] [1, 6, 7, 8] (x74_2_0) n (f74_0_c b0_3 l0_0 l0_2 n0_1 x512)) x512 = _
  rw [e]; rfl
def f74_t (c : Orc) (lf : Nat) (lp0 : Bool → List T → List T → Int → Int → Option (List T)) (l0_0 : List T) (n0_1 : Int) (l0_2 : List T) (b0_3 : Bool) : Option (List T) :=
 (lp0 b0_3 l0_0 l0_2 n0_1 0).bind fun r516 =>
 bif asI (nth r516 0) == 0 then
  some [T.b (asB (nth r516 1))]
 else
  (c 128 [T.st [T.sl (asL (nth r516 1))]]).bind fun r517 =>
  bif asB (nth r517 0) then
   (c 75 [T.i .i64 (asI (nth r516 2)), T.i .i64 0, T.i .i64 100000]).bind fun r518 =>
   bif asB (nth r518 0) then
    some [T.b (iLe ((asL (nth r516 3)).length : Int) 20)]
   else
    some [T.b false]
  else
   some [T.b false]
def f74 (c : Orc) (lf : Nat) (l0_0 : List T) (n0_1 : Int) (l0_2 : List T) (b0_3 : Bool) : Option (List T) := f74_t c lf (fun (b0_3 : Bool) (l0_0 l0_2 : List T) (n0_1 x512 : Int) => f74_0 c lf b0_3 l0_0 l0_2 n0_1 lf x512) l0_0 n0_1 l0_2 b0_3
theorem f74_raw (c : Orc) (lf : Nat) (l0_0 : List T) (n0_1 : Int) (l0_2 : List T) (b0_3 : Bool) : funK c env lf 6 fi74 [.st [.sl l0_0, .i .i64 n0_1, .sl l0_2, .b b0_3]] = f74_t c lf (fun (b0_3 : Bool) (l0_0 l0_2 : List T) (n0_1 x512 : Int) => lpK c env lf 6 fi74 4 2 [] [1, 6, 7, 8] (x74_2_0) lf (f74_0_c b0_3 l0_0 l0_2 n0_1 x512)) l0_0 n0_1 l0_2 b0_3 := by kernel_rfl
theorem f74_eq (c : Orc) (lf : Nat) (l0_0 : List T) (n0_1 : Int) (l0_2 : List T) (b0_3 : Bool) : funK c env lf 6 fi74 [.st [.sl l0_0, .i .i64 n0_1, .sl l0_2, .b b0_3]] = f74 c lf l0_0 n0_1 l0_2 b0_3 := by
 refine (f74_raw c lf l0_0 n0_1 l0_2 b0_3).trans ?_
 have e0 : (fun (b0_3 : Bool) (l0_0 l0_2 : List T) (n0_1 x512 : Int) => lpK c env lf 6 fi74 4 2 [] [1, 6, 7, 8] (x74_2_0) lf (f74_0_c b0_3 l0_0 l0_2 n0_1 x512)) = (fun (b0_3 : Bool) (l0_0 l0_2 : List T) (n0_1 x512 : Int) => f74_0 c lf b0_3 l0_0 l0_2 n0_1 lf x512) := by funext b0_3 l0_0 l0_2 n0_1 x512; exact f74_0_eq c lf b0_3 l0_0 l0_2 n0_1 lf x512
 rw [e0]; rfl
def f94_t (c : Orc) (lf : Nat) (l0_0 : List T) (n1 : Int) : Option (List T) :=
 (c 75 [T.i .i64 n1, T.i .i64 0, T.i .i64 (IntKind.wrap .i64 ((l0_0.length : Int) - 1))]).bind fun r519 =>
 some [T.b (asB (nth r519 0))]
def f94 (c : Orc) (lf : Nat) (l0_0 : List T) (n1 : Int) : Option (List T) := f94_t c lf l0_0 n1
theorem f94_eq (c : Orc) (lf : Nat) (l0_0 : List T) (n1 : Int) : funK c env lf 6 fi94 [.st [.sl l0_0], .i .i64 n1] = f94 c lf l0_0 n1 := by kernel_rfl
def f38_0_s (c : Orc) (lf : Nat) (l0_0 : List T) (n1 : Int) (L : Int → Int → Option (List T)) (x525 x526 : Int) : Option (List T) :=
 bif iLt x526 ((asL (T.cell (l0_0.getD n1.toNat T.u) 0)).length : Int) then
  bif inR x526 ((asL (T.cell (l0_0.getD n1.toNat T.u) 0)).length) then
  bif asB (T.cell ((asL (T.cell (l0_0.getD n1.toNat T.u) 0)).getD x526.toNat T.u) 0) then
   L (IntKind.wrap .i64 (x525 + 1)) (IntKind.wrap .i64 (x526 + 1))
  else
   L x525 (IntKind.wrap .i64 (x526 + 1))
  else none
 else
  some [T.i .i64 0, T.i .i64 x525]
def f38_0_c (l0_0 : List T) (n1 x525 x526 : Int) : CSt := ⟨[.i .i64 x525, .ro 0 true [.b, .sl false [.i .u8]] (asL (T.cell (l0_0.getD n1.toNat T.u) 0)), .i .i64 ((asL (T.cell (l0_0.getD n1.toNat T.u) 0)).length : Int), .i .i64 x526], [.dead, .dead]⟩
theorem f38_0_round (c : Orc) (lf : Nat) (l0_0 : List T) (n1 : Int) (L : CSt → Option (List T)) (x525 x526 : Int) :
 roundK c env lf 6 fi38 2 5 [] [5, 17, 18, 19] (x38_5_0) L (f38_0_c l0_0 n1 x525 x526) = f38_0_s c lf l0_0 n1 (fun x525 x526 => L (f38_0_c l0_0 n1 x525 x526)) x525 x526 := by kernel_rfl
def f38_0 (c : Orc) (lf : Nat) (l0_0 : List T) (n1 : Int) : Nat → Int → Int → Option (List T)
 | 0 => fun _ _ => none
 | n + 1 => fun x525 x526 => f38_0_s c lf l0_0 n1 (f38_0 c lf l0_0 n1 n) x525 x526
theorem f38_0_u (c : Orc) (lf : Nat) (l0_0 : List T) (n1 : Int) (n : Nat) (x525 x526 : Int) : f38_0 c lf l0_0 n1 (n + 1) x525 x526 = f38_0_s c lf l0_0 n1 (f38_0 c lf l0_0 n1 n) x525 x526 := rfl
theorem f38_0_eq (c : Orc) (lf : Nat) (l0_0 : List T) (n1 : Int) (n : Nat) (x525 x526 : Int) :
 lpK c env lf 6 fi38 2 5 [] [5, 17, 18, 19] (x38_5_0) n (f38_0_c l0_0 n1 x525 x526) = f38_0 c lf l0_0 n1 n x525 x526 := by
 induction n generalizing x525 x526 with
 | zero => rfl
 | succ n ih =>
  refine (f38_0_round c lf l0_0 n1 _ x525 x526).trans ?_
  have e : (fun x525 x526 => lpK c env lf 6 fi38 2 5 [] [5, 17, 18, 19] (x38_5_0) n (f38_0_c l0_0 n1 x525 x526)) = f38_0 c lf l0_0 n1 n := by funext x525 x526; exact ih x525 x526
  show f38_0_s c lf l0_0 n1 (fun x525 x526 => lpK c env lf 6 fi38 2 5 [] [5, 17, 18, 19] (x38_5_0) n (f38_0_c l0_0 n1 x525 x526)) x525 x526 = _
  rw [e]; rfl
def f38_t (c : Orc) (lf : Nat) (lp0 : List T → Int → Int → Int → Option (List T)) (l0_0 : List T) (n1 : Int) : Option (List T) :=
 (c 94 [T.st [T.sl l0_0], T.i .i64 n1]).bind fun r524 =>
 bif !(asB (nth r524 0)) then
  some [T.i .i64 (-1)]
 else
  bif inR n1 l0_0.length then
  (lp0 l0_0 n1 0 0).bind fun r527 =>
  some [T.i .i64 (asI (nth r527 1))]
  else none
def f38 (c : Orc) (lf : Nat) (l0_0 : List T) (n1 : Int) : Option (List T) := f38_t c lf (fun (l0_0 : List T) (n1 x525 x526 : Int) => f38_0 c lf l0_0 n1 lf x525 x526) l0_0 n1
theorem f38_raw (c : Orc) (lf : Nat) (l0_0 : List T) (n1 : Int) : funK c env lf 6 fi38 [.st [.sl l0_0], .i .i64 n1] = f38_t c lf (fun (l0_0 : List T) (n1 x525 x526 : Int) => lpK c env lf 6 fi38 2 5 [] [5, 17, 18, 19] (x38_5_0) lf (f38_0_c l0_0 n1 x525 x526)) l0_0 n1 := by kernel_rfl
theorem f38_eq (c : Orc) (lf : Nat) (l0_0 : List T) (n1 : Int) : funK c env lf 6 fi38 [.st [.sl l0_0], .i .i64 n1] = f38 c lf l0_0 n1 := by
 refine (f38_raw c lf l0_0 n1).trans ?_
 have e0 : (fun (l0_0 : List T) (n1 x525 x526 : Int) => lpK c env lf 6 fi38 2 5 [] [5, 17, 18, 19] (x38_5_0) lf (f38_0_c l0_0 n1 x525 x526)) = (fun (l0_0 : List T) (n1 x525 x526 : Int) => f38_0 c lf l0_0 n1 lf x525 x526) := by funext l0_0 n1 x525 x526; exact f38_0_eq c lf l0_0 n1 lf x525 x526
 rw [e0]; rfl
def f34_0_s (c : Orc) (lf : Nat) (b0_3 : Bool) (l0_0 l0_2 : List T) (n0_1 n0_4 : Int) (L : Int → Int → Option (List T)) (x534 x535 : Int) : Option (List T) :=
 bif iLt x535 (l0_0.length : Int) then
  bif inR x535 l0_0.length then
  bif !(asB (T.cell (l0_0.getD x535.toNat T.u) 2)) then
   (c 38 [T.st [T.sl l0_0], T.i .i64 x535]).bind fun r536 =>
   bif (asI (nth r536 0)) == 0 then
    L (IntKind.wrap .i64 (x534 + 1)) (IntKind.wrap .i64 (x535 + 1))
   else
    L x534 (IntKind.wrap .i64 (x535 + 1))
  else
   L x534 (IntKind.wrap .i64 (x535 + 1))
  else none
 else
  some [T.i .i64 0, T.i .i64 x534]
def f34_0_c (b0_3 : Bool) (l0_0 l0_2 : List T) (n0_1 n0_4 : Int) (x534 x535 : Int) : CSt := ⟨[.bp 5 0, .i .i64 x534, .ro 0 true [.sl true [.b, .sl false [.i .u8]], .i .i64, .b] l0_0, .i .i64 (l0_0.length : Int), .i .i64 x535], [.dead, .dead, .dead, .dead, .dead, .box [.ro 0 true [.sl true [.b, .sl false [.i .u8]], .i .i64, .b] l0_0, .i .i64 n0_1, .ro 0 true [.i .i64, .i .i64, .i .i64] l0_2, .b b0_3, .i .i64 n0_4]]⟩
theorem f34_0_round (c : Orc) (lf : Nat) (b0_3 : Bool) (l0_0 l0_2 : List T) (n0_1 n0_4 : Int) (L : CSt → Option (List T)) (x534 x535 : Int) :
 roundK c env lf 6 fi34 5 3 [] [1, 3, 9, 10, 11] (x34_3_0) L (f34_0_c b0_3 l0_0 l0_2 n0_1 n0_4 x534 x535) = f34_0_s c lf b0_3 l0_0 l0_2 n0_1 n0_4 (fun x534 x535 => L (f34_0_c b0_3 l0_0 l0_2 n0_1 n0_4 x534 x535)) x534 x535 := by kernel_rfl
def f34_0 (c : Orc) (lf : Nat) (b0_3 : Bool) (l0_0 l0_2 : List T) (n0_1 n0_4 : Int) : Nat → Int → Int → Option (List T)
 | 0 => fun _ _ => none
 | n + 1 => fun x534 x535 => f34_0_s c lf b0_3 l0_0 l0_2 n0_1 n0_4 (f34_0 c lf b0_3 l0_0 l0_2 n0_1 n0_4 n) x534 x535
theorem f34_0_u (c : Orc) (lf : Nat) (b0_3 : Bool) (l0_0 l0_2 : List T) (n0_1 n0_4 : Int) (n : Nat) (x534 x535 : Int) : f34_0 c lf b0_3 l0_0 l0_2 n0_1 n0_4 (n + 1) x534 x535 = f34_0_s c lf b0_3 l0_0 l0_2 n0_1 n0_4 (f34_0 c lf b0_3 l0_0 l0_2 n0_1 n0_4 n) x534 x535 := rfl
theorem f34_0_eq (c : Orc) (lf : Nat) (b0_3 : Bool) (l0_0 l0_2 : List T) (n0_1 n0_4 : Int) (n : Nat) (x534 x535 : Int) :
 lpK c env lf 6 fi34 5 3 [] [1, 3, 9, 10, 11] (x34_3_0) n (f34_0_c b0_3 l0_0 l0_2 n0_1 n0_4 x534 x535) = f34_0 c lf b0_3 l0_0 l0_2 n0_1 n0_4 n x534 x535 := by
 induction n generalizing x534 x535 with
 | zero => rfl
 | succ n ih =>
  refine (f34_0_round c lf b0_3 l0_0 l0_2 n0_1 n0_4 _ x534 x535).trans ?_
  have e : (fun x534 x535 => lpK c env lf 6 fi34 5 3 [] [1, 3, 9, 10, 11] (x34_3_0) n (f34_0_c b0_3 l0_0 l0_2 n0_1 n0_4 x534 x535)) = f34_0 c lf b0_3 l0_0 l0_2 n0_1 n0_4 n := by funext x534 x535; exact ih x534 x535
  show f34_0_s c lf b0_3 l0_0 l0_2 n0_1 n0_4 (fun x534 x535 => lpK c env lf 6 fi34 5 3 [] [1, 3, 9, 10, 11] (x34_3_0) n (f34_0_c b0_3 l0_0 l0_2 n0_1 n0_4 x534 x535)) x534 x535 = _
  rw [e]; rfl
def f34_t (c : Orc) (lf : Nat) (lp0 : Bool → List T → List T → Int → Int → Int → Int → Option (List T)) (l0_0 : List T) (n0_1 : Int) (l0_2 : List T) (b0_3 : Bool) (n0_4 : Int) : Option (List T) :=
 (lp0 b0_3 l0_0 l0_2 n0_1 n0_4 0 0).bind fun r537 =>
 some [T.i .i64 (asI (nth r537 1))]
def f34 (c : Orc) (lf : Nat) (l0_0 : List T) (n0_1 : Int) (l0_2 : List T) (b0_3 : Bool) (n0_4 : Int) : Option (List T) := f34_t c lf (fun (b0_3 : Bool) (l0_0 l0_2 : List T) (n0_1 n0_4 : Int) (x534 x535 : Int) => f34_0 c lf b0_3 l0_0 l0_2 n0_1 n0_4 lf x534 x535) l0_0 n0_1 l0_2 b0_3 n0_4
theorem f34_raw (c : Orc) (lf : Nat) (l0_0 : List T) (n0_1 : Int) (l0_2 : List T) (b0_3 : Bool) (n0_4 : Int) : funK c env lf 6 fi34 [.st [.sl l0_0, .i .i64 n0_1, .sl l0_2, .b b0_3, .i .i64 n0_4]] = f34_t c lf (fun (b0_3 : Bool) (l0_0 l0_2 : List T) (n0_1 n0_4 : Int) (x534 x535 : Int) => lpK c env lf 6 fi34 5 3 [] [1, 3, 9, 10, 11] (x34_3_0) lf (f34_0_c b0_3 l0_0 l0_2 n0_1 n0_4 x534 x535)) l0_0 n0_1 l0_2 b0_3 n0_4 := by kernel_rfl
theorem f34_eq (c : Orc) (lf : Nat) (l0_0 : List T) (n0_1 : Int) (l0_2 : List T) (b0_3 : Bool) (n0_4 : Int) : funK c env lf 6 fi34 [.st [.sl l0_0, .i .i64 n0_1, .sl l0_2, .b b0_3, .i .i64 n0_4]] = f34 c lf l0_0 n0_1 l0_2 b0_3 n0_4 := by
 refine (f34_raw c lf l0_0 n0_1 l0_2 b0_3 n0_4).trans ?_
 have e0 : (fun (b0_3 : Bool) (l0_0 l0_2 : List T) (n0_1 n0_4 : Int) (x534 x535 : Int) => lpK c env lf 6 fi34 5 3 [] [1, 3, 9, 10, 11] (x34_3_0) lf (f34_0_c b0_3 l0_0 l0_2 n0_1 n0_4 x534 x535)) = (fun (b0_3 : Bool) (l0_0 l0_2 : List T) (n0_1 n0_4 : Int) (x534 x535 : Int) => f34_0 c lf b0_3 l0_0 l0_2 n0_1 n0_4 lf x534 x535) := by funext b0_3 l0_0 l0_2 n0_1 n0_4 x534 x535; exact f34_0_eq c lf b0_3 l0_0 l0_2 n0_1 n0_4 lf x534 x535
 rw [e0]; rfl
def f35_0_s (c : Orc) (lf : Nat) (b0_3 : Bool) (l0_0 l0_2 : List T) (n1 n0_1 n0_4 : Int) (L : Int → Int → Option (List T)) (x546 x545 : Int) : Option (List T) :=
 bif iLt x545 (l0_0.length : Int) then
  bif inR x545 l0_0.length then
  (c 38 [T.st [T.sl l0_0], T.i .i64 x545]).bind fun r547 =>
  bif asB (T.cell (l0_0.getD x545.toNat T.u) 2) then
   L x546 (IntKind.wrap .i64 (x545 + 1))
  else
   bif iLt 0 (asI (nth r547 0)) then
    bif iLt (asI (nth r547 0)) ((asL (T.cell (l0_0.getD x545.toNat T.u) 0)).length : Int) then
     some [T.i .i64 0, T.i .i64 x545]
    else
     bif (asI (nth r547 0)) == 0 then
      bif iLt x546 0 then
       L x545 (IntKind.wrap .i64 (x545 + 1))
      else
       L x546 (IntKind.wrap .i64 (x545 + 1))
     else
      L x546 (IntKind.wrap .i64 (x545 + 1))
   else
    bif (asI (nth r547 0)) == 0 then
     bif iLt x546 0 then
      L x545 (IntKind.wrap .i64 (x545 + 1))
     else
      L x546 (IntKind.wrap .i64 (x545 + 1))
    else
     L x546 (IntKind.wrap .i64 (x545 + 1))
  else none
 else
  some [T.i .i64 1, T.i .i64 n1, T.i .i64 x546, T.sl l0_0, T.i .i64 n0_1, T.sl l0_2, T.b b0_3, T.i .i64 n0_4]
def f35_0_c (b0_3 : Bool) (l0_0 l0_2 : List T) (n1 n0_1 : Int) (n0_4 x546 x545 : Int) : CSt := ⟨[.i .i64 n1, .bp 6 0, .i .i64 x546, .ro 0 true [.sl true [.b, .sl false [.i .u8]], .i .i64, .b] l0_0, .i .i64 (l0_0.length : Int), .i .i64 x545], [.dead, .dead, .dead, .dead, .dead, .dead, .box [.ro 0 true [.sl true [.b, .sl false [.i .u8]], .i .i64, .b] l0_0, .i .i64 n0_1, .ro 0 true [.i .i64, .i .i64, .i .i64] l0_2, .b b0_3, .i .i64 n0_4]]⟩
theorem f35_0_round (c : Orc) (lf : Nat) (b0_3 : Bool) (l0_0 l0_2 : List T) (n1 n0_1 n0_4 : Int) (L : CSt → Option (List T)) (x546 x545 : Int) :
 roundK c env lf 6 fi35 6 3 [] [1, 2, 5, 12, 13, 14] (x35_3_0) L (f35_0_c b0_3 l0_0 l0_2 n1 n0_1 n0_4 x546 x545) = f35_0_s c lf b0_3 l0_0 l0_2 n1 n0_1 n0_4 (fun x546 x545 => L (f35_0_c b0_3 l0_0 l0_2 n1 n0_1 n0_4 x546 x545)) x546 x545 := by kernel_rfl
def f35_0 (c : Orc) (lf : Nat) (b0_3 : Bool) (l0_0 l0_2 : List T) (n1 n0_1 n0_4 : Int) : Nat → Int → Int → Option (List T)
 | 0 => fun _ _ => none
 | n + 1 => fun x546 x545 => f35_0_s c lf b0_3 l0_0 l0_2 n1 n0_1 n0_4 (f35_0 c lf b0_3 l0_0 l0_2 n1 n0_1 n0_4 n) x546 x545
theorem f35_0_u (c : Orc) (lf : Nat) (b0_3 : Bool) (l0_0 l0_2 : List T) (n1 n0_1 n0_4 : Int) (n : Nat) (x546 x545 : Int) : f35_0 c lf b0_3 l0_0 l0_2 n1 n0_1 n0_4 (n + 1) x546 x545 = f35_0_s c lf b0_3 l0_0 l0_2 n1 n0_1 n0_4 (f35_0 c lf b0_3 l0_0 l0_2 n1 n0_1 n0_4 n) x546 x545 := rfl
theorem f35_0_eq (c : Orc) (lf : Nat) (b0_3 : Bool) (l0_0 l0_2 : List T) (n1 n0_1 n0_4 : Int) (n : Nat) (x546 x545 : Int) :
 lpK c env lf 6 fi35 6 3 [] [1, 2, 5, 12, 13, 14] (x35_3_0) n (f35_0_c b0_3 l0_0 l0_2 n1 n0_1 n0_4 x546 x545) = f35_0 c lf b0_3 l0_0 l0_2 n1 n0_1 n0_4 n x546 x545 := by
 induction n generalizing x546 x545 with
 | zero => rfl
 | succ n ih =>
  refine (f35_0_round c lf b0_3 l0_0 l0_2 n1 n0_1 n0_4 _ x546 x545).trans ?_
  have e : (fun x546 x545 => lpK c env lf 6 fi35 6 3 [] [1, 2, 5, 12, 13, 14] (x35_3_0) n (f35_0_c b0_3 l0_0 l0_2 n1 n0_1 n0_4 x546 x545)) = f35_0 c lf b0_3 l0_0 l0_2 n1 n0_1 n0_4 n := by funext x546 x545; exact ih x546 x545
  show f35_0_s c lf b0_3 l0_0 l0_2 n1 n0_1 n0_4 (fun x546 x545 => lpK c env lf 6 fi35 6 3 [] [1, 2, 5, 12, 13, 14] (x35_3_0) n (f35_0_c b0_3 l0_0 l0_2 n1 n0_1 n0_4 x546 x545)) x546 x545 = _
  rw [e]; rfl
def f35_t (c : Orc) (lf : Nat) (lp0 : Bool → List T → List T → Int → Int → Int → Int → Int → Option (List T)) (l0_0 : List T) (n0_1 : Int) (l0_2 : List T) (b0_3 : Bool) (n0_4 n1 : Int) : Option (List T) :=
 (lp0 b0_3 l0_0 l0_2 n1 n0_1 n0_4 (-1) 0).bind fun r548 =>
 bif asI (nth r548 0) == 0 then
  some [T.i .i64 (asI (nth r548 1))]
 else
  (c 34 [T.st [T.sl (asL (nth r548 3)), T.i .i64 (asI (nth r548 4)), T.sl (asL (nth r548 5)), T.b (asB (nth r548 6)), T.i .i64 (asI (nth r548 7))]]).bind fun r549 =>
  bif iLt (asI (nth r548 1)) (asI (nth r549 0)) then
   some [T.i .i64 (asI (nth r548 2))]
  else
   some [T.i .i64 (-1)]
def f35 (c : Orc) (lf : Nat) (l0_0 : List T) (n0_1 : Int) (l0_2 : List T) (b0_3 : Bool) (n0_4 n1 : Int) : Option (List T) := f35_t c lf (fun (b0_3 : Bool) (l0_0 l0_2 : List T) (n1 n0_1 : Int) (n0_4 x546 x545 : Int) => f35_0 c lf b0_3 l0_0 l0_2 n1 n0_1 n0_4 lf x546 x545) l0_0 n0_1 l0_2 b0_3 n0_4 n1
theorem f35_raw (c : Orc) (lf : Nat) (l0_0 : List T) (n0_1 : Int) (l0_2 : List T) (b0_3 : Bool) (n0_4 n1 : Int) : funK c env lf 6 fi35 [.st [.sl l0_0, .i .i64 n0_1, .sl l0_2, .b b0_3, .i .i64 n0_4], .i .i64 n1] = f35_t c lf (fun (b0_3 : Bool) (l0_0 l0_2 : List T) (n1 n0_1 : Int) (n0_4 x546 x545 : Int) => lpK c env lf 6 fi35 6 3 [] [1, 2, 5, 12, 13, 14] (x35_3_0) lf (f35_0_c b0_3 l0_0 l0_2 n1 n0_1 n0_4 x546 x545)) l0_0 n0_1 l0_2 b0_3 n0_4 n1 := by kernel_rfl
theorem f35_eq (c : Orc) (lf : Nat) (l0_0 : List T) (n0_1 : Int) (l0_2 : List T) (b0_3 : Bool) (n0_4 n1 : Int) : funK c env lf 6 fi35 [.st [.sl l0_0, .i .i64 n0_1, .sl l0_2, .b b0_3, .i .i64 n0_4], .i .i64 n1] = f35 c lf l0_0 n0_1 l0_2 b0_3 n0_4 n1 := by
 refine (f35_raw c lf l0_0 n0_1 l0_2 b0_3 n0_4 n1).trans ?_
 have e0 : (fun (b0_3 : Bool) (l0_0 l0_2 : List T) (n1 n0_1 : Int) (n0_4 x546 x545 : Int) => lpK c env lf 6 fi35 6 3 [] [1, 2, 5, 12, 13, 14] (x35_3_0) lf (f35_0_c b0_3 l0_0 l0_2 n1 n0_1 n0_4 x546 x545)) = (fun (b0_3 : Bool) (l0_0 l0_2 : List T) (n1 n0_1 : Int) (n0_4 x546 x545 : Int) => f35_0 c lf b0_3 l0_0 l0_2 n1 n0_1 n0_4 lf x546 x545) := by funext b0_3 l0_0 l0_2 n1 n0_1 n0_4 x546 x545; exact f35_0_eq c lf b0_3 l0_0 l0_2 n1 n0_1 n0_4 lf x546 x545
 rw [e0]; rfl
def f93_0_s (c : Orc) (lf : Nat) (L : Int → List T → Option (List T)) (x555 : Int) (x556 : List T) : Option (List T) :=
 bif iLe 128 x555 then
  bif nLe (x556.length + ([T.i .u8 (IntKind.wrap .u8 (IntKind.wrap .i64 ((x555.tmod 128) + 128)))] : List T).length) LIM then
  L (IntKind.wrap .i64 (x555.tdiv 128)) (x556 ++ ([T.i .u8 (IntKind.wrap .u8 (IntKind.wrap .i64 ((x555.tmod 128) + 128)))] : List T))
  else none
 else
  some [T.i .i64 0, T.i .i64 x555, T.sl x556]
def f93_0_c (x555 : Int) (x556 : List T) : CSt := ⟨[.i .i64 x555, .rf 2 [] 0 none], [.dead, .dead, .row false [.i .u8] x556 0 false]⟩
theorem f93_0_round (c : Orc) (lf : Nat) (L : CSt → Option (List T)) (x555 : Int) (x556 : List T) :
 roundK c env lf 6 fi93 2 3 [] [1, 5] (x93_3_0) L (f93_0_c x555 x556) = f93_0_s c lf (fun x555 x556 => L (f93_0_c x555 x556)) x555 x556 := by kernel_rfl
def f93_0 (c : Orc) (lf : Nat) : Nat → Int → List T → Option (List T)
 | 0 => fun _ _ => none
 | n + 1 => fun x555 x556 => f93_0_s c lf (f93_0 c lf n) x555 x556
theorem f93_0_u (c : Orc) (lf n : Nat) (x555 : Int) (x556 : List T) : f93_0 c lf (n + 1) x555 x556 = f93_0_s c lf (f93_0 c lf n) x555 x556 := rfl
theorem f93_0_eq (c : Orc) (lf n : Nat) (x555 : Int) (x556 : List T) :
 lpK c env lf 6 fi93 2 3 [] [1, 5] (x93_3_0) n (f93_0_c x555 x556) = f93_0 c lf n x555 x556 := by
 induction n generalizing x555 x556 with
 | zero => rfl
 | succ n ih =>
  refine (f93_0_round c lf _ x555 x556).trans ?_
  have e : (fun x555 x556 => lpK c env lf 6 fi93 2 3 [] [1, 5] (x93_3_0) n (f93_0_c x555 x556)) = f93_0 c lf n := by funext x555 x556; exact ih x555 x556
  show f93_0_s c lf (fun x555 x556 => lpK c env lf 6 fi93 2 3 [] [1, 5] (x93_3_0) n (f93_0_c x555 x556)) x555 x556 = _
  rw [e]; rfl
def f93_t (c : Orc) (lf : Nat) (lp0 : Int → List T → Option (List T)) (l0 : List T) (n1 : Int) : Option (List T) :=
 (c 147 [T.sl l0]).bind fun r554 =>
 (lp0 (imax 0 (imin n1 1000000)) (asL (nth r554 0))).bind fun r557 =>
 bif nLe ((asL (nth r557 2)).length + ([T.i .u8 (IntKind.wrap .u8 (asI (nth r557 1)))] : List T).length) LIM then
 some [T.sl ((asL (nth r557 2)) ++ ([T.i .u8 (IntKind.wrap .u8 (asI (nth r557 1)))] : List T))]
 else none
def f93 (c : Orc) (lf : Nat) (l0 : List T) (n1 : Int) : Option (List T) := f93_t c lf (fun (x555 : Int) (x556 : List T) => f93_0 c lf lf x555 x556) l0 n1
theorem f93_raw (c : Orc) (lf : Nat) (l0 : List T) (n1 : Int) : funK c env lf 6 fi93 [.sl l0, .i .i64 n1] = f93_t c lf (fun (x555 : Int) (x556 : List T) => lpK c env lf 6 fi93 2 3 [] [1, 5] (x93_3_0) lf (f93_0_c x555 x556)) l0 n1 := by kernel_rfl
theorem f93_eq (c : Orc) (lf : Nat) (l0 : List T) (n1 : Int) : funK c env lf 6 fi93 [.sl l0, .i .i64 n1] = f93 c lf l0 n1 := by
 refine (f93_raw c lf l0 n1).trans ?_
 have e0 : (fun (x555 : Int) (x556 : List T) => lpK c env lf 6 fi93 2 3 [] [1, 5] (x93_3_0) lf (f93_0_c x555 x556)) = (fun (x555 : Int) (x556 : List T) => f93_0 c lf lf x555 x556) := by funext x555 x556; exact f93_0_eq c lf lf x555 x556
 rw [e0]; rfl
def f92_t (c : Orc) (lf : Nat) (l0 : List T) (s1 : ByteArray) : Option (List T) :=
 (c 93 [T.sl l0, T.i .i64 (s1.size : Int)]).bind fun r558 =>
 bif nLe ((asL (nth r558 0)).length + (listOf s1).length) LIM then
 some [T.sl ((asL (nth r558 0)) ++ (listOf s1))]
 else none
def f92 (c : Orc) (lf : Nat) (l0 : List T) (s1 : ByteArray) : Option (List T) := f92_t c lf l0 s1
theorem f92_eq (c : Orc) (lf : Nat) (l0 : List T) (s1 : ByteArray) : funK c env lf 6 fi92 [.sl l0, .s s1] = f92 c lf l0 s1 := by kernel_rfl
def f146_1_s (c : Orc) (lf : Nat) (x574 : List T) (x575 x576 : Int) (L : Int → Int → Option (List T)) (x577 x578 : Int) : Option (List T) :=
 bif iLt x578 8 then
  bif (intBits .and .u32 x577 1) == 1 then
   L (intBits .xor .u32 (shiftI .shr .u32 x577 1) 2197175160) (IntKind.wrap .i64 (x578 + 1))
  else
   L (shiftI .shr .u32 x577 1) (IntKind.wrap .i64 (x578 + 1))
 else
  some [T.i .i64 0, T.i .u32 x577, T.sl x574, T.i .i64 x575, T.i .i64 x576]
def f146_1_c (x574 : List T) (x575 x576 : Int) (x577 x578 : Int) : CSt := ⟨[.i .u32 x577, .ro 0 false [.i .u8] x574, .i .i64 x575, .i .i64 x576, .i .i64 x578], [.dead]⟩
theorem f146_1_round (c : Orc) (lf : Nat) (x574 : List T) (x575 x576 : Int) (L : CSt → Option (List T)) (x577 x578 : Int) :
 roundK c env lf 6 fi146 1 7 [] [3, 7, 8, 9, 17] (x146_7_0) L (f146_1_c x574 x575 x576 x577 x578) = f146_1_s c lf x574 x575 x576 (fun x577 x578 => L (f146_1_c x574 x575 x576 x577 x578)) x577 x578 := by kernel_rfl
def f146_1 (c : Orc) (lf : Nat) (x574 : List T) (x575 x576 : Int) : Nat → Int → Int → Option (List T)
 | 0 => fun _ _ => none
 | n + 1 => fun x577 x578 => f146_1_s c lf x574 x575 x576 (f146_1 c lf x574 x575 x576 n) x577 x578
theorem f146_1_u (c : Orc) (lf : Nat) (x574 : List T) (x575 x576 : Int) (n : Nat) (x577 x578 : Int) : f146_1 c lf x574 x575 x576 (n + 1) x577 x578 = f146_1_s c lf x574 x575 x576 (f146_1 c lf x574 x575 x576 n) x577 x578 := rfl
theorem f146_1_eq (c : Orc) (lf : Nat) (x574 : List T) (x575 x576 : Int) (n : Nat) (x577 x578 : Int) :
 lpK c env lf 6 fi146 1 7 [] [3, 7, 8, 9, 17] (x146_7_0) n (f146_1_c x574 x575 x576 x577 x578) = f146_1 c lf x574 x575 x576 n x577 x578 := by
 induction n generalizing x577 x578 with
 | zero => rfl
 | succ n ih =>
  refine (f146_1_round c lf x574 x575 x576 _ x577 x578).trans ?_
  have e : (fun x577 x578 => lpK c env lf 6 fi146 1 7 [] [3, 7, 8, 9, 17] (x146_7_0) n (f146_1_c x574 x575 x576 x577 x578)) = f146_1 c lf x574 x575 x576 n := by funext x577 x578; exact ih x577 x578
  show f146_1_s c lf x574 x575 x576 (fun x577 x578 => lpK c env lf 6 fi146 1 7 [] [3, 7, 8, 9, 17] (x146_7_0) n (f146_1_c x574 x575 x576 x577 x578)) x577 x578 = _
  rw [e]; rfl
def f146_0_s (c : Orc) (lf : Nat) (L : Int → List T → Int → Int → Option (List T)) (lp0 : List T → Int → Int → Int → Int → Option (List T)) (x573 : Int) (x574 : List T) (x575 x576 : Int) : Option (List T) :=
 bif iLt x576 x575 then
  bif inR x576 x574.length then
  (lp0 x574 x575 x576 (intBits .xor .u32 x573 (IntKind.wrap .u32 (asI (x574.getD x576.toNat T.u)))) 0).bind fun r579 =>
  L (asI (nth r579 1)) (asL (nth r579 2)) (asI (nth r579 3)) (IntKind.wrap .i64 ((asI (nth r579 4)) + 1))
  else none
 else
  some [T.i .i64 0, T.i .u32 x573]
def f146_0_c (x573 : Int) (x574 : List T) (x575 x576 : Int) : CSt := ⟨[.i .u32 x573, .ro 0 false [.i .u8] x574, .i .i64 x575, .i .i64 x576], [.dead]⟩
theorem f146_0_round (c : Orc) (lf : Nat) (L : CSt → Option (List T)) (x573 : Int) (x574 : List T) (x575 x576 : Int) :
 roundK c env lf 6 fi146 1 3 [] [3, 7, 8, 9] (x146_3_0) L (f146_0_c x573 x574 x575 x576) = f146_0_s c lf (fun x573 x574 x575 x576 => L (f146_0_c x573 x574 x575 x576)) (fun (x574 : List T) (x575 x576 : Int) (x577 x578 : Int) => lpK c env lf 6 fi146 1 7 [] [3, 7, 8, 9, 17] (x146_7_0) lf (f146_1_c x574 x575 x576 x577 x578)) x573 x574 x575 x576 := by kernel_rfl
def f146_0 (c : Orc) (lf : Nat) : Nat → Int → List T → Int → Int → Option (List T)
 | 0 => fun _ _ _ _ => none
 | n + 1 => fun x573 x574 x575 x576 => f146_0_s c lf (f146_0 c lf n) (fun (x574 : List T) (x575 x576 : Int) (x577 x578 : Int) => f146_1 c lf x574 x575 x576 lf x577 x578) x573 x574 x575 x576
theorem f146_0_u (c : Orc) (lf n : Nat) (x573 : Int) (x574 : List T) (x575 x576 : Int) : f146_0 c lf (n + 1) x573 x574 x575 x576 = f146_0_s c lf (f146_0 c lf n) (fun (x574 : List T) (x575 x576 : Int) (x577 x578 : Int) => f146_1 c lf x574 x575 x576 lf x577 x578) x573 x574 x575 x576 := rfl
theorem f146_0_eq (c : Orc) (lf n : Nat) (x573 : Int) (x574 : List T) (x575 x576 : Int) :
 lpK c env lf 6 fi146 1 3 [] [3, 7, 8, 9] (x146_3_0) n (f146_0_c x573 x574 x575 x576) = f146_0 c lf n x573 x574 x575 x576 := by
 induction n generalizing x573 x574 x575 x576 with
 | zero => rfl
 | succ n ih =>
  refine (f146_0_round c lf _ x573 x574 x575 x576).trans ?_
  have e : (fun x573 x574 x575 x576 => lpK c env lf 6 fi146 1 3 [] [3, 7, 8, 9] (x146_3_0) n (f146_0_c x573 x574 x575 x576)) = f146_0 c lf n := by funext x573 x574 x575 x576; exact ih x573 x574 x575 x576
  have e0 : (fun (x574 : List T) (x575 x576 : Int) (x577 x578 : Int) => lpK c env lf 6 fi146 1 7 [] [3, 7, 8, 9, 17] (x146_7_0) lf (f146_1_c x574 x575 x576 x577 x578)) = (fun (x574 : List T) (x575 x576 : Int) (x577 x578 : Int) => f146_1 c lf x574 x575 x576 lf x577 x578) := by funext x574 x575 x576 x577 x578; exact f146_1_eq c lf x574 x575 x576 lf x577 x578
  show f146_0_s c lf (fun x573 x574 x575 x576 => lpK c env lf 6 fi146 1 3 [] [3, 7, 8, 9] (x146_3_0) n (f146_0_c x573 x574 x575 x576)) (fun (x574 : List T) (x575 x576 : Int) (x577 x578 : Int) => lpK c env lf 6 fi146 1 7 [] [3, 7, 8, 9, 17] (x146_7_0) lf (f146_1_c x574 x575 x576 x577 x578)) x573 x574 x575 x576 = _
  rw [e, e0]; rfl
def f146_t (c : Orc) (lf : Nat) (lp0 : Int → List T → Int → Int → Option (List T)) (l0 : List T) : Option (List T) :=
 (lp0 4294967295 l0 (l0.length : Int) 0).bind fun r580 =>
 some [T.i .i64 (IntKind.wrap .i64 (intBits .xor .u32 4294967295 (asI (nth r580 1))))]
def f146 (c : Orc) (lf : Nat) (l0 : List T) : Option (List T) := f146_t c lf (fun (x573 : Int) (x574 : List T) (x575 x576 : Int) => f146_0 c lf lf x573 x574 x575 x576) l0
theorem f146_raw (c : Orc) (lf : Nat) (l0 : List T) : funK c env lf 6 fi146 [.sl l0] = f146_t c lf (fun (x573 : Int) (x574 : List T) (x575 x576 : Int) => lpK c env lf 6 fi146 1 3 [] [3, 7, 8, 9] (x146_3_0) lf (f146_0_c x573 x574 x575 x576)) l0 := by kernel_rfl
theorem f146_eq (c : Orc) (lf : Nat) (l0 : List T) : funK c env lf 6 fi146 [.sl l0] = f146 c lf l0 := by
 refine (f146_raw c lf l0).trans ?_
 have e0 : (fun (x573 : Int) (x574 : List T) (x575 x576 : Int) => lpK c env lf 6 fi146 1 3 [] [3, 7, 8, 9] (x146_3_0) lf (f146_0_c x573 x574 x575 x576)) = (fun (x573 : Int) (x574 : List T) (x575 x576 : Int) => f146_0 c lf lf x573 x574 x575 x576) := by funext x573 x574 x575 x576; exact f146_0_eq c lf lf x573 x574 x575 x576
 rw [e0]; rfl
def f91_t (c : Orc) (lf : Nat) (l0 : List T) : Option (List T) :=
 (c 146 [T.sl l0]).bind fun r581 =>
 (c 147 [T.sl l0]).bind fun r582 =>
 bif nLe ((asL (nth r582 0)).length + ([T.i .u8 (IntKind.wrap .u8 (shiftI .shr .i64 (asI (nth r581 0)) 24)), T.i .u8 (IntKind.wrap .u8 (shiftI .shr .i64 (asI (nth r581 0)) 16)), T.i .u8 (IntKind.wrap .u8 (shiftI .shr .i64 (asI (nth r581 0)) 8)), T.i .u8 (IntKind.wrap .u8 (asI (nth r581 0)))] : List T).length) LIM then
 some [T.sl ((asL (nth r582 0)) ++ ([T.i .u8 (IntKind.wrap .u8 (shiftI .shr .i64 (asI (nth r581 0)) 24)), T.i .u8 (IntKind.wrap .u8 (shiftI .shr .i64 (asI (nth r581 0)) 16)), T.i .u8 (IntKind.wrap .u8 (shiftI .shr .i64 (asI (nth r581 0)) 8)), T.i .u8 (IntKind.wrap .u8 (asI (nth r581 0)))] : List T))]
 else none
def f91 (c : Orc) (lf : Nat) (l0 : List T) : Option (List T) := f91_t c lf l0
theorem f91_eq (c : Orc) (lf : Nat) (l0 : List T) : funK c env lf 6 fi91 [.sl l0] = f91 c lf l0 := by kernel_rfl
def f37_t (c : Orc) (lf : Nat) (n0_0 n0_1 : Int) (l0_2 : List T) : Option (List T) :=
 (c 89 [T.st [T.i .i64 n0_0, T.i .i64 n0_1, T.sl l0_2]]).bind fun r583 =>
 bif !(asB (nth r583 0)) then
  some [T.sl []]
 else
  (c 93 [T.sl ([] : List T), T.i .i64 n0_0]).bind fun r584 =>
  (c 93 [T.sl (asL (nth r584 0)), T.i .i64 n0_1]).bind fun r585 =>
  (c 92 [T.sl (asL (nth r585 0)), T.s (bytesOf l0_2)]).bind fun r586 =>
  (c 91 [T.sl (asL (nth r586 0))]).bind fun r587 =>
  some [T.sl (asL (nth r587 0))]
def f37 (c : Orc) (lf : Nat) (n0_0 n0_1 : Int) (l0_2 : List T) : Option (List T) := f37_t c lf n0_0 n0_1 l0_2
theorem f37_eq (c : Orc) (lf : Nat) (n0_0 n0_1 : Int) (l0_2 : List T) : funK c env lf 6 fi37 [.st [.i .i64 n0_0, .i .i64 n0_1, .sl l0_2]] = f37 c lf n0_0 n0_1 l0_2 := by kernel_rfl
def f143_t (c : Orc) (lf : Nat) (l0_0 : List T) (n1 : Int) (l2 : List T) : Option (List T) :=
 (c 141 [T.st [T.sl l0_0]]).bind fun r588 =>
 (c 128 [T.st [T.sl (asL (T.cell (nth r588 0) 0))]]).bind fun r589 =>
 bif !(asB (nth r589 0)) then
  some [T.st [T.sl (asL (T.cell (nth r588 0) 0))], T.i .i64 1]
 else
  (c 94 [T.st [T.sl (asL (T.cell (nth r588 0) 0))], T.i .i64 n1]).bind fun r590 =>
  bif !(asB (nth r590 0)) then
   some [T.st [T.sl (asL (T.cell (nth r588 0) 0))], T.i .i64 1]
  else
   bif iLt 400 (l2.length : Int) then
    some [T.st [T.sl (asL (T.cell (nth r588 0) 0))], T.i .i64 1]
   else
    (c 38 [T.st [T.sl (asL (T.cell (nth r588 0) 0))], T.i .i64 n1]).bind fun r591 =>
    bif inR n1 ((asL (T.cell (nth r588 0) 0)).length) then
    bif asB (T.cell ((asL (T.cell (nth r588 0) 0)).getD n1.toNat T.u) 2) then
     some [T.st [T.sl (asL (T.cell (nth r588 0) 0))], T.i .i64 2]
    else
     bif (asI (nth r591 0)) == 8 then
      some [T.st [T.sl (asL (T.cell (nth r588 0) 0))], T.i .i64 5]
     else
      bif inR n1 ((asL (T.cell (nth r588 0) 0)).length) then
      (c 147 [T.sl l2]).bind fun r592 =>
      bif inR (asI (nth r591 0)) ((asL (T.cell ((asL (T.cell (nth r588 0) 0)).getD n1.toNat T.u) 0)).length) then
      some [T.st [T.sl ((asL (T.cell (nth r588 0) 0)).set n1.toNat (T.setc ((asL (T.cell (nth r588 0) 0)).getD n1.toNat T.u) 0 (T.sl ((asL (T.cell ((asL (T.cell (nth r588 0) 0)).getD n1.toNat T.u) 0)).set ((asI (nth r591 0)).toNat) (T.st [T.b true, T.sl (asL (nth r592 0))])))))], T.i .i64 0]
      else none
      else none
    else none
def f143 (c : Orc) (lf : Nat) (l0_0 : List T) (n1 : Int) (l2 : List T) : Option (List T) := f143_t c lf l0_0 n1 l2
theorem f143_eq (c : Orc) (lf : Nat) (l0_0 : List T) (n1 : Int) (l2 : List T) : funK c env lf 6 fi143 [.st [.sl l0_0], .i .i64 n1, .sl l2] = f143 c lf l0_0 n1 l2 := by kernel_rfl
def f189_0_s (c : Orc) (lf : Nat) (b0_3 : Bool) (l0_0 l0_2 : List T) (n0_1 : Int) (L : Int → Option (List T)) (x595 : Int) : Option (List T) :=
 bif iLt x595 (l0_2.length : Int) then
  bif inR x595 l0_2.length then
  bif (asI (T.cell (l0_2.getD x595.toNat T.u) 0)) == n0_1 then
   some [T.i .i64 0, T.b true, T.i .i64 (asI (T.cell (l0_2.getD x595.toNat T.u) 0)), T.i .i64 (asI (T.cell (l0_2.getD x595.toNat T.u) 1)), T.i .i64 (asI (T.cell (l0_2.getD x595.toNat T.u) 2))]
  else
   L (IntKind.wrap .i64 (x595 + 1))
  else none
 else
  some [T.i .i64 1, T.i .i64 0, T.i .i64 0, T.i .i64 0]
def f189_0_c (b0_3 : Bool) (l0_0 l0_2 : List T) (n0_1 x595 : Int) : CSt := ⟨[.bp 4 0, .bp 5 0, .ro 0 true [.i .i64, .i .i64, .i .i64] l0_2, .i .i64 (l0_2.length : Int), .i .i64 x595], [.dead, .dead, .dead, .dead, .box [.ro 0 true [.sl true [.b, .sl false [.i .u8]], .i .i64, .b] l0_0, .i .i64 n0_1, .ro 0 true [.i .i64, .i .i64, .i .i64] l0_2, .b b0_3], .box [.i .i64 0, .i .i64 0, .i .i64 0]]⟩
theorem f189_0_round (c : Orc) (lf : Nat) (b0_3 : Bool) (l0_0 l0_2 : List T) (n0_1 : Int) (L : CSt → Option (List T)) (x595 : Int) :
 roundK c env lf 6 fi189 4 2 [] [1, 2, 7, 8, 9] (x189_2_0) L (f189_0_c b0_3 l0_0 l0_2 n0_1 x595) = f189_0_s c lf b0_3 l0_0 l0_2 n0_1 (fun x595 => L (f189_0_c b0_3 l0_0 l0_2 n0_1 x595)) x595 := by kernel_rfl
def f189_0 (c : Orc) (lf : Nat) (b0_3 : Bool) (l0_0 l0_2 : List T) (n0_1 : Int) : Nat → Int → Option (List T)
 | 0 => fun _ => none
 | n + 1 => fun x595 => f189_0_s c lf b0_3 l0_0 l0_2 n0_1 (f189_0 c lf b0_3 l0_0 l0_2 n0_1 n) x595
theorem f189_0_u (c : Orc) (lf : Nat) (b0_3 : Bool) (l0_0 l0_2 : List T) (n0_1 : Int) (n : Nat) (x595 : Int) : f189_0 c lf b0_3 l0_0 l0_2 n0_1 (n + 1) x595 = f189_0_s c lf b0_3 l0_0 l0_2 n0_1 (f189_0 c lf b0_3 l0_0 l0_2 n0_1 n) x595 := rfl
theorem f189_0_eq (c : Orc) (lf : Nat) (b0_3 : Bool) (l0_0 l0_2 : List T) (n0_1 : Int) (n : Nat) (x595 : Int) :
 lpK c env lf 6 fi189 4 2 [] [1, 2, 7, 8, 9] (x189_2_0) n (f189_0_c b0_3 l0_0 l0_2 n0_1 x595) = f189_0 c lf b0_3 l0_0 l0_2 n0_1 n x595 := by
 induction n generalizing x595 with
 | zero => rfl
 | succ n ih =>
  refine (f189_0_round c lf b0_3 l0_0 l0_2 n0_1 _ x595).trans ?_
  have e : (fun x595 => lpK c env lf 6 fi189 4 2 [] [1, 2, 7, 8, 9] (x189_2_0) n (f189_0_c b0_3 l0_0 l0_2 n0_1 x595)) = f189_0 c lf b0_3 l0_0 l0_2 n0_1 n := by funext x595; exact ih x595
  show f189_0_s c lf b0_3 l0_0 l0_2 n0_1 (fun x595 => lpK c env lf 6 fi189 4 2 [] [1, 2, 7, 8, 9] (x189_2_0) n (f189_0_c b0_3 l0_0 l0_2 n0_1 x595)) x595 = _
  rw [e]; rfl
def f189_t (c : Orc) (lf : Nat) (lp0 : Bool → List T → List T → Int → Int → Option (List T)) (l0_0 : List T) (n0_1 : Int) (l0_2 : List T) (b0_3 : Bool) : Option (List T) :=
 (lp0 b0_3 l0_0 l0_2 n0_1 0).bind fun r596 =>
 bif asI (nth r596 0) == 0 then
  some [T.st [T.i .i64 (asI (nth r596 2)), T.i .i64 (asI (nth r596 3)), T.i .i64 (asI (nth r596 4))], T.b (asB (nth r596 1))]
 else
  some [T.st [T.i .i64 0, T.i .i64 0, T.i .i64 0], T.b false]
def f189 (c : Orc) (lf : Nat) (l0_0 : List T) (n0_1 : Int) (l0_2 : List T) (b0_3 : Bool) : Option (List T) := f189_t c lf (fun (b0_3 : Bool) (l0_0 l0_2 : List T) (n0_1 x595 : Int) => f189_0 c lf b0_3 l0_0 l0_2 n0_1 lf x595) l0_0 n0_1 l0_2 b0_3
theorem f189_raw (c : Orc) (lf : Nat) (l0_0 : List T) (n0_1 : Int) (l0_2 : List T) (b0_3 : Bool) : funK c env lf 6 fi189 [.st [.sl l0_0, .i .i64 n0_1, .sl l0_2, .b b0_3]] = f189_t c lf (fun (b0_3 : Bool) (l0_0 l0_2 : List T) (n0_1 x595 : Int) => lpK c env lf 6 fi189 4 2 [] [1, 2, 7, 8, 9] (x189_2_0) lf (f189_0_c b0_3 l0_0 l0_2 n0_1 x595)) l0_0 n0_1 l0_2 b0_3 := by kernel_rfl
theorem f189_eq (c : Orc) (lf : Nat) (l0_0 : List T) (n0_1 : Int) (l0_2 : List T) (b0_3 : Bool) : funK c env lf 6 fi189 [.st [.sl l0_0, .i .i64 n0_1, .sl l0_2, .b b0_3]] = f189 c lf l0_0 n0_1 l0_2 b0_3 := by
 refine (f189_raw c lf l0_0 n0_1 l0_2 b0_3).trans ?_
 have e0 : (fun (b0_3 : Bool) (l0_0 l0_2 : List T) (n0_1 x595 : Int) => lpK c env lf 6 fi189 4 2 [] [1, 2, 7, 8, 9] (x189_2_0) lf (f189_0_c b0_3 l0_0 l0_2 n0_1 x595)) = (fun (b0_3 : Bool) (l0_0 l0_2 : List T) (n0_1 x595 : Int) => f189_0 c lf b0_3 l0_0 l0_2 n0_1 lf x595) := by funext b0_3 l0_0 l0_2 n0_1 x595; exact f189_0_eq c lf b0_3 l0_0 l0_2 n0_1 lf x595
 rw [e0]; rfl
def f90_t (c : Orc) (lf : Nat) (l0_0 : List T) (n0_1 : Int) (l0_2 : List T) (b0_3 : Bool) (n1 : Int) (l2 : List T) : Option (List T) :=
 (c 87 [T.st [T.sl l0_0, T.i .i64 n0_1, T.sl l0_2, T.b b0_3]]).bind fun r597 =>
 (c 74 [T.st [T.sl (asL (T.cell (nth r597 0) 0)), T.i .i64 (asI (T.cell (nth r597 0) 1)), T.sl (asL (T.cell (nth r597 0) 2)), T.b (asB (T.cell (nth r597 0) 3))]]).bind fun r598 =>
 bif !(asB (nth r598 0)) then
  some [T.st [T.sl (asL (T.cell (nth r597 0) 0)), T.i .i64 (asI (T.cell (nth r597 0) 1)), T.sl (asL (T.cell (nth r597 0) 2)), T.b (asB (T.cell (nth r597 0) 3))], T.i .i64 1]
 else
  bif asB (T.cell (nth r597 0) 3) then
   some [T.st [T.sl (asL (T.cell (nth r597 0) 0)), T.i .i64 (asI (T.cell (nth r597 0) 1)), T.sl (asL (T.cell (nth r597 0) 2)), T.b (asB (T.cell (nth r597 0) 3))], T.i .i64 10]
  else
   bif (asI (T.cell (nth r597 0) 1)) == 100000 then
    some [T.st [T.sl (asL (T.cell (nth r597 0) 0)), T.i .i64 (asI (T.cell (nth r597 0) 1)), T.sl (asL (T.cell (nth r597 0) 2)), T.b (asB (T.cell (nth r597 0) 3))], T.i .i64 10]
   else
    (c 143 [T.st [T.sl (asL (T.cell (nth r597 0) 0))], T.i .i64 n1, T.sl l2]).bind fun r599 =>
    bif (asI (nth r599 1)) != 0 then
     some [T.st [T.sl (asL (T.cell (nth r597 0) 0)), T.i .i64 (asI (T.cell (nth r597 0) 1)), T.sl (asL (T.cell (nth r597 0) 2)), T.b (asB (T.cell (nth r597 0) 3))], T.i .i64 (asI (nth r599 1))]
    else
     (c 189 [T.st [T.sl (asL (T.cell (nth r597 0) 0)), T.i .i64 (asI (T.cell (nth r597 0) 1)), T.sl (asL (T.cell (nth r597 0) 2)), T.b (asB (T.cell (nth r597 0) 3))]]).bind fun r600 =>
     bif !(asB (nth r600 1)) then
      some [T.st [T.sl (asL (T.cell (nth r599 0) 0)), T.i .i64 (IntKind.wrap .i64 ((asI (T.cell (nth r597 0) 1)) + 1)), T.sl (asL (T.cell (nth r597 0) 2)), T.b (asB (T.cell (nth r597 0) 3))], T.i .i64 0]
     else
      bif (asI (T.cell (nth r600 0) 1)) == 1 then
       bif inR n1 ((asL (T.cell (nth r597 0) 0)).length) then
       some [T.st [T.sl ((asL (T.cell (nth r597 0) 0)).set n1.toNat (T.setc ((asL (T.cell (nth r597 0) 0)).getD n1.toNat T.u) 2 (T.b true))), T.i .i64 (IntKind.wrap .i64 ((asI (T.cell (nth r597 0) 1)) + 1)), T.sl (asL (T.cell (nth r597 0) 2)), T.b (asB (T.cell (nth r597 0) 3))], T.i .i64 2]
       else none
      else
       bif iLe 0 (imin (asI (T.cell (nth r600 0) 2)) (l2.length : Int)) && iLe (imin (asI (T.cell (nth r600 0) 2)) (l2.length : Int)) (l2.length : Int) then
       (c 143 [T.st [T.sl (asL (T.cell (nth r597 0) 0))], T.i .i64 n1, T.sl (l2.take ((imin (asI (T.cell (nth r600 0) 2)) (l2.length : Int)).toNat))]).bind fun r601 =>
       some [T.st [T.sl (asL (T.cell (nth r601 0) 0)), T.i .i64 (IntKind.wrap .i64 ((asI (T.cell (nth r597 0) 1)) + 1)), T.sl (asL (T.cell (nth r597 0) 2)), T.b true], T.i .i64 10]
       else none
def f90 (c : Orc) (lf : Nat) (l0_0 : List T) (n0_1 : Int) (l0_2 : List T) (b0_3 : Bool) (n1 : Int) (l2 : List T) : Option (List T) := f90_t c lf l0_0 n0_1 l0_2 b0_3 n1 l2
theorem f90_eq (c : Orc) (lf : Nat) (l0_0 : List T) (n0_1 : Int) (l0_2 : List T) (b0_3 : Bool) (n1 : Int) (l2 : List T) : funK c env lf 6 fi90 [.st [.sl l0_0, .i .i64 n0_1, .sl l0_2, .b b0_3], .i .i64 n1, .sl l2] = f90 c lf l0_0 n0_1 l0_2 b0_3 n1 l2 := by kernel_rfl
def f32_0_s (c : Orc) (lf : Nat) (l2 : List T) (n1 n3 : Int) (r618 : List T) (L : Int → Bool → List T → List T → Option (List T)) (x625 : Int) (x626 : Bool) (x627 x628 : List T) : Option (List T) :=
 (c 35 [T.st [T.sl x627, T.i .i64 x625, T.sl x628, T.b x626, T.i .i64 (asI (T.cell (nth r618 0) 4))], T.i .i64 n3]).bind fun r629 =>
 bif x626 then
  some [T.i .i64 0, T.i .i64 (-1), T.i .i64 10, T.i .i64 x625, T.b x626, T.i .i64 (asI (T.cell (nth r618 0) 4)), T.sl x627, T.sl x628]
 else
  bif iLt (asI (nth r629 0)) 0 then
   some [T.i .i64 0, T.i .i64 (-1), T.i .i64 9, T.i .i64 x625, T.b x626, T.i .i64 (asI (T.cell (nth r618 0) 4)), T.sl x627, T.sl x628]
  else
   (c 38 [T.st [T.sl x627], T.i .i64 (asI (nth r629 0))]).bind fun r630 =>
   (c 37 [T.st [T.i .i64 n1, T.i .i64 (asI (T.cell (nth r618 0) 4)), T.sl l2]]).bind fun r631 =>
   (c 90 [T.st [T.sl x627, T.i .i64 x625, T.sl x628, T.b x626], T.i .i64 (asI (nth r629 0)), T.sl (asL (nth r631 0))]).bind fun r632 =>
   bif (asI (nth r632 1)) == 0 then
    some [T.i .i64 0, T.i .i64 (IntKind.wrap .i64 ((IntKind.wrap .i64 ((asI (nth r629 0)) * 8)) + (asI (nth r630 0)))), T.i .i64 0, T.i .i64 (asI (T.cell (nth r632 0) 1)), T.b (asB (T.cell (nth r632 0) 3)), T.i .i64 (IntKind.wrap .i64 ((asI (T.cell (nth r618 0) 4)) + 1)), T.sl (asL (T.cell (nth r632 0) 0)), T.sl (asL (T.cell (nth r632 0) 2))]
   else
    bif (asI (nth r632 1)) == 2 then
     L (asI (T.cell (nth r632 0) 1)) (asB (T.cell (nth r632 0) 3)) (asL (T.cell (nth r632 0) 0)) (asL (T.cell (nth r632 0) 2))
    else
     bif asB (T.cell (nth r632 0) 3) then
      some [T.i .i64 0, T.i .i64 (-1), T.i .i64 10, T.i .i64 (asI (T.cell (nth r632 0) 1)), T.b (asB (T.cell (nth r632 0) 3)), T.i .i64 (IntKind.wrap .i64 ((asI (T.cell (nth r618 0) 4)) + 1)), T.sl (asL (T.cell (nth r632 0) 0)), T.sl (asL (T.cell (nth r632 0) 2))]
     else
      some [T.i .i64 0, T.i .i64 (-1), T.i .i64 10, T.i .i64 (asI (T.cell (nth r632 0) 1)), T.b (asB (T.cell (nth r632 0) 3)), T.i .i64 (asI (T.cell (nth r618 0) 4)), T.sl (asL (T.cell (nth r632 0) 0)), T.sl (asL (T.cell (nth r632 0) 2))]
def f32_0_c (l2 : List T) (n1 n3 : Int) (r618 : List T) (x625 : Int) (x626 : Bool) (x627 x628 : List T) : CSt := ⟨[.i .i64 n3, .bp 8 0, .bp 11 0, .bp 14 0], [.dead, .dead, .dead, .dead, .dead, .dead, .dead, .dead, .box [.rf 9 [] 0 none, .i .i64 x625, .rf 10 [] 0 none, .b x626, .i .i64 (asI (T.cell (nth r618 0) 4))], .row true [.sl true [.b, .sl false [.i .u8]], .i .i64, .b] x627 0 false, .row true [.i .i64, .i .i64, .i .i64] x628 0 false, .box [.rf 12 [] 0 none, .i .i64 0, .rf 13 [] 0 none, .b false, .i .i64 0], .row true [.sl true [.b, .sl false [.i .u8]], .i .i64, .b] ([] : List T) 0 false, .row true [.i .i64, .i .i64, .i .i64] ([] : List T) 0 false, .box [.i .i64 n1, .i .i64 (asI (T.cell (nth r618 0) 4)), .ro 0 false [.i .u8] l2]]⟩
theorem f32_0_round (c : Orc) (lf : Nat) (l2 : List T) (n1 n3 : Int) (r618 : List T) (L : CSt → Option (List T)) (x625 : Int) (x626 : Bool) (x627 x628 : List T) :
 roundK c env lf 6 fi32 8 5 [] [3, 4, 8, 11] (x32_5_0) L (f32_0_c l2 n1 n3 r618 x625 x626 x627 x628) = f32_0_s c lf l2 n1 n3 r618 (fun x625 x626 x627 x628 => L (f32_0_c l2 n1 n3 r618 x625 x626 x627 x628)) x625 x626 x627 x628 := by kernel_rfl
def f32_0 (c : Orc) (lf : Nat) (l2 : List T) (n1 n3 : Int) (r618 : List T) : Nat → Int → Bool → List T → List T → Option (List T)
 | 0 => fun _ _ _ _ => none
 | n + 1 => fun x625 x626 x627 x628 => f32_0_s c lf l2 n1 n3 r618 (f32_0 c lf l2 n1 n3 r618 n) x625 x626 x627 x628
theorem f32_0_u (c : Orc) (lf : Nat) (l2 : List T) (n1 n3 : Int) (r618 : List T) (n : Nat) (x625 : Int) (x626 : Bool) (x627 x628 : List T) : f32_0 c lf l2 n1 n3 r618 (n + 1) x625 x626 x627 x628 = f32_0_s c lf l2 n1 n3 r618 (f32_0 c lf l2 n1 n3 r618 n) x625 x626 x627 x628 := rfl
theorem f32_0_eq (c : Orc) (lf : Nat) (l2 : List T) (n1 n3 : Int) (r618 : List T) (n : Nat) (x625 : Int) (x626 : Bool) (x627 x628 : List T) :
 lpK c env lf 6 fi32 8 5 [] [3, 4, 8, 11] (x32_5_0) n (f32_0_c l2 n1 n3 r618 x625 x626 x627 x628) = f32_0 c lf l2 n1 n3 r618 n x625 x626 x627 x628 := by
 induction n generalizing x625 x626 x627 x628 with
 | zero => rfl
 | succ n ih =>
  refine (f32_0_round c lf l2 n1 n3 r618 _ x625 x626 x627 x628).trans ?_
  have e : (fun x625 x626 x627 x628 => lpK c env lf 6 fi32 8 5 [] [3, 4, 8, 11] (x32_5_0) n (f32_0_c l2 n1 n3 r618 x625 x626 x627 x628)) = f32_0 c lf l2 n1 n3 r618 n := by funext x625 x626 x627 x628; exact ih x625 x626 x627 x628
  show f32_0_s c lf l2 n1 n3 r618 (fun x625 x626 x627 x628 => lpK c env lf 6 fi32 8 5 [] [3, 4, 8, 11] (x32_5_0) n (f32_0_c l2 n1 n3 r618 x625 x626 x627 x628)) x625 x626 x627 x628 = _
  rw [e]; rfl
def f32_t (c : Orc) (lf : Nat) (lp0 : List T → Int → Int → List T → Int → Bool → List T → List T → Option (List T)) (l0_0 : List T) (n0_1 : Int) (l0_2 : List T) (b0_3 : Bool) (n0_4 n1 : Int) (l2 : List T) (n3 : Int) : Option (List T) :=
 (c 88 [T.st [T.sl l0_0, T.i .i64 n0_1, T.sl l0_2, T.b b0_3, T.i .i64 n0_4]]).bind fun r618 =>
 (c 89 [T.st [T.i .i64 n1, T.i .i64 (asI (T.cell (nth r618 0) 4)), T.sl l2]]).bind fun r619 =>
 bif !(asB (nth r619 0)) then
  some [T.st [T.sl (asL (T.cell (nth r618 0) 0)), T.i .i64 (asI (T.cell (nth r618 0) 1)), T.sl (asL (T.cell (nth r618 0) 2)), T.b (asB (T.cell (nth r618 0) 3)), T.i .i64 (asI (T.cell (nth r618 0) 4))], T.i .i64 (-1), T.i .i64 1]
 else
  (c 74 [T.st [T.sl (asL (T.cell (nth r618 0) 0)), T.i .i64 (asI (T.cell (nth r618 0) 1)), T.sl (asL (T.cell (nth r618 0) 2)), T.b (asB (T.cell (nth r618 0) 3))]]).bind fun r620 =>
  bif !(asB (nth r620 0)) then
   some [T.st [T.sl (asL (T.cell (nth r618 0) 0)), T.i .i64 (asI (T.cell (nth r618 0) 1)), T.sl (asL (T.cell (nth r618 0) 2)), T.b (asB (T.cell (nth r618 0) 3)), T.i .i64 (asI (T.cell (nth r618 0) 4))], T.i .i64 (-1), T.i .i64 1]
  else
   bif (asI (T.cell (nth r618 0) 4)) == 1000000 then
    some [T.st [T.sl (asL (T.cell (nth r618 0) 0)), T.i .i64 (asI (T.cell (nth r618 0) 1)), T.sl (asL (T.cell (nth r618 0) 2)), T.b (asB (T.cell (nth r618 0) 3)), T.i .i64 (asI (T.cell (nth r618 0) 4))], T.i .i64 (-1), T.i .i64 1]
   else
    (lp0 l2 n1 n3 r618 (asI (T.cell (nth r618 0) 1)) (asB (T.cell (nth r618 0) 3)) (asL (T.cell (nth r618 0) 0)) (asL (T.cell (nth r618 0) 2))).bind fun r633 =>
    some [T.st [T.sl (asL (nth r633 6)), T.i .i64 (asI (nth r633 3)), T.sl (asL (nth r633 7)), T.b (asB (nth r633 4)), T.i .i64 (asI (nth r633 5))], T.i .i64 (asI (nth r633 1)), T.i .i64 (asI (nth r633 2))]
def f32 (c : Orc) (lf : Nat) (l0_0 : List T) (n0_1 : Int) (l0_2 : List T) (b0_3 : Bool) (n0_4 n1 : Int) (l2 : List T) (n3 : Int) : Option (List T) := f32_t c lf (fun (l2 : List T) (n1 n3 : Int) (r618 : List T) (x625 : Int) (x626 : Bool) (x627 x628 : List T) => f32_0 c lf l2 n1 n3 r618 lf x625 x626 x627 x628) l0_0 n0_1 l0_2 b0_3 n0_4 n1 l2 n3
theorem f32_raw (c : Orc) (lf : Nat) (l0_0 : List T) (n0_1 : Int) (l0_2 : List T) (b0_3 : Bool) (n0_4 n1 : Int) (l2 : List T) (n3 : Int) : funK c env lf 6 fi32 [.st [.sl l0_0, .i .i64 n0_1, .sl l0_2, .b b0_3, .i .i64 n0_4], .i .i64 n1, .sl l2, .i .i64 n3] = f32_t c lf (fun (l2 : List T) (n1 n3 : Int) (r618 : List T) (x625 : Int) (x626 : Bool) (x627 x628 : List T) => lpK c env lf 6 fi32 8 5 [] [3, 4, 8, 11] (x32_5_0) lf (f32_0_c l2 n1 n3 r618 x625 x626 x627 x628)) l0_0 n0_1 l0_2 b0_3 n0_4 n1 l2 n3 := by kernel_rfl
theorem f32_eq (c : Orc) (lf : Nat) (l0_0 : List T) (n0_1 : Int) (l0_2 : List T) (b0_3 : Bool) (n0_4 n1 : Int) (l2 : List T) (n3 : Int) : funK c env lf 6 fi32 [.st [.sl l0_0, .i .i64 n0_1, .sl l0_2, .b b0_3, .i .i64 n0_4], .i .i64 n1, .sl l2, .i .i64 n3] = f32 c lf l0_0 n0_1 l0_2 b0_3 n0_4 n1 l2 n3 := by
 refine (f32_raw c lf l0_0 n0_1 l0_2 b0_3 n0_4 n1 l2 n3).trans ?_
 have e0 : (fun (l2 : List T) (n1 n3 : Int) (r618 : List T) (x625 : Int) (x626 : Bool) (x627 x628 : List T) => lpK c env lf 6 fi32 8 5 [] [3, 4, 8, 11] (x32_5_0) lf (f32_0_c l2 n1 n3 r618 x625 x626 x627 x628)) = (fun (l2 : List T) (n1 n3 : Int) (r618 : List T) (x625 : Int) (x626 : Bool) (x627 x628 : List T) => f32_0 c lf l2 n1 n3 r618 lf x625 x626 x627 x628) := by funext l2 n1 n3 r618 x625 x626 x627 x628; exact f32_0_eq c lf l2 n1 n3 r618 lf x625 x626 x627 x628
 rw [e0]; rfl
def f33_0_s (c : Orc) (lf : Nat) (l0 l1 : List T) (L : Int → Option (List T)) (x636 : Int) : Option (List T) :=
 bif iLt x636 (l0.length : Int) then
  bif inR x636 l0.length then
  bif inR x636 l1.length then
  bif (asI (l0.getD x636.toNat T.u)) != (asI (l1.getD x636.toNat T.u)) then
   some [T.i .i64 0, T.b false]
  else
   L (IntKind.wrap .i64 (x636 + 1))
  else none
  else none
 else
  some [T.i .i64 1]
def f33_0_c (l0 l1 : List T) (x636 : Int) : CSt := ⟨[.ro 0 false [.i .u8] l0, .ro 0 false [.i .u8] l1, .i .i64 x636], [.dead, .dead]⟩
theorem f33_0_round (c : Orc) (lf : Nat) (l0 l1 : List T) (L : CSt → Option (List T)) (x636 : Int) :
 roundK c env lf 6 fi33 2 4 [] [0, 1, 5] (x33_4_0) L (f33_0_c l0 l1 x636) = f33_0_s c lf l0 l1 (fun x636 => L (f33_0_c l0 l1 x636)) x636 := by kernel_rfl
def f33_0 (c : Orc) (lf : Nat) (l0 l1 : List T) : Nat → Int → Option (List T)
 | 0 => fun _ => none
 | n + 1 => fun x636 => f33_0_s c lf l0 l1 (f33_0 c lf l0 l1 n) x636
theorem f33_0_u (c : Orc) (lf : Nat) (l0 l1 : List T) (n : Nat) (x636 : Int) : f33_0 c lf l0 l1 (n + 1) x636 = f33_0_s c lf l0 l1 (f33_0 c lf l0 l1 n) x636 := rfl
theorem f33_0_eq (c : Orc) (lf : Nat) (l0 l1 : List T) (n : Nat) (x636 : Int) :
 lpK c env lf 6 fi33 2 4 [] [0, 1, 5] (x33_4_0) n (f33_0_c l0 l1 x636) = f33_0 c lf l0 l1 n x636 := by
 induction n generalizing x636 with
 | zero => rfl
 | succ n ih =>
  refine (f33_0_round c lf l0 l1 _ x636).trans ?_
  have e : (fun x636 => lpK c env lf 6 fi33 2 4 [] [0, 1, 5] (x33_4_0) n (f33_0_c l0 l1 x636)) = f33_0 c lf l0 l1 n := by funext x636; exact ih x636
  show f33_0_s c lf l0 l1 (fun x636 => lpK c env lf 6 fi33 2 4 [] [0, 1, 5] (x33_4_0) n (f33_0_c l0 l1 x636)) x636 = _
  rw [e]; rfl
def f33_t (c : Orc) (lf : Nat) (lp0 : List T → List T → Int → Option (List T)) (l0 l1 : List T) : Option (List T) :=
 bif (l0.length : Int) != (l1.length : Int) then
  some [T.b false]
 else
  (lp0 l0 l1 0).bind fun r637 =>
  bif asI (nth r637 0) == 0 then
   some [T.b (asB (nth r637 1))]
  else
   some [T.b true]
def f33 (c : Orc) (lf : Nat) (l0 l1 : List T) : Option (List T) := f33_t c lf (fun (l0 l1 : List T) (x636 : Int) => f33_0 c lf l0 l1 lf x636) l0 l1
theorem f33_raw (c : Orc) (lf : Nat) (l0 l1 : List T) : funK c env lf 6 fi33 [.sl l0, .sl l1] = f33_t c lf (fun (l0 l1 : List T) (x636 : Int) => lpK c env lf 6 fi33 2 4 [] [0, 1, 5] (x33_4_0) lf (f33_0_c l0 l1 x636)) l0 l1 := by kernel_rfl
theorem f33_eq (c : Orc) (lf : Nat) (l0 l1 : List T) : funK c env lf 6 fi33 [.sl l0, .sl l1] = f33 c lf l0 l1 := by
 refine (f33_raw c lf l0 l1).trans ?_
 have e0 : (fun (l0 l1 : List T) (x636 : Int) => lpK c env lf 6 fi33 2 4 [] [0, 1, 5] (x33_4_0) lf (f33_0_c l0 l1 x636)) = (fun (l0 l1 : List T) (x636 : Int) => f33_0 c lf l0 l1 lf x636) := by funext l0 l1 x636; exact f33_0_eq c lf l0 l1 lf x636
 rw [e0]; rfl
def f52_1_s (c : Orc) (lf : Nat) (x654 : Int) (x655 x656 : List T) (L : Int → Option (List T)) (x658 : Int) : Option (List T) :=
 bif iLt x658 ((asL (T.cell (x655.getD x654.toNat T.u) 0)).length : Int) then
  bif inR x658 ((asL (T.cell (x655.getD x654.toNat T.u) 0)).length) then
  bif inR x658 ((asL (T.cell (x656.getD x654.toNat T.u) 0)).length) then
  bif !((asB (T.cell ((asL (T.cell (x655.getD x654.toNat T.u) 0)).getD x658.toNat T.u) 0)) == (asB (T.cell ((asL (T.cell (x656.getD x654.toNat T.u) 0)).getD x658.toNat T.u) 0))) then
   some [T.i .i64 0, T.b false]
  else
   bif inR x658 ((asL (T.cell (x655.getD x654.toNat T.u) 0)).length) then
   bif inR x658 ((asL (T.cell (x656.getD x654.toNat T.u) 0)).length) then
   (c 33 [T.sl (asL (T.cell ((asL (T.cell (x655.getD x654.toNat T.u) 0)).getD x658.toNat T.u) 1)), T.sl (asL (T.cell ((asL (T.cell (x656.getD x654.toNat T.u) 0)).getD x658.toNat T.u) 1))]).bind fun r659 =>
   bif !(asB (nth r659 0)) then
    some [T.i .i64 0, T.b false]
   else
    L (IntKind.wrap .i64 (x658 + 1))
   else none
   else none
  else none
  else none
 else
  some [T.i .i64 1, T.i .i64 x654, T.sl x655, T.sl x656]
def f52_1_c (x654 : Int) (x655 x656 : List T) (x658 : Int) : CSt := ⟨[.bp 2 0, .bp 3 0, .i .i64 x654, .bp 4 0, .bp 5 0, .i .i64 x658], [.dead, .dead, .box [.ro 0 true [.sl true [.b, .sl false [.i .u8]], .i .i64, .b] x655], .box [.ro 0 true [.sl true [.b, .sl false [.i .u8]], .i .i64, .b] x656], .box [.ro 0 true [.b, .sl false [.i .u8]] (asL (T.cell (x655.getD x654.toNat T.u) 0)), .i .i64 (asI (T.cell (x655.getD x654.toNat T.u) 1)), .b (asB (T.cell (x655.getD x654.toNat T.u) 2))], .box [.ro 0 true [.b, .sl false [.i .u8]] (asL (T.cell (x656.getD x654.toNat T.u) 0)), .i .i64 (asI (T.cell (x656.getD x654.toNat T.u) 1)), .b (asB (T.cell (x656.getD x654.toNat T.u) 2))]]⟩
theorem f52_1_round (c : Orc) (lf : Nat) (x654 : Int) (x655 x656 : List T) (L : CSt → Option (List T)) (x658 : Int) :
 roundK c env lf 6 fi52 2 11 [] [2, 3, 5, 6, 7, 8] (x52_11_0) L (f52_1_c x654 x655 x656 x658) = f52_1_s c lf x654 x655 x656 (fun x658 => L (f52_1_c x654 x655 x656 x658)) x658 := by kernel_rfl
def f52_1 (c : Orc) (lf : Nat) (x654 : Int) (x655 x656 : List T) : Nat → Int → Option (List T)
 | 0 => fun _ => none
 | n + 1 => fun x658 => f52_1_s c lf x654 x655 x656 (f52_1 c lf x654 x655 x656 n) x658
theorem f52_1_u (c : Orc) (lf : Nat) (x654 : Int) (x655 x656 : List T) (n : Nat) (x658 : Int) : f52_1 c lf x654 x655 x656 (n + 1) x658 = f52_1_s c lf x654 x655 x656 (f52_1 c lf x654 x655 x656 n) x658 := rfl
theorem f52_1_eq (c : Orc) (lf : Nat) (x654 : Int) (x655 x656 : List T) (n : Nat) (x658 : Int) :
 lpK c env lf 6 fi52 2 11 [] [2, 3, 5, 6, 7, 8] (x52_11_0) n (f52_1_c x654 x655 x656 x658) = f52_1 c lf x654 x655 x656 n x658 := by
 induction n generalizing x658 with
 | zero => rfl
 | succ n ih =>
  refine (f52_1_round c lf x654 x655 x656 _ x658).trans ?_
  have e : (fun x658 => lpK c env lf 6 fi52 2 11 [] [2, 3, 5, 6, 7, 8] (x52_11_0) n (f52_1_c x654 x655 x656 x658)) = f52_1 c lf x654 x655 x656 n := by funext x658; exact ih x658
  show f52_1_s c lf x654 x655 x656 (fun x658 => lpK c env lf 6 fi52 2 11 [] [2, 3, 5, 6, 7, 8] (x52_11_0) n (f52_1_c x654 x655 x656 x658)) x658 = _
  rw [e]; rfl
def f52_0_s (c : Orc) (lf : Nat) (L : Int → List T → List T → Option (List T)) (lp0 : Int → List T → List T → Int → Option (List T)) (x654 : Int) (x655 x656 : List T) : Option (List T) :=
 bif iLt x654 (x655.length : Int) then
  bif inR x654 x655.length then
  bif inR x654 x656.length then
  bif (asI (T.cell (x655.getD x654.toNat T.u) 1)) != (asI (T.cell (x656.getD x654.toNat T.u) 1)) then
   some [T.i .i64 0, T.b false]
  else
   bif !((asB (T.cell (x655.getD x654.toNat T.u) 2)) == (asB (T.cell (x656.getD x654.toNat T.u) 2))) then
    some [T.i .i64 0, T.b false]
   else
    bif ((asL (T.cell (x655.getD x654.toNat T.u) 0)).length : Int) != ((asL (T.cell (x656.getD x654.toNat T.u) 0)).length : Int) then
     some [T.i .i64 0, T.b false]
    else
     (lp0 x654 x655 x656 0).bind fun r660 =>
     bif asI (nth r660 0) == 0 then
      some [T.i .i64 0, T.b (asB (nth r660 1))]
     else
      L (IntKind.wrap .i64 ((asI (nth r660 1)) + 1)) (asL (nth r660 2)) (asL (nth r660 3))
  else none
  else none
 else
  some [T.i .i64 1]
def f52_0_c (x654 : Int) (x655 x656 : List T) : CSt := ⟨[.bp 2 0, .bp 3 0, .i .i64 x654], [.dead, .dead, .box [.ro 0 true [.sl true [.b, .sl false [.i .u8]], .i .i64, .b] x655], .box [.ro 0 true [.sl true [.b, .sl false [.i .u8]], .i .i64, .b] x656]]⟩
theorem f52_0_round (c : Orc) (lf : Nat) (L : CSt → Option (List T)) (x654 : Int) (x655 x656 : List T) :
 roundK c env lf 6 fi52 2 4 [] [2, 3, 5] (x52_4_0) L (f52_0_c x654 x655 x656) = f52_0_s c lf (fun x654 x655 x656 => L (f52_0_c x654 x655 x656)) (fun (x654 : Int) (x655 x656 : List T) (x658 : Int) => lpK c env lf 6 fi52 2 11 [] [2, 3, 5, 6, 7, 8] (x52_11_0) lf (f52_1_c x654 x655 x656 x658)) x654 x655 x656 := by kernel_rfl
def f52_0 (c : Orc) (lf : Nat) : Nat → Int → List T → List T → Option (List T)
 | 0 => fun _ _ _ => none
 | n + 1 => fun x654 x655 x656 => f52_0_s c lf (f52_0 c lf n) (fun (x654 : Int) (x655 x656 : List T) (x658 : Int) => f52_1 c lf x654 x655 x656 lf x658) x654 x655 x656
theorem f52_0_u (c : Orc) (lf n : Nat) (x654 : Int) (x655 x656 : List T) : f52_0 c lf (n + 1) x654 x655 x656 = f52_0_s c lf (f52_0 c lf n) (fun (x654 : Int) (x655 x656 : List T) (x658 : Int) => f52_1 c lf x654 x655 x656 lf x658) x654 x655 x656 := rfl
end Go.Proofs.Ytdclnhlpifahpaa.T
