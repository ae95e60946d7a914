/- What functions of the law FnLogsOk come to, in trees; no condition. -/
import Derived.Test.YtdclnhlpifahpaaRows
import Derived.Test.YtdclnhlpifahpaaV3
import Derived.KernelRfl
set_option linter.unusedVariables false
set_option linter.constructorNameAsVariable false
set_option linter.unusedSimpArgs false
set_option linter.unnecessarySimpa false
namespace Go.Proofs.Ytdclnhlpifahpaa.T
open Go Go.Proofs.YtdclnhlpifahpaaV
def tyTab : List (Nat × Ti) := [
 (3, ⟨false, [.i .i64], .o⟩),
 (4, ⟨false, [.b], .o⟩),
 (5, ⟨false, [.i .u8], .o⟩),
 (9, ⟨false, [.s], .o⟩),
 (45, ⟨false, [.sl true [.sl true [.b, .sl false [.i .u8]], .i .i64, .b]], .sl 137⟩),
 (47, ⟨true, [.sl true [.sl true [.b, .sl false [.i .u8]], .i .i64, .b]], .st [(0, 45)]⟩),
 (48, ⟨false, [.sl true [.i .i64, .i .i64, .i .i64]], .sl 76⟩),
 (50, ⟨true, [.sl true [.sl true [.b, .sl false [.i .u8]], .i .i64, .b], .i .i64, .sl true [.i .i64, .i .i64, .i .i64], .b], .st [(0, 47), (1, 3), (2, 48), (3, 4)]⟩),
 (52, ⟨true, [.sl true [.sl true [.b, .sl false [.i .u8]], .i .i64, .b], .i .i64, .sl true [.i .i64, .i .i64, .i .i64], .b, .i .i64], .st [(0, 50), (4, 3)]⟩),
 (56, ⟨false, [.sl false [.i .u8]], .sl 5⟩),
 (58, ⟨true, [.i .i64, .i .i64, .sl false [.i .u8]], .st [(0, 3), (1, 3), (2, 56)]⟩),
 (69, ⟨false, [.sl false [.i .i64]], .sl 3⟩),
 (76, ⟨true, [.i .i64, .i .i64, .i .i64], .st [(0, 3), (1, 3), (2, 3)]⟩),
 (120, ⟨false, [.o], .o⟩),
 (127, ⟨false, [.o], .o⟩),
 (135, ⟨false, [.sl true [.b, .sl false [.i .u8]]], .sl 142⟩),
 (137, ⟨true, [.sl true [.b, .sl false [.i .u8]], .i .i64, .b], .st [(0, 135), (1, 3), (2, 4)]⟩),
 (142, ⟨true, [.b, .sl false [.i .u8]], .st [(0, 4), (1, 56)]⟩),
 (172, ⟨false, [.i .u64], .o⟩),
 (173, ⟨false, [.o], .o⟩),
 (175, ⟨true, [.sl false [.i .u8], .i .i64, .b], .st [(0, 56), (1, 3), (2, 4)]⟩),
 (181, ⟨true, [.sl false [.i .u8], .i .i64, .i .i64], .st [(0, 56), (1, 3), (2, 3)]⟩),
 (229, ⟨false, [.o], .o⟩),
 (231, ⟨true, [.sl false [.i .u8], .i .i64, .b], .st [(0, 56), (1, 3), (2, 4)]⟩),
 (237, ⟨false, [.i .u32], .o⟩)]
noncomputable def fi29 : Fi := ⟨Try.f29, [], false, [.ro (.sl false [.i .u8])], [.v (.b)]⟩
def x84_3_0 : List (Ex × List Nat × CSt) := [((.ex 0), [0, 3], ⟨[.ro 0 false [.i .u8] [], .i .i64 0], [.dead]⟩)]
noncomputable def fi84 : Fi := ⟨Try.f84, [⟨3, [0, 3, 4], [], [(⟨[.ro 0 false [.i .u8] [], .i .i64 0, .i .i64 0], [.dead]⟩, x84_3_0)]⟩], false, [.ro (.sl false [.i .u8])], [.bx [.ro (.sl false [.i .u8]), .v (.i .i64), .v (.i .i64)]]⟩
noncomputable def fi149 : Fi := ⟨Try.f149, [], false, [.bx [.ro (.sl false [.i .u8]), .v (.i .i64), .v (.i .i64)]], [.v (.i .i64)]⟩
noncomputable def fi97 : Fi := ⟨Try.f97, [], false, [.bx [.ro (.sl false [.i .u8]), .v (.i .i64), .v (.i .i64)], .v (.i .i64)], [.v (.i .i64)]⟩
noncomputable def fi96 : Fi := ⟨Try.f96, [], false, [.bx [.ro (.sl false [.i .u8]), .v (.i .i64), .v (.i .i64)], .ro (.sl false [.i .i64])], [.v (.i .i64)]⟩
def x139_4_0 : List (Ex × List Nat × CSt) := [((.ex 0), [3], ⟨[.rf 4 [] 0 none], [.box [.ro 1 false [.i .u8] [], .i .i64 0, .i .i64 0], .dead, .dead, .dead, .row true [.i .i64, .i .i64, .i .i64] [] 0 false]⟩)]
noncomputable def fi139 : Fi := ⟨Try.f139, [⟨4, [0, 3, 4, 5], [], [(⟨[.bp 0 0, .rf 4 [] 0 none, .i .i64 0, .i .i64 0], [.box [.ro 1 false [.i .u8] [], .i .i64 0, .i .i64 0], .dead, .dead, .dead, .row true [.i .i64, .i .i64, .i .i64] [] 0 false]⟩, x139_4_0)]⟩], false, [.bx [.ro (.sl false [.i .u8]), .v (.i .i64), .v (.i .i64)]], [.ow (.sl true [.i .i64, .i .i64, .i .i64])]⟩
noncomputable def fi71 : Fi := ⟨Try.f71, [], false, [.v (.i .i64), .v (.i .i64), .v (.i .i64)], [.v (.b)]⟩
def x188_3_0 : List (Ex × List Nat × CSt) := [((.ex 0), [2, 3], ⟨[.bp 1 0, .bp 3 0], [.dead, .box [.rf 2 [] 0 none], .row true [.sl true [.b, .sl false [.i .u8]], .i .i64, .b] [] 0 false, .box [.rf 4 [] 0 none], .row true [.sl true [.b, .sl false [.i .u8]], .i .i64, .b] [] 0 false]⟩)]
noncomputable def fi188 : Fi := ⟨Try.f188, [⟨3, [0, 2, 3, 4], [], [(⟨[.i .i64 0, .bp 1 0, .bp 3 0, .i .i64 0], [.dead, .box [.rf 2 [] 0 none], .row true [.sl true [.b, .sl false [.i .u8]], .i .i64, .b] [] 0 false, .box [.rf 4 [] 0 none], .row true [.sl true [.b, .sl false [.i .u8]], .i .i64, .b] [] 0 false]⟩, x188_3_0)]⟩], false, [.v (.i .i64)], [.ag [.ow (.sl true [.sl true [.b, .sl false [.i .u8]], .i .i64, .b])]]⟩
def x176_4_0 : List (Ex × List Nat × CSt) := [(.ret, [2], ⟨[.b false], [.dead, .dead, .dead]⟩), ((.ex 0), [], ⟨[], [.dead, .dead, .dead]⟩)]
noncomputable def fi176 : Fi := ⟨Try.f176, [⟨4, [1, 3], [], [(⟨[.bp 3 0, .i .i64 0], [.dead, .dead, .dead, .box [.ro 0 true [.b, .sl false [.i .u8]] [], .i .i64 0, .b false]]⟩, x176_4_0)]⟩], false, [.ag [.ro (.sl true [.b, .sl false [.i .u8]]), .v (.i .i64), .v (.b)]], [.v (.b)]⟩
def x124_2_0 : List (Ex × List Nat × CSt) := [(.ret, [2], ⟨[.b false], [.dead]⟩), ((.ex 0), [1], ⟨[.bp 1 0], [.dead, .box [.ro 0 true [.sl true [.b, .sl false [.i .u8]], .i .i64, .b] []]]⟩)]
noncomputable def fi124 : Fi := ⟨Try.f124, [⟨2, [1, 3], [], [(⟨[.bp 1 0, .i .i64 0], [.dead, .box [.ro 0 true [.sl true [.b, .sl false [.i .u8]], .i .i64, .b] []]]⟩, x124_2_0)]⟩], false, [.ag [.ro (.sl true [.sl true [.b, .sl false [.i .u8]], .i .i64, .b])]], [.v (.b)]⟩
def x125_2_0 : List (Ex × List Nat × CSt) := [(.ret, [2], ⟨[.b false], [.dead]⟩), ((.ex 0), [0], ⟨[.ro 0 true [.i .i64, .i .i64, .i .i64] []], [.dead]⟩)]
noncomputable def fi125 : Fi := ⟨Try.f125, [⟨2, [0, 3], [], [(⟨[.ro 0 true [.i .i64, .i .i64, .i .i64] [], .i .i64 0], [.dead]⟩, x125_2_0)]⟩], false, [.ro (.sl true [.i .i64, .i .i64, .i .i64])], [.v (.b)]⟩
noncomputable def fi70 : Fi := ⟨Try.f70, [], false, [.ag [.ro (.sl true [.sl true [.b, .sl false [.i .u8]], .i .i64, .b]), .v (.i .i64), .ro (.sl true [.i .i64, .i .i64, .i .i64]), .v (.b)]], [.v (.b)]⟩
noncomputable def fi138 : Fi := ⟨Try.f138, [], false, [.v (.i .i64), .ro (.sl true [.i .i64, .i .i64, .i .i64])], [.ag [.ow (.sl true [.sl true [.b, .sl false [.i .u8]], .i .i64, .b]), .v (.i .i64), .ow (.sl true [.i .i64, .i .i64, .i .i64]), .v (.b)]]⟩
def x140_3_0 : List (Ex × List Nat × CSt) := [((.ex 0), [5], ⟨[.rf 5 [] 0 none], [.box [.ro 1 false [.i .u8] [], .i .i64 0, .i .i64 0], .dead, .dead, .dead, .dead, .row false [.i .u8] [] 0 false]⟩)]
noncomputable def fi140 : Fi := ⟨Try.f140, [⟨3, [0, 1, 5, 6], [], [(⟨[.bp 0 0, .i .i64 0, .rf 5 [] 0 none, .i .i64 0], [.box [.ro 1 false [.i .u8] [], .i .i64 0, .i .i64 0], .dead, .dead, .dead, .dead, .row false [.i .u8] [] 0 false]⟩, x140_3_0)]⟩], false, [.bx [.ro (.sl false [.i .u8]), .v (.i .i64), .v (.i .i64)], .v (.i .i64)], [.ow (.sl false [.i .u8])]⟩
noncomputable def fi86 : Fi := ⟨Try.f86, [], false, [.bx [.ro (.sl false [.i .u8]), .v (.i .i64), .v (.i .i64)]], [.ow (.sl false [.i .u8])]⟩
def x228_3_0 : List (Ex × List Nat × CSt) := [((.ex 0), [2, 3], ⟨[.bp 3 0, .bp 5 0], [.dead, .dead, .dead, .box [.rf 4 [] 0 none, .i .i64 0, .b false], .row true [.b, .sl false [.i .u8]] [] 0 false, .box [.rf 6 [] 0 none, .i .i64 0, .b false], .row true [.b, .sl false [.i .u8]] [] 0 false]⟩)]
noncomputable def fi228 : Fi := ⟨Try.f228, [⟨3, [1, 2, 3, 4], [], [(⟨[.bp 3 0, .bp 4 0, .bp 6 0, .i .i64 0], [.dead, .dead, .dead, .box [.ro 0 true [.b, .sl false [.i .u8]] [], .i .i64 0, .b false], .box [.rf 5 [] 0 none, .i .i64 0, .b false], .row true [.b, .sl false [.i .u8]] [] 0 false, .box [.rf 7 [] 0 none, .i .i64 0, .b false], .row true [.b, .sl false [.i .u8]] [] 0 false]⟩, x228_3_0)]⟩], false, [.ag [.ro (.sl true [.b, .sl false [.i .u8]]), .v (.i .i64), .v (.b)]], [.ag [.ow (.sl true [.b, .sl false [.i .u8]]), .v (.i .i64), .v (.b)]]⟩
def x194_3_0 : List (Ex × List Nat × CSt) := [((.ex 0), [2, 3], ⟨[.bp 1 0, .bp 3 0], [.dead, .box [.rf 2 [] 0 none], .row true [.sl true [.b, .sl false [.i .u8]], .i .i64, .b] [] 0 false, .box [.rf 4 [] 0 none], .row true [.sl true [.b, .sl false [.i .u8]], .i .i64, .b] [] 0 false]⟩)]
noncomputable def fi194 : Fi := ⟨Try.f194, [⟨3, [1, 2, 3, 4], [], [(⟨[.bp 1 0, .bp 2 0, .bp 4 0, .i .i64 0], [.dead, .box [.ro 0 true [.sl true [.b, .sl false [.i .u8]], .i .i64, .b] []], .box [.rf 3 [] 0 none], .row true [.sl true [.b, .sl false [.i .u8]], .i .i64, .b] [] 0 false, .box [.rf 5 [] 0 none], .row true [.sl true [.b, .sl false [.i .u8]], .i .i64, .b] [] 0 false]⟩, x194_3_0)]⟩], false, [.ag [.ro (.sl true [.sl true [.b, .sl false [.i .u8]], .i .i64, .b])]], [.ag [.ow (.sl true [.sl true [.b, .sl false [.i .u8]], .i .i64, .b])]]⟩
noncomputable def fi152 : Fi := ⟨Try.f152, [], false, [.ag [.ro (.sl true [.sl true [.b, .sl false [.i .u8]], .i .i64, .b]), .v (.i .i64), .ro (.sl true [.i .i64, .i .i64, .i .i64]), .v (.b)]], [.ag [.ow (.sl true [.sl true [.b, .sl false [.i .u8]], .i .i64, .b]), .v (.i .i64), .ow (.sl true [.i .i64, .i .i64, .i .i64]), .v (.b)]]⟩
noncomputable def fi102 : Fi := ⟨Try.f102, [], false, [.ag [.ro (.sl true [.sl true [.b, .sl false [.i .u8]], .i .i64, .b]), .v (.i .i64), .ro (.sl true [.i .i64, .i .i64, .i .i64]), .v (.b), .v (.i .i64)]], [.ag [.ow (.sl true [.sl true [.b, .sl false [.i .u8]], .i .i64, .b]), .v (.i .i64), .ow (.sl true [.i .i64, .i .i64, .i .i64]), .v (.b), .v (.i .i64)]]⟩
noncomputable def fi103 : Fi := ⟨Try.f103, [], false, [.ag [.v (.i .i64), .v (.i .i64), .ro (.sl false [.i .u8])]], [.v (.b)]⟩
def x196_6_0 : List (Ex × List Nat × CSt) := [((.ex 0), [1, 5], ⟨[.i .i64 0, .rf 2 [] 0 none], [.dead, .dead, .row false [.i .u8] [] 0 false]⟩)]
noncomputable def fi196 : Fi := ⟨Try.f196, [⟨6, [1, 5], [], [(⟨[.i .i64 0, .rf 2 [] 0 none], [.dead, .dead, .row false [.i .u8] [] 0 false]⟩, x196_6_0)]⟩], false, [.ro (.sl false [.i .u8]), .v (.i .i64)], [.ow (.sl false [.i .u8])]⟩
noncomputable def fi195 : Fi := ⟨Try.f195, [], false, [.ro (.sl false [.i .u8]), .v (.s)], [.ow (.sl false [.i .u8])]⟩
def x133_3_0 : List (Ex × List Nat × CSt) := [((.ex 0), [3], ⟨[.i .i64 0], [.dead]⟩)]
def x133_7_0 : List (Ex × List Nat × CSt) := [((.ex 2), [0, 3, 4], ⟨[.ro 0 false [.i .u8] [], .i .i64 0, .i .i64 0], [.dead]⟩)]
noncomputable def fi133 : Fi := ⟨Try.f133, [⟨3, [0, 3, 4], [], [(⟨[.ro 0 false [.i .u8] [], .i .i64 0, .i .i64 0], [.dead]⟩, x133_3_0)]⟩, ⟨7, [0, 3, 4, 5], [], [(⟨[.ro 0 false [.i .u8] [], .i .i64 0, .i .i64 0, .i .i64 0], [.dead]⟩, x133_7_0)]⟩], false, [.ro (.sl false [.i .u8])], [.v (.i .i64)]⟩
noncomputable def fi153 : Fi := ⟨Try.f153, [], false, [.ag [.v (.i .i64), .v (.i .i64), .ro (.sl false [.i .u8])]], [.ow (.sl false [.i .u8])]⟩
def x197_3_0 : List (Ex × List Nat × CSt) := [((.ex 0), [3], ⟨[.i .i64 0], [.dead, .dead, .dead]⟩)]
noncomputable def fi197 : Fi := ⟨Try.f197, [⟨3, [1, 3, 4], [], [(⟨[.bp 3 0, .i .i64 0, .i .i64 0], [.dead, .dead, .dead, .box [.ro 0 true [.b, .sl false [.i .u8]] [], .i .i64 0, .b false]]⟩, x197_3_0)]⟩], false, [.ag [.ro (.sl true [.b, .sl false [.i .u8]]), .v (.i .i64), .v (.b)]], [.v (.i .i64)]⟩
def x198_3_0 : List (Ex × List Nat × CSt) := [((.ex 0), [3], ⟨[.i .i64 0], [.dead, .dead, .dead, .dead, .dead]⟩)]
noncomputable def fi198 : Fi := ⟨Try.f198, [⟨3, [1, 3, 4], [], [(⟨[.bp 5 0, .i .i64 0, .i .i64 0], [.dead, .dead, .dead, .dead, .dead, .box [.ro 0 true [.sl true [.b, .sl false [.i .u8]], .i .i64, .b] [], .i .i64 0, .ro 0 true [.i .i64, .i .i64, .i .i64] [], .b false, .i .i64 0]]⟩, x198_3_0)]⟩], false, [.ag [.ro (.sl true [.sl true [.b, .sl false [.i .u8]], .i .i64, .b]), .v (.i .i64), .ro (.sl true [.i .i64, .i .i64, .i .i64]), .v (.b), .v (.i .i64)]], [.v (.i .i64)]⟩
def x154_3_0 : List (Ex × List Nat × CSt) := [(.ret, [4], ⟨[.i .i64 0], [.dead, .dead, .dead, .dead, .dead, .dead]⟩), ((.ex 0), [1, 2, 5], ⟨[.i .i64 0, .bp 6 0, .i .i64 0], [.dead, .dead, .dead, .dead, .dead, .dead, .box [.ro 0 true [.sl true [.b, .sl false [.i .u8]], .i .i64, .b] [], .i .i64 0, .ro 0 true [.i .i64, .i .i64, .i .i64] [], .b false, .i .i64 0]]⟩)]
noncomputable def fi154 : Fi := ⟨Try.f154, [⟨3, [1, 2, 5, 6], [], [(⟨[.i .i64 0, .bp 6 0, .i .i64 0, .i .i64 0], [.dead, .dead, .dead, .dead, .dead, .dead, .box [.ro 0 true [.sl true [.b, .sl false [.i .u8]], .i .i64, .b] [], .i .i64 0, .ro 0 true [.i .i64, .i .i64, .i .i64] [], .b false, .i .i64 0]]⟩, x154_3_0)]⟩], false, [.ag [.ro (.sl true [.sl true [.b, .sl false [.i .u8]], .i .i64, .b]), .v (.i .i64), .ro (.sl true [.i .i64, .i .i64, .i .i64]), .v (.b), .v (.i .i64)], .v (.i .i64)], [.v (.i .i64)]⟩
noncomputable def fi155 : Fi := ⟨Try.f155, [], false, [.ag [.ro (.sl true [.sl true [.b, .sl false [.i .u8]], .i .i64, .b])], .v (.i .i64)], [.v (.i .i64)]⟩
noncomputable def fi229 : Fi := ⟨Try.f229, [], false, [.ag [.ro (.sl true [.sl true [.b, .sl false [.i .u8]], .i .i64, .b])], .v (.i .i64), .v (.b)], [.v (.i .i64)]⟩
noncomputable def fi200 : Fi := ⟨Try.f200, [], false, [.ag [.ro (.sl true [.sl true [.b, .sl false [.i .u8]], .i .i64, .b])], .v (.i .i64), .ro (.sl false [.i .u8])], [.v (.i .i64)]⟩
noncomputable def fi199 : Fi := ⟨Try.f199, [], false, [.ag [.ro (.sl true [.sl true [.b, .sl false [.i .u8]], .i .i64, .b]), .v (.i .i64), .ro (.sl true [.i .i64, .i .i64, .i .i64]), .v (.b)], .v (.i .i64)], [.v (.i .i64)]⟩
def x201_2_0 : List (Ex × List Nat × CSt) := [(.ret, [2, 3], ⟨[.bp 4 0, .b false], [.dead, .dead, .dead, .dead, .box [.i .i64 0, .i .i64 0, .i .i64 0]]⟩), ((.ex 0), [2], ⟨[.bp 4 0], [.dead, .dead, .dead, .dead, .box [.i .i64 0, .i .i64 0, .i .i64 0]]⟩)]
noncomputable def fi201 : Fi := ⟨Try.f201, [⟨2, [1, 2, 4], [], [(⟨[.bp 4 0, .bp 5 0, .i .i64 0], [.dead, .dead, .dead, .dead, .box [.ro 0 true [.sl true [.b, .sl false [.i .u8]], .i .i64, .b] [], .i .i64 0, .ro 0 true [.i .i64, .i .i64, .i .i64] [], .b false], .box [.i .i64 0, .i .i64 0, .i .i64 0]]⟩, x201_2_0)]⟩], false, [.ag [.ro (.sl true [.sl true [.b, .sl false [.i .u8]], .i .i64, .b]), .v (.i .i64), .ro (.sl true [.i .i64, .i .i64, .i .i64]), .v (.b)]], [.ag [.v (.i .i64), .v (.i .i64), .v (.i .i64)], .v (.b)]⟩
noncomputable def fi202 : Fi := ⟨Try.f202, [], false, [.ag [.ro (.sl true [.sl true [.b, .sl false [.i .u8]], .i .i64, .b])], .v (.i .i64), .ro (.sl false [.i .u8])], [.ag [.ow (.sl true [.sl true [.b, .sl false [.i .u8]], .i .i64, .b])], .v (.i .i64)]⟩
noncomputable def fi156 : Fi := ⟨Try.f156, [], false, [.ag [.ro (.sl true [.sl true [.b, .sl false [.i .u8]], .i .i64, .b]), .v (.i .i64), .ro (.sl true [.i .i64, .i .i64, .i .i64]), .v (.b)], .v (.i .i64), .ro (.sl false [.i .u8])], [.ag [.ow (.sl true [.sl true [.b, .sl false [.i .u8]], .i .i64, .b]), .v (.i .i64), .ow (.sl true [.i .i64, .i .i64, .i .i64]), .v (.b)], .v (.i .i64)]⟩
def x104_3_0 : List (Ex × List Nat × CSt) := [(.ret, [8, 9, 10], ⟨[.bp 8 0, .i .i64 0, .i .i64 0], [.dead, .dead, .dead, .dead, .dead, .dead, .dead, .dead, .box [.rf 9 [] 0 none, .i .i64 0, .rf 10 [] 0 none, .b false, .i .i64 0], .row true [.sl true [.b, .sl false [.i .u8]], .i .i64, .b] [] 0 false, .row true [.i .i64, .i .i64, .i .i64] [] 0 false]⟩), ((.ex 0), [4, 8], ⟨[.bp 8 0, .bp 11 0], [.dead, .dead, .dead, .dead, .dead, .dead, .dead, .dead, .box [.rf 9 [] 0 none, .i .i64 0, .rf 10 [] 0 none, .b false, .i .i64 0], .row true [.sl true [.b, .sl false [.i .u8]], .i .i64, .b] [] 0 false, .row true [.i .i64, .i .i64, .i .i64] [] 0 false, .box [.rf 12 [] 0 none, .i .i64 0, .rf 13 [] 0 none, .b false, .i .i64 0], .row true [.sl true [.b, .sl false [.i .u8]], .i .i64, .b] [] 0 false, .row true [.i .i64, .i .i64, .i .i64] [] 0 false]⟩)]
noncomputable def fi104 : Fi := ⟨Try.f104, [⟨3, [3, 4, 8, 11, 12], [], [(⟨[.i .i64 0, .bp 8 0, .bp 11 0, .rf 14 [] 0 none, .i .i64 0], [.dead, .dead, .dead, .dead, .dead, .dead, .dead, .dead, .box [.rf 9 [] 0 none, .i .i64 0, .rf 10 [] 0 none, .b false, .i .i64 0], .row true [.sl true [.b, .sl false [.i .u8]], .i .i64, .b] [] 0 false, .row true [.i .i64, .i .i64, .i .i64] [] 0 false, .box [.rf 12 [] 0 none, .i .i64 0, .rf 13 [] 0 none, .b false, .i .i64 0], .row true [.sl true [.b, .sl false [.i .u8]], .i .i64, .b] [] 0 false, .row true [.i .i64, .i .i64, .i .i64] [] 0 false, .row false [.i .u8] [] 0 false]⟩, x104_3_0)]⟩], false, [.ag [.mv (.sl true [.sl true [.b, .sl false [.i .u8]], .i .i64, .b]), .v (.i .i64), .mv (.sl true [.i .i64, .i .i64, .i .i64]), .v (.b), .v (.i .i64)], .v (.i .i64), .ro (.sl false [.i .u8]), .v (.i .i64)], [.ag [.ow (.sl true [.sl true [.b, .sl false [.i .u8]], .i .i64, .b]), .v (.i .i64), .ow (.sl true [.i .i64, .i .i64, .i .i64]), .v (.b), .v (.i .i64)], .v (.i .i64), .v (.i .i64)]⟩
noncomputable def fi46 : Fi := ⟨Try.f46, [], false, [.ag [.ro (.sl true [.sl true [.b, .sl false [.i .u8]], .i .i64, .b]), .v (.i .i64), .ro (.sl true [.i .i64, .i .i64, .i .i64]), .v (.b), .v (.i .i64)], .v (.i .i64), .ro (.sl false [.i .u8]), .v (.i .i64)], [.ag [.ow (.sl true [.sl true [.b, .sl false [.i .u8]], .i .i64, .b]), .v (.i .i64), .ow (.sl true [.i .i64, .i .i64, .i .i64]), .v (.b), .v (.i .i64)], .v (.i .i64), .v (.i .i64)]⟩
noncomputable def fi106 : Fi := ⟨Try.f106, [], false, [.bx [.ro (.sl false [.i .u8]), .v (.i .i64), .v (.i .i64)], .v (.i .i64)], [.v (.b)]⟩
def x85_3_0 : List (Ex × List Nat × CSt) := [((.ex 0), [2, 3], ⟨[.bp 4 0, .bp 7 0], [.box [.ro 1 false [.i .u8] [], .i .i64 0, .i .i64 0], .dead, .dead, .dead, .box [.rf 5 [] 0 none, .i .i64 0, .rf 6 [] 0 none, .b false, .i .i64 0], .row true [.sl true [.b, .sl false [.i .u8]], .i .i64, .b] [] 0 false, .row true [.i .i64, .i .i64, .i .i64] [] 0 false, .box [.rf 8 [] 0 none, .i .i64 0, .rf 9 [] 0 none, .b false, .i .i64 0], .row true [.sl true [.b, .sl false [.i .u8]], .i .i64, .b] [] 0 false, .row true [.i .i64, .i .i64, .i .i64] [] 0 false]⟩)]
noncomputable def fi85 : Fi := ⟨Try.f85, [⟨3, [0, 2, 3, 4], [], [(⟨[.bp 0 0, .bp 4 0, .bp 7 0, .i .i64 0], [.box [.ro 1 false [.i .u8] [], .i .i64 0, .i .i64 0], .dead, .dead, .dead, .box [.rf 5 [] 0 none, .i .i64 0, .rf 6 [] 0 none, .b false, .i .i64 0], .row true [.sl true [.b, .sl false [.i .u8]], .i .i64, .b] [] 0 false, .row true [.i .i64, .i .i64, .i .i64] [] 0 false, .box [.rf 8 [] 0 none, .i .i64 0, .rf 9 [] 0 none, .b false, .i .i64 0], .row true [.sl true [.b, .sl false [.i .u8]], .i .i64, .b] [] 0 false, .row true [.i .i64, .i .i64, .i .i64] [] 0 false]⟩, x85_3_0)]⟩], false, [.bx [.ro (.sl false [.i .u8]), .v (.i .i64), .v (.i .i64)]], [.ag [.ow (.sl true [.sl true [.b, .sl false [.i .u8]], .i .i64, .b]), .v (.i .i64), .ow (.sl true [.i .i64, .i .i64, .i .i64]), .v (.b), .v (.i .i64)]]⟩
noncomputable def fi30 : Fi := ⟨Try.f30, [], false, [.ro (.sl false [.i .u8])], [.ag [.ow (.sl true [.sl true [.b, .sl false [.i .u8]], .i .i64, .b]), .v (.i .i64), .ow (.sl true [.i .i64, .i .i64, .i .i64]), .v (.b), .v (.i .i64)], .ow (.sl false [.i .u8])]⟩
noncomputable def fi245 : Fi := ⟨Try.f245, [], false, [.ag [.ro (.sl true [.sl true [.b, .sl false [.i .u8]], .i .i64, .b])], .v (.i .i64)], [.v (.i .i64)]⟩
noncomputable def fi246 : Fi := ⟨Try.f246, [], false, [.ag [.ro (.sl true [.sl true [.b, .sl false [.i .u8]], .i .i64, .b])], .v (.i .i64)], [.ag [.ow (.sl true [.sl true [.b, .sl false [.i .u8]], .i .i64, .b])], .v (.i .i64)]⟩
def x225_14_0 : List (Ex × List Nat × CSt) := [((.ex 0), [4, 6], ⟨[.bp 5 0, .bp 8 0], [.dead, .dead, .dead, .dead, .dead, .box [.rf 6 [] 0 none, .i .i64 0, .rf 7 [] 0 none, .b false], .row true [.sl true [.b, .sl false [.i .u8]], .i .i64, .b] [] 0 false, .row true [.i .i64, .i .i64, .i .i64] [] 0 false, .box [.rf 9 [] 0 none, .i .i64 0, .rf 10 [] 0 none, .b false], .row true [.sl true [.b, .sl false [.i .u8]], .i .i64, .b] [] 0 false, .row true [.i .i64, .i .i64, .i .i64] [] 0 false]⟩)]
noncomputable def fi225 : Fi := ⟨Try.f225, [⟨14, [1, 4, 6, 8, 10], [], [(⟨[.i .i64 0, .bp 5 0, .bp 8 0, .bp 11 0, .i .i64 0], [.dead, .dead, .dead, .dead, .dead, .box [.rf 6 [] 0 none, .i .i64 0, .rf 7 [] 0 none, .b false], .row true [.sl true [.b, .sl false [.i .u8]], .i .i64, .b] [] 0 false, .row true [.i .i64, .i .i64, .i .i64] [] 0 false, .box [.rf 9 [] 0 none, .i .i64 0, .rf 10 [] 0 none, .b false], .row true [.sl true [.b, .sl false [.i .u8]], .i .i64, .b] [] 0 false, .row true [.i .i64, .i .i64, .i .i64] [] 0 false, .box [.i .i64 0, .i .i64 0, .i .i64 0]]⟩, x225_14_0)]⟩], false, [.ag [.ro (.sl true [.sl true [.b, .sl false [.i .u8]], .i .i64, .b]), .v (.i .i64), .ro (.sl true [.i .i64, .i .i64, .i .i64]), .v (.b)], .v (.i .i64)], [.ag [.ow (.sl true [.sl true [.b, .sl false [.i .u8]], .i .i64, .b]), .v (.i .i64), .ow (.sl true [.i .i64, .i .i64, .i .i64]), .v (.b)], .v (.i .i64)]⟩
def x190_3_0 : List (Ex × List Nat × CSt) := [((.ex 0), [2, 3], ⟨[.bp 4 0, .bp 7 0], [.box [.ro 1 false [.i .u8] [], .i .i64 0, .i .i64 0], .dead, .dead, .dead, .box [.rf 5 [] 0 none, .i .i64 0, .rf 6 [] 0 none, .b false], .row true [.sl true [.b, .sl false [.i .u8]], .i .i64, .b] [] 0 false, .row true [.i .i64, .i .i64, .i .i64] [] 0 false, .box [.rf 8 [] 0 none, .i .i64 0, .rf 9 [] 0 none, .b false], .row true [.sl true [.b, .sl false [.i .u8]], .i .i64, .b] [] 0 false, .row true [.i .i64, .i .i64, .i .i64] [] 0 false]⟩)]
noncomputable def fi190 : Fi := ⟨Try.f190, [⟨3, [0, 2, 3, 4], [], [(⟨[.bp 0 0, .bp 4 0, .bp 7 0, .i .i64 0], [.box [.ro 1 false [.i .u8] [], .i .i64 0, .i .i64 0], .dead, .dead, .dead, .box [.rf 5 [] 0 none, .i .i64 0, .rf 6 [] 0 none, .b false], .row true [.sl true [.b, .sl false [.i .u8]], .i .i64, .b] [] 0 false, .row true [.i .i64, .i .i64, .i .i64] [] 0 false, .box [.rf 8 [] 0 none, .i .i64 0, .rf 9 [] 0 none, .b false], .row true [.sl true [.b, .sl false [.i .u8]], .i .i64, .b] [] 0 false, .row true [.i .i64, .i .i64, .i .i64] [] 0 false]⟩, x190_3_0)]⟩], false, [.bx [.ro (.sl false [.i .u8]), .v (.i .i64), .v (.i .i64)]], [.ag [.ow (.sl true [.sl true [.b, .sl false [.i .u8]], .i .i64, .b]), .v (.i .i64), .ow (.sl true [.i .i64, .i .i64, .i .i64]), .v (.b)]]⟩
def x226_3_0 : List (Ex × List Nat × CSt) := [((.ex 0), [0, 2, 3], ⟨[.bp 0 0, .bp 4 0, .bp 6 0], [.box [.ro 1 false [.i .u8] [], .i .i64 0, .i .i64 0], .dead, .dead, .dead, .box [.rf 5 [] 0 none], .row true [.sl true [.b, .sl false [.i .u8]], .i .i64, .b] [] 0 false, .box [.rf 7 [] 0 none], .row true [.sl true [.b, .sl false [.i .u8]], .i .i64, .b] [] 0 false]⟩)]
noncomputable def fi226 : Fi := ⟨Try.f226, [⟨3, [0, 2, 3, 4], [], [(⟨[.bp 0 0, .bp 4 0, .bp 6 0, .i .i64 0], [.box [.ro 1 false [.i .u8] [], .i .i64 0, .i .i64 0], .dead, .dead, .dead, .box [.rf 5 [] 0 none], .row true [.sl true [.b, .sl false [.i .u8]], .i .i64, .b] [] 0 false, .box [.rf 7 [] 0 none], .row true [.sl true [.b, .sl false [.i .u8]], .i .i64, .b] [] 0 false]⟩, x226_3_0)]⟩], false, [.bx [.ro (.sl false [.i .u8]), .v (.i .i64), .v (.i .i64)]], [.ag [.ow (.sl true [.sl true [.b, .sl false [.i .u8]], .i .i64, .b])]]⟩
noncomputable def fi191 : Fi := ⟨Try.f191, [], false, [.bx [.ro (.sl false [.i .u8]), .v (.i .i64), .v (.i .i64)]], [.ag [.ow (.sl true [.sl true [.b, .sl false [.i .u8]], .i .i64, .b])]]⟩
noncomputable def fi148 : Fi := ⟨Try.f148, [], false, [.bx [.ro (.sl false [.i .u8]), .v (.i .i64), .v (.i .i64)]], [.ag [.ow (.sl true [.sl true [.b, .sl false [.i .u8]], .i .i64, .b]), .v (.i .i64), .ow (.sl true [.i .i64, .i .i64, .i .i64]), .v (.b)]]⟩
noncomputable def fi95 : Fi := ⟨Try.f95, [], false, [.bx [.ro (.sl false [.i .u8]), .v (.i .i64), .v (.i .i64)]], [.ag [.ow (.sl true [.sl true [.b, .sl false [.i .u8]], .i .i64, .b]), .v (.i .i64), .ow (.sl true [.i .i64, .i .i64, .i .i64]), .v (.b), .v (.i .i64)]]⟩
noncomputable def fi39 : Fi := ⟨Try.f39, [], false, [.ro (.sl false [.i .u8])], [.ag [.ow (.sl true [.sl true [.b, .sl false [.i .u8]], .i .i64, .b]), .v (.i .i64), .ow (.sl true [.i .i64, .i .i64, .i .i64]), .v (.b), .v (.i .i64)]]⟩
noncomputable def fi40 : Fi := ⟨Try.f40, [], false, [.ro (.sl false [.i .u8])], [.ag [.ow (.sl true [.sl true [.b, .sl false [.i .u8]], .i .i64, .b]), .v (.i .i64), .ow (.sl true [.i .i64, .i .i64, .i .i64]), .v (.b), .v (.i .i64)], .v (.i .i64), .v (.i .i64)]⟩
noncomputable def fi75 : Fi := ⟨Try.f75, [], false, [.v (.i .i64), .v (.i .i64), .v (.i .i64)], [.v (.b)]⟩
noncomputable def fi94 : Fi := ⟨Try.f94, [], false, [.ag [.ro (.sl true [.sl true [.b, .sl false [.i .u8]], .i .i64, .b])], .v (.i .i64)], [.v (.b)]⟩
noncomputable def fi147 : Fi := ⟨Try.f147, [], false, [.ro (.sl false [.i .u8])], [.ow (.sl false [.i .u8])]⟩
noncomputable def fi134 : Fi := ⟨Try.f134, [], false, [.ag [.ro (.sl true [.sl true [.b, .sl false [.i .u8]], .i .i64, .b])], .v (.i .i64), .v (.i .i64)], [.ow (.sl false [.i .u8]), .v (.b)]⟩
def x146_3_0 : List (Ex × List Nat × CSt) := [((.ex 0), [3], ⟨[.i .u32 0], [.dead]⟩)]
def x146_7_0 : List (Ex × List Nat × CSt) := [((.ex 2), [3, 7, 8, 9], ⟨[.i .u32 0, .ro 0 false [.i .u8] [], .i .i64 0, .i .i64 0], [.dead]⟩)]
noncomputable def fi146 : Fi := ⟨Try.f146, [⟨3, [3, 7, 8, 9], [], [(⟨[.i .u32 0, .ro 0 false [.i .u8] [], .i .i64 0, .i .i64 0], [.dead]⟩, x146_3_0)]⟩, ⟨7, [3, 7, 8, 9, 17], [], [(⟨[.i .u32 0, .ro 0 false [.i .u8] [], .i .i64 0, .i .i64 0, .i .i64 0], [.dead]⟩, x146_7_0)]⟩], false, [.ro (.sl false [.i .u8])], [.v (.i .i64)]⟩
noncomputable def fi91 : Fi := ⟨Try.f91, [], false, [.ro (.sl false [.i .u8])], [.ow (.sl false [.i .u8])]⟩
noncomputable def fi183 : Fi := ⟨Try.f183, [], false, [.ro (.sl false [.i .u8])], [.ro (.sl false [.i .u8]), .v (.b)]⟩
def x222_6_0 : List (Ex × List Nat × CSt) := [((.ex 0), [], ⟨[], [.dead, .dead]⟩), (.ret, [4, 5, 6], ⟨[.i .i64 0, .i .i64 0, .b false], [.dead, .dead]⟩)]
noncomputable def fi222 : Fi := ⟨Try.f222, [⟨6, [0, 1, 7, 8, 9], [], [(⟨[.ro 0 false [.i .u8] [], .i .i64 0, .i .i64 0, .i .i64 0, .i .i64 0], [.dead, .dead]⟩, x222_6_0)]⟩], false, [.ro (.sl false [.i .u8]), .v (.i .i64)], [.v (.i .i64), .v (.i .i64), .v (.b)]⟩
noncomputable def fi184 : Fi := ⟨Try.f184, [], false, [.bx [.ro (.sl false [.i .u8]), .v (.i .i64), .v (.b)]], [.v (.i .i64)]⟩
noncomputable def fi223 : Fi := ⟨Try.f223, [], false, [.ro (.sl false [.i .u8]), .v (.i .i64)], [.v (.s), .v (.i .i64), .v (.b)]⟩
noncomputable def fi185 : Fi := ⟨Try.f185, [], false, [.bx [.ro (.sl false [.i .u8]), .v (.i .i64), .v (.b)]], [.v (.s)]⟩
noncomputable def fi186 : Fi := ⟨Try.f186, [], false, [.bx [.ro (.sl false [.i .u8]), .v (.i .i64), .v (.b)]], [.v (.b)]⟩
noncomputable def fi89 : Fi := ⟨Try.f89, [], false, [.ag [.v (.i .i64), .v (.i .i64), .ro (.sl false [.i .u8])]], [.v (.b)]⟩
noncomputable def fi135 : Fi := ⟨Try.f135, [], false, [.ro (.sl false [.i .u8])], [.ag [.v (.i .i64), .v (.i .i64), .ow (.sl false [.i .u8])], .v (.b)]⟩
noncomputable def fi81 : Fi := ⟨Try.f81, [], false, [.ag [.ro (.sl true [.sl true [.b, .sl false [.i .u8]], .i .i64, .b]), .v (.i .i64), .ro (.sl true [.i .i64, .i .i64, .i .i64]), .v (.b), .v (.i .i64)], .v (.i .i64)], [.ag [.v (.i .i64), .v (.i .i64), .ow (.sl false [.i .u8])], .v (.b)]⟩
noncomputable def fi24 : Fi := ⟨Try.f24, [], false, [.ag [.ro (.sl true [.sl true [.b, .sl false [.i .u8]], .i .i64, .b]), .v (.i .i64), .ro (.sl true [.i .i64, .i .i64, .i .i64]), .v (.b), .v (.i .i64)], .v (.i .i64), .v (.i .i64)], [.ag [.v (.i .i64), .v (.i .i64), .ow (.sl false [.i .u8])], .v (.b)]⟩
noncomputable def fi79 : Fi := ⟨Try.f79, [], false, [.ag [.ro (.sl true [.sl true [.b, .sl false [.i .u8]], .i .i64, .b])], .v (.i .i64), .v (.i .i64)], [.ow (.sl false [.i .u8]), .v (.b)]⟩
def x181_3_0 : List (Ex × List Nat × CSt) := [(.ret, [4, 5, 6], ⟨[.i .i64 0, .i .i64 0, .b false], [.dead, .dead]⟩), ((.ex 0), [], ⟨[], [.dead, .dead]⟩)]
noncomputable def fi181 : Fi := ⟨Try.f181, [⟨3, [0, 1, 7, 8], [], [(⟨[.ro 0 false [.i .u8] [], .i .i64 0, .i .i64 0, .i .i64 0], [.dead, .dead]⟩, x181_3_0)]⟩], false, [.ro (.sl false [.i .u8]), .v (.i .i64)], [.v (.i .i64), .v (.i .i64), .v (.b)]⟩
noncomputable def fi131 : Fi := ⟨Try.f131, [], false, [.bx [.ro (.sl false [.i .u8]), .v (.i .i64), .v (.b)]], [.v (.i .i64)]⟩
noncomputable def fi182 : Fi := ⟨Try.f182, [], false, [.ro (.sl false [.i .u8]), .v (.i .i64)], [.v (.s), .v (.i .i64), .v (.b)]⟩
noncomputable def fi132 : Fi := ⟨Try.f132, [], false, [.bx [.ro (.sl false [.i .u8]), .v (.i .i64), .v (.b)]], [.v (.s)]⟩
def x80_6_0 : List (Ex × List Nat × CSt) := [((.ex 0), [0, 2, 4, 5], ⟨[.ro 0 false [.i .u8] [], .bp 1 0, .i .i64 0, .i .i64 0], [.dead, .box [.i .i64 0, .i .i64 0, .rf 2 [] 0 none], .row false [.i .u8] [] 0 false]⟩)]
noncomputable def fi80 : Fi := ⟨Try.f80, [⟨6, [0, 2, 4, 5, 6], [], [(⟨[.ro 0 false [.i .u8] [], .bp 1 0, .i .i64 0, .i .i64 0, .i .i64 0], [.dead, .box [.i .i64 0, .i .i64 0, .rf 2 [] 0 none], .row false [.i .u8] [] 0 false]⟩, x80_6_0)]⟩], false, [.ro (.sl false [.i .u8])], [.ag [.v (.i .i64), .v (.i .i64), .ow (.sl false [.i .u8])], .v (.b)]⟩
noncomputable def fi23 : Fi := ⟨Try.f23, [], false, [.ag [.ro (.sl true [.sl true [.b, .sl false [.i .u8]], .i .i64, .b]), .v (.i .i64), .ro (.sl true [.i .i64, .i .i64, .i .i64]), .v (.b), .v (.i .i64)], .v (.i .i64), .v (.i .i64)], [.ag [.v (.i .i64), .v (.i .i64), .ow (.sl false [.i .u8])], .v (.b)]⟩
def x128_2_0 : List (Ex × List Nat × CSt) := [(.ret, [2], ⟨[.b false], [.dead]⟩), ((.ex 0), [1], ⟨[.bp 1 0], [.dead, .box [.ro 0 true [.sl true [.b, .sl false [.i .u8]], .i .i64, .b] []]]⟩)]
def x128_7_0 : List (Ex × List Nat × CSt) := [(.ret, [2], ⟨[.b false], [.dead]⟩), ((.ex 2), [1, 8, 9, 10], ⟨[.bp 1 0, .ro 0 true [.sl true [.b, .sl false [.i .u8]], .i .i64, .b] [], .i .i64 0, .i .i64 0], [.dead, .box [.ro 0 true [.sl true [.b, .sl false [.i .u8]], .i .i64, .b] []]]⟩)]
noncomputable def fi128 : Fi := ⟨Try.f128, [⟨2, [1, 8, 9, 10], [], [(⟨[.bp 1 0, .ro 0 true [.sl true [.b, .sl false [.i .u8]], .i .i64, .b] [], .i .i64 0, .i .i64 0], [.dead, .box [.ro 0 true [.sl true [.b, .sl false [.i .u8]], .i .i64, .b] []]]⟩, x128_2_0)]⟩, ⟨7, [1, 4, 8, 9, 10, 25, 26, 27], [], [(⟨[.bp 1 0, .bp 2 0, .ro 0 true [.sl true [.b, .sl false [.i .u8]], .i .i64, .b] [], .i .i64 0, .i .i64 0, .ro 0 true [.b, .sl false [.i .u8]] [], .i .i64 0, .i .i64 0], [.dead, .box [.ro 0 true [.sl true [.b, .sl false [.i .u8]], .i .i64, .b] []], .box [.ro 0 true [.b, .sl false [.i .u8]] [], .i .i64 0, .b false]]⟩, x128_7_0)]⟩], false, [.ag [.ro (.sl true [.sl true [.b, .sl false [.i .u8]], .i .i64, .b])]], [.v (.b)]⟩
def x74_2_0 : List (Ex × List Nat × CSt) := [(.ret, [2], ⟨[.b false], [.dead, .dead, .dead, .dead]⟩), ((.ex 0), [1], ⟨[.bp 4 0], [.dead, .dead, .dead, .dead, .box [.ro 0 true [.sl true [.b, .sl false [.i .u8]], .i .i64, .b] [], .i .i64 0, .ro 0 true [.i .i64, .i .i64, .i .i64] [], .b false]]⟩)]
noncomputable def fi74 : Fi := ⟨Try.f74, [⟨2, [1, 6, 7, 8], [], [(⟨[.bp 4 0, .ro 0 true [.i .i64, .i .i64, .i .i64] [], .i .i64 0, .i .i64 0], [.dead, .dead, .dead, .dead, .box [.ro 0 true [.sl true [.b, .sl false [.i .u8]], .i .i64, .b] [], .i .i64 0, .ro 0 true [.i .i64, .i .i64, .i .i64] [], .b false]]⟩, x74_2_0)]⟩], false, [.ag [.ro (.sl true [.sl true [.b, .sl false [.i .u8]], .i .i64, .b]), .v (.i .i64), .ro (.sl true [.i .i64, .i .i64, .i .i64]), .v (.b)]], [.v (.b)]⟩
noncomputable def fi77 : Fi := ⟨Try.f77, [], true, [], []⟩
def x76_2_0 : List (Ex × List Nat × CSt) := [((.ex 0), [], ⟨[], [.box [.b false], .box [.ro 0 true [.sl true [.b, .sl false [.i .u8]], .i .i64, .b] [], .i .i64 0, .ro 0 true [.i .i64, .i .i64, .i .i64] [], .b false, .i .i64 0]]⟩)]
noncomputable def fi76 : Fi := ⟨Try.f76, [⟨2, [1, 2, 12, 13], [], [(⟨[.fn 77 [.bp 0 0, .bp 1 0], .bp 2 0, .i .i64 0, .i .i64 0], [.box [.b false], .box [.ro 0 true [.sl true [.b, .sl false [.i .u8]], .i .i64, .b] [], .i .i64 0, .ro 0 true [.i .i64, .i .i64, .i .i64] [], .b false, .i .i64 0], .box [.ro 0 true [.sl true [.b, .sl false [.i .u8]], .i .i64, .b] [], .i .i64 0, .ro 0 true [.i .i64, .i .i64, .i .i64] [], .b false, .i .i64 0]]⟩, x76_2_0)]⟩], true, [], []⟩
noncomputable def fi21 : Fi := ⟨Try.f21, [], false, [.ag [.ro (.sl true [.sl true [.b, .sl false [.i .u8]], .i .i64, .b]), .v (.i .i64), .ro (.sl true [.i .i64, .i .i64, .i .i64]), .v (.b), .v (.i .i64)]], [.v (.b)]⟩
def x72_3_0 : List (Ex × List Nat × CSt) := [((.ex 0), [3], ⟨[.i .i64 0], [.dead]⟩)]
def x72_6_0 : List (Ex × List Nat × CSt) := [((.ex 2), [1, 3, 4], ⟨[.bp 1 0, .i .i64 0, .i .i64 0], [.dead, .box [.ro 0 true [.sl true [.b, .sl false [.i .u8]], .i .i64, .b] []]]⟩)]
noncomputable def fi72 : Fi := ⟨Try.f72, [⟨3, [1, 3, 4], [], [(⟨[.bp 1 0, .i .i64 0, .i .i64 0], [.dead, .box [.ro 0 true [.sl true [.b, .sl false [.i .u8]], .i .i64, .b] []]]⟩, x72_3_0)]⟩, ⟨6, [1, 3, 4, 5], [], [(⟨[.bp 1 0, .i .i64 0, .i .i64 0, .i .i64 0], [.dead, .box [.ro 0 true [.sl true [.b, .sl false [.i .u8]], .i .i64, .b] []]]⟩, x72_6_0)]⟩], false, [.ag [.ro (.sl true [.sl true [.b, .sl false [.i .u8]], .i .i64, .b])]], [.v (.i .i64)]⟩
noncomputable def fi19 : Fi := ⟨Try.f19, [], false, [.ag [.ro (.sl true [.sl true [.b, .sl false [.i .u8]], .i .i64, .b]), .v (.i .i64), .ro (.sl true [.i .i64, .i .i64, .i .i64]), .v (.b), .v (.i .i64)]], [.v (.b)]⟩
noncomputable def fi8 : Fi := ⟨Try.f8, [], false, [.ro (.sl false [.i .u8])], [.v (.b)]⟩
noncomputable def fiTab : List (Nat × Fi) := [(29, fi29), (84, fi84), (149, fi149), (97, fi97), (96, fi96), (139, fi139), (71, fi71), (188, fi188), (176, fi176), (124, fi124), (125, fi125), (70, fi70), (138, fi138), (140, fi140), (86, fi86), (228, fi228), (194, fi194), (152, fi152), (102, fi102), (103, fi103), (196, fi196), (195, fi195), (133, fi133), (153, fi153), (197, fi197), (198, fi198), (154, fi154), (155, fi155), (229, fi229), (200, fi200), (199, fi199), (201, fi201), (202, fi202), (156, fi156), (104, fi104), (46, fi46), (106, fi106), (85, fi85), (30, fi30), (245, fi245), (246, fi246), (225, fi225), (190, fi190), (226, fi226), (191, fi191), (148, fi148), (95, fi95), (39, fi39), (40, fi40), (75, fi75), (94, fi94), (147, fi147), (134, fi134), (146, fi146), (91, fi91), (183, fi183), (222, fi222), (184, fi184), (223, fi223), (185, fi185), (186, fi186), (89, fi89), (135, fi135), (81, fi81), (24, fi24), (79, fi79), (181, fi181), (131, fi131), (182, fi182), (132, fi132), (80, fi80), (23, fi23), (128, fi128), (74, fi74), (77, fi77), (76, fi76), (21, fi21), (72, fi72), (19, fi19), (8, fi8)]
-- EXT 147 clone 56 5
def X : Nat → Option (List T → Option (List T)) := lookN [(147, cloneF)]
noncomputable def env : Env := ⟨lookN fiTab, lookN tyTab⟩
-- FUNCTIONS
def f29_t (c : Orc) (lf : Nat) (l0 : List T) : Option (List T) :=
 some [T.b (iLt 1048576 (l0.length : Int))]
def f29 (c : Orc) (lf : Nat) (l0 : List T) : Option (List T) := f29_t c lf l0
theorem f29_raw (c : Orc) (lf : Nat) (l0 : List T) : funK c env lf 6 fi29 [.sl l0] = f29_t c lf l0 := by kernel_rfl
theorem f29_eq (c : Orc) (lf : Nat) (l0 : List T) : funK c env lf 6 fi29 [.sl l0] = f29 c lf l0 := by
 refine (f29_raw c lf l0).trans ?_
 rfl
def f84_0_s (c : Orc) (lf : Nat) (l0 : List T) (L : Int → Int → Option (List T)) (x7 : Int) (x8 : Int) : Option (List T) :=
 bif iLt x8 (l0.length : Int) then
  bif iLt x8 4000 then
   bif inR x8 l0.length then
   L (intBits .and .i64 (IntKind.wrap .i64 ((IntKind.wrap .i64 ((IntKind.wrap .i64 (x7 * 137)) + (IntKind.wrap .i64 (asI (l0.getD x8.toNat T.u))))) + 11)) 1073741823) (IntKind.wrap .i64 (x8 + 1))
   else none
  else
   some [T.i .i64 0, T.sl l0, T.i .i64 x7]
 else
  some [T.i .i64 0, T.sl l0, T.i .i64 x7]
def f84_0_c (l0 : List T) (x7 : Int) (x8 : Int) : CSt := ⟨[.ro 0 false [.i .u8] l0, .i .i64 x7, .i .i64 x8], [.dead]⟩
theorem f84_0_round (c : Orc) (lf : Nat) (l0 : List T) (L : CSt → Option (List T)) (x7 : Int) (x8 : Int) :
  roundK c env lf 6 fi84 1 3 [] [0, 3, 4] (x84_3_0) L (f84_0_c l0 x7 x8) = f84_0_s c lf l0 (fun x7 x8 => L (f84_0_c l0 x7 x8)) x7 x8 := by kernel_rfl
def f84_0 (c : Orc) (lf : Nat) (l0 : List T) : Nat → Int → Int → Option (List T)
 | 0 => fun _ _ => none
 | n + 1 => fun x7 x8 => f84_0_s c lf l0 (f84_0 c lf l0 n) x7 x8
theorem f84_0_u (c : Orc) (lf : Nat) (l0 : List T) (n : Nat) (x7 : Int) (x8 : Int) : f84_0 c lf l0 (n + 1) x7 x8 = f84_0_s c lf l0 (f84_0 c lf l0 n) x7 x8 := rfl
theorem f84_0_eq (c : Orc) (lf : Nat) (l0 : List T) (n : Nat) (x7 : Int) (x8 : Int) :
  lpK c env lf 6 fi84 1 3 [] [0, 3, 4] (x84_3_0) n (f84_0_c l0 x7 x8) = f84_0 c lf l0 n x7 x8 := by
 induction n generalizing x7 x8 with
 | zero => rfl
 | succ n ih =>
  refine (f84_0_round c lf l0 _ x7 x8).trans ?_
  have e : (fun x7 x8 => lpK c env lf 6 fi84 1 3 [] [0, 3, 4] (x84_3_0) n (f84_0_c l0 x7 x8)) = f84_0 c lf l0 n := by funext x7 x8; exact ih x7 x8
  show f84_0_s c lf l0 (fun x7 x8 => lpK c env lf 6 fi84 1 3 [] [0, 3, 4] (x84_3_0) n (f84_0_c l0 x7 x8)) x7 x8 = _
  rw [e]; rfl
def f84_t (c : Orc) (lf : Nat) (lp0 : List T → Int → Int → Option (List T)) (l0 : List T) : Option (List T) :=
 (lp0 l0 (IntKind.wrap .i64 (351351 + (l0.length : Int))) 0).bind fun r9 =>
 some [T.st [T.sl (asL (nth r9 1)), T.i .i64 0, T.i .i64 (asI (nth r9 2))]]
def f84 (c : Orc) (lf : Nat) (l0 : List T) : Option (List T) := f84_t c lf (fun (l0 : List T) (x7 : Int) (x8 : Int) => f84_0 c lf l0 lf x7 x8) l0
theorem f84_raw (c : Orc) (lf : Nat) (l0 : List T) : funK c env lf 6 fi84 [.sl l0] = f84_t c lf (fun (l0 : List T) (x7 : Int) (x8 : Int) => lpK c env lf 6 fi84 1 3 [] [0, 3, 4] (x84_3_0) lf (f84_0_c l0 x7 x8)) l0 := by kernel_rfl
theorem f84_eq (c : Orc) (lf : Nat) (l0 : List T) : funK c env lf 6 fi84 [.sl l0] = f84 c lf l0 := by
 refine (f84_raw c lf l0).trans ?_
 have e0 : (fun (l0 : List T) (x7 : Int) (x8 : Int) => lpK c env lf 6 fi84 1 3 [] [0, 3, 4] (x84_3_0) lf (f84_0_c l0 x7 x8)) = (fun (l0 : List T) (x7 : Int) (x8 : Int) => f84_0 c lf l0 lf x7 x8) := by funext l0 x7 x8; exact f84_0_eq c lf l0 lf x7 x8
 rw [e0]; rfl
def f149_t (c : Orc) (lf : Nat) (l0_0 : List T) (n0_1 : Int) (n0_2 : Int) : Option (List T) :=
 bif iLt n0_1 (l0_0.length : Int) then
  bif inR n0_1 l0_0.length then
  some [T.i .i64 (intBits .and .i64 (IntKind.wrap .i64 ((intBits .and .i64 (intBits .xor .i64 (shiftI .shr .i64 (IntKind.wrap .i64 ((IntKind.wrap .i64 (n0_2 * 6364136223846793005)) + 1442695040888963407)) 33) (shiftI .shr .i64 (IntKind.wrap .i64 ((IntKind.wrap .i64 (n0_2 * 6364136223846793005)) + 1442695040888963407)) 47)) 255) + (IntKind.wrap .i64 (asI (l0_0.getD n0_1.toNat T.u))))) 255), T.st [T.sl l0_0, T.i .i64 (IntKind.wrap .i64 (n0_1 + 1)), T.i .i64 (IntKind.wrap .i64 ((IntKind.wrap .i64 (n0_2 * 6364136223846793005)) + 1442695040888963407))]]
  else none
 else
  some [T.i .i64 (intBits .and .i64 (intBits .xor .i64 (shiftI .shr .i64 (IntKind.wrap .i64 ((IntKind.wrap .i64 (n0_2 * 6364136223846793005)) + 1442695040888963407)) 33) (shiftI .shr .i64 (IntKind.wrap .i64 ((IntKind.wrap .i64 (n0_2 * 6364136223846793005)) + 1442695040888963407)) 47)) 255), T.st [T.sl l0_0, T.i .i64 n0_1, T.i .i64 (IntKind.wrap .i64 ((IntKind.wrap .i64 (n0_2 * 6364136223846793005)) + 1442695040888963407))]]
def f149 (c : Orc) (lf : Nat) (l0_0 : List T) (n0_1 : Int) (n0_2 : Int) : Option (List T) := f149_t c lf l0_0 n0_1 n0_2
theorem f149_raw (c : Orc) (lf : Nat) (l0_0 : List T) (n0_1 : Int) (n0_2 : Int) : funK c env lf 6 fi149 [.st [.sl l0_0, .i .i64 n0_1, .i .i64 n0_2]] = f149_t c lf l0_0 n0_1 n0_2 := by kernel_rfl
theorem f149_eq (c : Orc) (lf : Nat) (l0_0 : List T) (n0_1 : Int) (n0_2 : Int) : funK c env lf 6 fi149 [.st [.sl l0_0, .i .i64 n0_1, .i .i64 n0_2]] = f149 c lf l0_0 n0_1 n0_2 := by
 refine (f149_raw c lf l0_0 n0_1 n0_2).trans ?_
 rfl
def f97_t (c : Orc) (lf : Nat) (l0_0 : List T) (n0_1 : Int) (n0_2 : Int) (n1 : Int) : Option (List T) :=
 bif iLe n1 0 then
  some [T.i .i64 0, T.st [T.sl l0_0, T.i .i64 n0_1, T.i .i64 n0_2]]
 else
  bif iLe n1 256 then
   (c 149 [T.st [T.sl l0_0, T.i .i64 n0_1, T.i .i64 n0_2]]).bind fun r10 =>
   bif n1 != 0 then
   some [T.i .i64 ((asI (nth r10 0)).tmod n1), T.st [T.sl l0_0, T.i .i64 (asI (T.cell (nth r10 1) 1)), T.i .i64 (asI (T.cell (nth r10 1) 2))]]
   else none
  else
   (c 149 [T.st [T.sl l0_0, T.i .i64 n0_1, T.i .i64 n0_2]]).bind fun r11 =>
   (c 149 [T.st [T.sl l0_0, T.i .i64 (asI (T.cell (nth r11 1) 1)), T.i .i64 (asI (T.cell (nth r11 1) 2))]]).bind fun r12 =>
   (c 149 [T.st [T.sl l0_0, T.i .i64 (asI (T.cell (nth r12 1) 1)), T.i .i64 (asI (T.cell (nth r12 1) 2))]]).bind fun r13 =>
   bif n1 != 0 then
   some [T.i .i64 ((IntKind.wrap .i64 ((IntKind.wrap .i64 ((IntKind.wrap .i64 ((asI (nth r11 0)) * 65536)) + (IntKind.wrap .i64 ((asI (nth r12 0)) * 256)))) + (asI (nth r13 0)))).tmod n1), T.st [T.sl l0_0, T.i .i64 (asI (T.cell (nth r13 1) 1)), T.i .i64 (asI (T.cell (nth r13 1) 2))]]
   else none
def f97 (c : Orc) (lf : Nat) (l0_0 : List T) (n0_1 : Int) (n0_2 : Int) (n1 : Int) : Option (List T) := f97_t c lf l0_0 n0_1 n0_2 n1
theorem f97_raw (c : Orc) (lf : Nat) (l0_0 : List T) (n0_1 : Int) (n0_2 : Int) (n1 : Int) : funK c env lf 6 fi97 [.st [.sl l0_0, .i .i64 n0_1, .i .i64 n0_2], .i .i64 n1] = f97_t c lf l0_0 n0_1 n0_2 n1 := by kernel_rfl
theorem f97_eq (c : Orc) (lf : Nat) (l0_0 : List T) (n0_1 : Int) (n0_2 : Int) (n1 : Int) : funK c env lf 6 fi97 [.st [.sl l0_0, .i .i64 n0_1, .i .i64 n0_2], .i .i64 n1] = f97 c lf l0_0 n0_1 n0_2 n1 := by
 refine (f97_raw c lf l0_0 n0_1 n0_2 n1).trans ?_
 rfl
def f96_t (c : Orc) (lf : Nat) (l0_0 : List T) (n0_1 : Int) (n0_2 : Int) (l1 : List T) : Option (List T) :=
 (c 97 [T.st [T.sl l0_0, T.i .i64 n0_1, T.i .i64 n0_2], T.i .i64 (l1.length : Int)]).bind fun r14 =>
 bif inR (asI (nth r14 0)) l1.length then
 some [T.i .i64 (asI (l1.getD ((asI (nth r14 0)).toNat) T.u)), T.st [T.sl l0_0, T.i .i64 (asI (T.cell (nth r14 1) 1)), T.i .i64 (asI (T.cell (nth r14 1) 2))]]
 else none
def f96 (c : Orc) (lf : Nat) (l0_0 : List T) (n0_1 : Int) (n0_2 : Int) (l1 : List T) : Option (List T) := f96_t c lf l0_0 n0_1 n0_2 l1
theorem f96_raw (c : Orc) (lf : Nat) (l0_0 : List T) (n0_1 : Int) (n0_2 : Int) (l1 : List T) : funK c env lf 6 fi96 [.st [.sl l0_0, .i .i64 n0_1, .i .i64 n0_2], .sl l1] = f96_t c lf l0_0 n0_1 n0_2 l1 := by kernel_rfl
theorem f96_eq (c : Orc) (lf : Nat) (l0_0 : List T) (n0_1 : Int) (n0_2 : Int) (l1 : List T) : funK c env lf 6 fi96 [.st [.sl l0_0, .i .i64 n0_1, .i .i64 n0_2], .sl l1] = f96 c lf l0_0 n0_1 n0_2 l1 := by
 refine (f96_raw c lf l0_0 n0_1 n0_2 l1).trans ?_
 rfl
def f139_0_s (c : Orc) (lf : Nat) (l0_0 : List T) (L : Int → Int → Int → Int → List T → Option (List T)) (x32 : Int) (x33 : Int) (x34 : Int) (x35 : Int) (x36 : List T) : Option (List T) :=
 bif iLt 0 x33 then
  (c 97 [T.st [T.sl l0_0, T.i .i64 x34, T.i .i64 x35], T.i .i64 12]).bind fun r37 =>
  (c 97 [T.st [T.sl l0_0, T.i .i64 (asI (T.cell (nth r37 1) 1)), T.i .i64 (asI (T.cell (nth r37 1) 2))], T.i .i64 2]).bind fun r38 =>
  (c 96 [T.st [T.sl l0_0, T.i .i64 (asI (T.cell (nth r38 1) 1)), T.i .i64 (asI (T.cell (nth r38 1) 2))], T.sl ([T.i .i64 0, T.i .i64 1, T.i .i64 5, T.i .i64 8, T.i .i64 400] : List T)]).bind fun r39 =>
  bif nLe (x36.length + ([T.st [T.i .i64 (IntKind.wrap .i64 (x32 + (asI (nth r37 0)))), T.i .i64 (IntKind.wrap .i64 (1 + (asI (nth r38 0)))), T.i .i64 (asI (nth r39 0))]] : List T).length) LIM then
  L (IntKind.wrap .i64 ((IntKind.wrap .i64 (x32 + (asI (nth r37 0)))) + 1)) (IntKind.wrap .i64 (x33 - 1)) (asI (T.cell (nth r39 1) 1)) (asI (T.cell (nth r39 1) 2)) (x36 ++ ([T.st [T.i .i64 (IntKind.wrap .i64 (x32 + (asI (nth r37 0)))), T.i .i64 (IntKind.wrap .i64 (1 + (asI (nth r38 0)))), T.i .i64 (asI (nth r39 0))]] : List T))
  else none
 else
  some [T.i .i64 0, T.sl l0_0, T.i .i64 x34, T.i .i64 x35, T.sl x36]
def f139_0_c (l0_0 : List T) (x32 : Int) (x33 : Int) (x34 : Int) (x35 : Int) (x36 : List T) : CSt := ⟨[.bp 0 0, .rf 4 [] 0 none, .i .i64 x32, .i .i64 x33], [.box [.ro 1 false [.i .u8] l0_0, .i .i64 x34, .i .i64 x35], .dead, .dead, .dead, .row true [.i .i64, .i .i64, .i .i64] x36 0 false]⟩
theorem f139_0_round (c : Orc) (lf : Nat) (l0_0 : List T) (L : CSt → Option (List T)) (x32 : Int) (x33 : Int) (x34 : Int) (x35 : Int) (x36 : List T) :
  roundK c env lf 6 fi139 4 4 [] [0, 3, 4, 5] (x139_4_0) L (f139_0_c l0_0 x32 x33 x34 x35 x36) = f139_0_s c lf l0_0 (fun x32 x33 x34 x35 x36 => L (f139_0_c l0_0 x32 x33 x34 x35 x36)) x32 x33 x34 x35 x36 := by kernel_rfl
def f139_0 (c : Orc) (lf : Nat) (l0_0 : List T) : Nat → Int → Int → Int → Int → List T → Option (List T)
 | 0 => fun _ _ _ _ _ => none
 | n + 1 => fun x32 x33 x34 x35 x36 => f139_0_s c lf l0_0 (f139_0 c lf l0_0 n) x32 x33 x34 x35 x36
theorem f139_0_u (c : Orc) (lf : Nat) (l0_0 : List T) (n : Nat) (x32 : Int) (x33 : Int) (x34 : Int) (x35 : Int) (x36 : List T) : f139_0 c lf l0_0 (n + 1) x32 x33 x34 x35 x36 = f139_0_s c lf l0_0 (f139_0 c lf l0_0 n) x32 x33 x34 x35 x36 := rfl
theorem f139_0_eq (c : Orc) (lf : Nat) (l0_0 : List T) (n : Nat) (x32 : Int) (x33 : Int) (x34 : Int) (x35 : Int) (x36 : List T) :
  lpK c env lf 6 fi139 4 4 [] [0, 3, 4, 5] (x139_4_0) n (f139_0_c l0_0 x32 x33 x34 x35 x36) = f139_0 c lf l0_0 n x32 x33 x34 x35 x36 := by
 induction n generalizing x32 x33 x34 x35 x36 with
 | zero => rfl
 | succ n ih =>
  refine (f139_0_round c lf l0_0 _ x32 x33 x34 x35 x36).trans ?_
  have e : (fun x32 x33 x34 x35 x36 => lpK c env lf 6 fi139 4 4 [] [0, 3, 4, 5] (x139_4_0) n (f139_0_c l0_0 x32 x33 x34 x35 x36)) = f139_0 c lf l0_0 n := by funext x32 x33 x34 x35 x36; exact ih x32 x33 x34 x35 x36
  show f139_0_s c lf l0_0 (fun x32 x33 x34 x35 x36 => lpK c env lf 6 fi139 4 4 [] [0, 3, 4, 5] (x139_4_0) n (f139_0_c l0_0 x32 x33 x34 x35 x36)) x32 x33 x34 x35 x36 = _
  rw [e]; rfl
def f139_t (c : Orc) (lf : Nat) (lp0 : List T → Int → Int → Int → Int → List T → Option (List T)) (l0_0 : List T) (n0_1 : Int) (n0_2 : Int) : Option (List T) :=
 (c 97 [T.st [T.sl l0_0, T.i .i64 n0_1, T.i .i64 n0_2], T.i .i64 4]).bind fun r28 =>
 (lp0 l0_0 0 (asI (nth r28 0)) (asI (T.cell (nth r28 1) 1)) (asI (T.cell (nth r28 1) 2)) ([] : List T)).bind fun r40 =>
 some [T.sl (asL (nth r40 4)), T.st [T.sl (asL (nth r40 1)), T.i .i64 (asI (nth r40 2)), T.i .i64 (asI (nth r40 3))]]
def f139 (c : Orc) (lf : Nat) (l0_0 : List T) (n0_1 : Int) (n0_2 : Int) : Option (List T) := f139_t c lf (fun (l0_0 : List T) (x32 : Int) (x33 : Int) (x34 : Int) (x35 : Int) (x36 : List T) => f139_0 c lf l0_0 lf x32 x33 x34 x35 x36) l0_0 n0_1 n0_2
theorem f139_raw (c : Orc) (lf : Nat) (l0_0 : List T) (n0_1 : Int) (n0_2 : Int) : funK c env lf 6 fi139 [.st [.sl l0_0, .i .i64 n0_1, .i .i64 n0_2]] = f139_t c lf (fun (l0_0 : List T) (x32 : Int) (x33 : Int) (x34 : Int) (x35 : Int) (x36 : List T) => lpK c env lf 6 fi139 4 4 [] [0, 3, 4, 5] (x139_4_0) lf (f139_0_c l0_0 x32 x33 x34 x35 x36)) l0_0 n0_1 n0_2 := by kernel_rfl
theorem f139_eq (c : Orc) (lf : Nat) (l0_0 : List T) (n0_1 : Int) (n0_2 : Int) : funK c env lf 6 fi139 [.st [.sl l0_0, .i .i64 n0_1, .i .i64 n0_2]] = f139 c lf l0_0 n0_1 n0_2 := by
 refine (f139_raw c lf l0_0 n0_1 n0_2).trans ?_
 have e0 : (fun (l0_0 : List T) (x32 : Int) (x33 : Int) (x34 : Int) (x35 : Int) (x36 : List T) => lpK c env lf 6 fi139 4 4 [] [0, 3, 4, 5] (x139_4_0) lf (f139_0_c l0_0 x32 x33 x34 x35 x36)) = (fun (l0_0 : List T) (x32 : Int) (x33 : Int) (x34 : Int) (x35 : Int) (x36 : List T) => f139_0 c lf l0_0 lf x32 x33 x34 x35 x36) := by funext l0_0 x32 x33 x34 x35 x36; exact f139_0_eq c lf l0_0 lf x32 x33 x34 x35 x36
 rw [e0]; rfl
def f71_t (c : Orc) (lf : Nat) (n0 : Int) (n1 : Int) (n2 : Int) : Option (List T) :=
 bif iLe n1 n0 then
  some [T.b (iLe n0 n2)]
 else
  some [T.b false]
def f71 (c : Orc) (lf : Nat) (n0 : Int) (n1 : Int) (n2 : Int) : Option (List T) := f71_t c lf n0 n1 n2
theorem f71_raw (c : Orc) (lf : Nat) (n0 : Int) (n1 : Int) (n2 : Int) : funK c env lf 6 fi71 [.i .i64 n0, .i .i64 n1, .i .i64 n2] = f71_t c lf n0 n1 n2 := by kernel_rfl
theorem f71_eq (c : Orc) (lf : Nat) (n0 : Int) (n1 : Int) (n2 : Int) : funK c env lf 6 fi71 [.i .i64 n0, .i .i64 n1, .i .i64 n2] = f71 c lf n0 n1 n2 := by
 refine (f71_raw c lf n0 n1 n2).trans ?_
 rfl
def f188_0_s (c : Orc) (lf : Nat) (n0 : Int) (L : Int → List T → Option (List T)) (x47 : Int) (x48 : List T) : Option (List T) :=
 bif iLt x47 n0 then
  (c 71 [T.i .i64 n0, T.i .i64 3, T.i .i64 24]).bind fun r49 =>
  bif asB (nth r49 0) then
   bif nLe (x48.length + ([T.st [T.sl ([T.st [T.b false, T.sl []], T.st [T.b false, T.sl []], T.st [T.b false, T.sl []], T.st [T.b false, T.sl []], T.st [T.b false, T.sl []], T.st [T.b false, T.sl []], T.st [T.b false, T.sl []], T.st [T.b false, T.sl []]] : List T), T.i .i64 0, T.b false]] : List T).length) LIM then
   L (IntKind.wrap .i64 (x47 + 1)) (x48 ++ ([T.st [T.sl ([T.st [T.b false, T.sl []], T.st [T.b false, T.sl []], T.st [T.b false, T.sl []], T.st [T.b false, T.sl []], T.st [T.b false, T.sl []], T.st [T.b false, T.sl []], T.st [T.b false, T.sl []], T.st [T.b false, T.sl []]] : List T), T.i .i64 0, T.b false]] : List T))
   else none
  else
   some [T.i .i64 0, T.sl ([] : List T), T.sl x48]
 else
  some [T.i .i64 0, T.sl ([] : List T), T.sl x48]
def f188_0_c (n0 : Int) (x47 : Int) (x48 : List T) : CSt := ⟨[.i .i64 n0, .bp 1 0, .bp 3 0, .i .i64 x47], [.dead, .box [.rf 2 [] 0 none], .row true [.sl true [.b, .sl false [.i .u8]], .i .i64, .b] ([] : List T) 0 false, .box [.rf 4 [] 0 none], .row true [.sl true [.b, .sl false [.i .u8]], .i .i64, .b] x48 0 false]⟩
theorem f188_0_round (c : Orc) (lf : Nat) (n0 : Int) (L : CSt → Option (List T)) (x47 : Int) (x48 : List T) :
  roundK c env lf 6 fi188 1 3 [] [0, 2, 3, 4] (x188_3_0) L (f188_0_c n0 x47 x48) = f188_0_s c lf n0 (fun x47 x48 => L (f188_0_c n0 x47 x48)) x47 x48 := by kernel_rfl
def f188_0 (c : Orc) (lf : Nat) (n0 : Int) : Nat → Int → List T → Option (List T)
 | 0 => fun _ _ => none
 | n + 1 => fun x47 x48 => f188_0_s c lf n0 (f188_0 c lf n0 n) x47 x48
theorem f188_0_u (c : Orc) (lf : Nat) (n0 : Int) (n : Nat) (x47 : Int) (x48 : List T) : f188_0 c lf n0 (n + 1) x47 x48 = f188_0_s c lf n0 (f188_0 c lf n0 n) x47 x48 := rfl
theorem f188_0_eq (c : Orc) (lf : Nat) (n0 : Int) (n : Nat) (x47 : Int) (x48 : List T) :
  lpK c env lf 6 fi188 1 3 [] [0, 2, 3, 4] (x188_3_0) n (f188_0_c n0 x47 x48) = f188_0 c lf n0 n x47 x48 := by
 induction n generalizing x47 x48 with
 | zero => rfl
 | succ n ih =>
  refine (f188_0_round c lf n0 _ x47 x48).trans ?_
  have e : (fun x47 x48 => lpK c env lf 6 fi188 1 3 [] [0, 2, 3, 4] (x188_3_0) n (f188_0_c n0 x47 x48)) = f188_0 c lf n0 n := by funext x47 x48; exact ih x47 x48
  show f188_0_s c lf n0 (fun x47 x48 => lpK c env lf 6 fi188 1 3 [] [0, 2, 3, 4] (x188_3_0) n (f188_0_c n0 x47 x48)) x47 x48 = _
  rw [e]; rfl
def f188_t (c : Orc) (lf : Nat) (lp0 : Int → Int → List T → Option (List T)) (n0 : Int) : Option (List T) :=
 (lp0 n0 0 ([] : List T)).bind fun r50 =>
 some [T.st [T.sl (asL (nth r50 2))]]
def f188 (c : Orc) (lf : Nat) (n0 : Int) : Option (List T) := f188_t c lf (fun (n0 : Int) (x47 : Int) (x48 : List T) => f188_0 c lf n0 lf x47 x48) n0
theorem f188_raw (c : Orc) (lf : Nat) (n0 : Int) : funK c env lf 6 fi188 [.i .i64 n0] = f188_t c lf (fun (n0 : Int) (x47 : Int) (x48 : List T) => lpK c env lf 6 fi188 1 3 [] [0, 2, 3, 4] (x188_3_0) lf (f188_0_c n0 x47 x48)) n0 := by kernel_rfl
theorem f188_eq (c : Orc) (lf : Nat) (n0 : Int) : funK c env lf 6 fi188 [.i .i64 n0] = f188 c lf n0 := by
 refine (f188_raw c lf n0).trans ?_
 have e0 : (fun (n0 : Int) (x47 : Int) (x48 : List T) => lpK c env lf 6 fi188 1 3 [] [0, 2, 3, 4] (x188_3_0) lf (f188_0_c n0 x47 x48)) = (fun (n0 : Int) (x47 : Int) (x48 : List T) => f188_0 c lf n0 lf x47 x48) := by funext n0 x47 x48; exact f188_0_eq c lf n0 lf x47 x48
 rw [e0]; rfl
def f176_0_s (c : Orc) (lf : Nat) (b0_2 : Bool) (l0_0 : List T) (n0_1 : Int) (L : Int → Option (List T)) (x55 : Int) : Option (List T) :=
 bif iLt x55 (l0_0.length : Int) then
  bif inR x55 l0_0.length then
  bif iLt 400 ((asL (T.cell (l0_0.getD x55.toNat T.u) 1)).length : Int) then
   some [T.i .i64 0, T.b false]
  else
   bif !(asB (T.cell (l0_0.getD x55.toNat T.u) 0)) then
    bif iLt 0 ((asL (T.cell (l0_0.getD x55.toNat T.u) 1)).length : Int) then
     some [T.i .i64 0, T.b false]
    else
     bif iLt 0 x55 then
      bif asB (T.cell (l0_0.getD x55.toNat T.u) 0) then
       bif inR (IntKind.wrap .i64 (x55 - 1)) l0_0.length then
       bif !(asB (T.cell (l0_0.getD ((IntKind.wrap .i64 (x55 - 1)).toNat) T.u) 0)) then
        some [T.i .i64 0, T.b false]
       else
        L (IntKind.wrap .i64 (x55 + 1))
       else none
      else
       L (IntKind.wrap .i64 (x55 + 1))
     else
      L (IntKind.wrap .i64 (x55 + 1))
   else
    bif iLt 0 x55 then
     bif asB (T.cell (l0_0.getD x55.toNat T.u) 0) then
      bif inR (IntKind.wrap .i64 (x55 - 1)) l0_0.length then
      bif !(asB (T.cell (l0_0.getD ((IntKind.wrap .i64 (x55 - 1)).toNat) T.u) 0)) then
       some [T.i .i64 0, T.b false]
      else
       L (IntKind.wrap .i64 (x55 + 1))
      else none
     else
      L (IntKind.wrap .i64 (x55 + 1))
    else
     L (IntKind.wrap .i64 (x55 + 1))
  else none
 else
  some [T.i .i64 1]
def f176_0_c (b0_2 : Bool) (l0_0 : List T) (n0_1 : Int) (x55 : Int) : CSt := ⟨[.bp 3 0, .i .i64 x55], [.dead, .dead, .dead, .box [.ro 0 true [.b, .sl false [.i .u8]] l0_0, .i .i64 n0_1, .b b0_2]]⟩
theorem f176_0_round (c : Orc) (lf : Nat) (b0_2 : Bool) (l0_0 : List T) (n0_1 : Int) (L : CSt → Option (List T)) (x55 : Int) :
  roundK c env lf 6 fi176 3 4 [] [1, 3] (x176_4_0) L (f176_0_c b0_2 l0_0 n0_1 x55) = f176_0_s c lf b0_2 l0_0 n0_1 (fun x55 => L (f176_0_c b0_2 l0_0 n0_1 x55)) x55 := by kernel_rfl
def f176_0 (c : Orc) (lf : Nat) (b0_2 : Bool) (l0_0 : List T) (n0_1 : Int) : Nat → Int → Option (List T)
 | 0 => fun _ => none
 | n + 1 => fun x55 => f176_0_s c lf b0_2 l0_0 n0_1 (f176_0 c lf b0_2 l0_0 n0_1 n) x55
theorem f176_0_u (c : Orc) (lf : Nat) (b0_2 : Bool) (l0_0 : List T) (n0_1 : Int) (n : Nat) (x55 : Int) : f176_0 c lf b0_2 l0_0 n0_1 (n + 1) x55 = f176_0_s c lf b0_2 l0_0 n0_1 (f176_0 c lf b0_2 l0_0 n0_1 n) x55 := rfl
theorem f176_0_eq (c : Orc) (lf : Nat) (b0_2 : Bool) (l0_0 : List T) (n0_1 : Int) (n : Nat) (x55 : Int) :
  lpK c env lf 6 fi176 3 4 [] [1, 3] (x176_4_0) n (f176_0_c b0_2 l0_0 n0_1 x55) = f176_0 c lf b0_2 l0_0 n0_1 n x55 := by
 induction n generalizing x55 with
 | zero => rfl
 | succ n ih =>
  refine (f176_0_round c lf b0_2 l0_0 n0_1 _ x55).trans ?_
  have e : (fun x55 => lpK c env lf 6 fi176 3 4 [] [1, 3] (x176_4_0) n (f176_0_c b0_2 l0_0 n0_1 x55)) = f176_0 c lf b0_2 l0_0 n0_1 n := by funext x55; exact ih x55
  show f176_0_s c lf b0_2 l0_0 n0_1 (fun x55 => lpK c env lf 6 fi176 3 4 [] [1, 3] (x176_4_0) n (f176_0_c b0_2 l0_0 n0_1 x55)) x55 = _
  rw [e]; rfl
def f176_t (c : Orc) (lf : Nat) (lp0 : Bool → List T → Int → Int → Option (List T)) (l0_0 : List T) (n0_1 : Int) (b0_2 : Bool) : Option (List T) :=
 bif (l0_0.length : Int) != 8 then
  some [T.b false]
 else
  (c 71 [T.i .i64 n0_1, T.i .i64 0, T.i .i64 100000]).bind fun r54 =>
  bif !(asB (nth r54 0)) then
   some [T.b false]
  else
   (lp0 b0_2 l0_0 n0_1 0).bind fun r56 =>
   bif asI (nth r56 0) == 0 then
    some [T.b (asB (nth r56 1))]
   else
    some [T.b true]
def f176 (c : Orc) (lf : Nat) (l0_0 : List T) (n0_1 : Int) (b0_2 : Bool) : Option (List T) := f176_t c lf (fun (b0_2 : Bool) (l0_0 : List T) (n0_1 : Int) (x55 : Int) => f176_0 c lf b0_2 l0_0 n0_1 lf x55) l0_0 n0_1 b0_2
theorem f176_raw (c : Orc) (lf : Nat) (l0_0 : List T) (n0_1 : Int) (b0_2 : Bool) : funK c env lf 6 fi176 [.st [.sl l0_0, .i .i64 n0_1, .b b0_2]] = f176_t c lf (fun (b0_2 : Bool) (l0_0 : List T) (n0_1 : Int) (x55 : Int) => lpK c env lf 6 fi176 3 4 [] [1, 3] (x176_4_0) lf (f176_0_c b0_2 l0_0 n0_1 x55)) l0_0 n0_1 b0_2 := by kernel_rfl
theorem f176_eq (c : Orc) (lf : Nat) (l0_0 : List T) (n0_1 : Int) (b0_2 : Bool) : funK c env lf 6 fi176 [.st [.sl l0_0, .i .i64 n0_1, .b b0_2]] = f176 c lf l0_0 n0_1 b0_2 := by
 refine (f176_raw c lf l0_0 n0_1 b0_2).trans ?_
 have e0 : (fun (b0_2 : Bool) (l0_0 : List T) (n0_1 : Int) (x55 : Int) => lpK c env lf 6 fi176 3 4 [] [1, 3] (x176_4_0) lf (f176_0_c b0_2 l0_0 n0_1 x55)) = (fun (b0_2 : Bool) (l0_0 : List T) (n0_1 : Int) (x55 : Int) => f176_0 c lf b0_2 l0_0 n0_1 lf x55) := by funext b0_2 l0_0 n0_1 x55; exact f176_0_eq c lf b0_2 l0_0 n0_1 lf x55
 rw [e0]; rfl
def f124_0_s (c : Orc) (lf : Nat) (l0_0 : List T) (L : Int → Option (List T)) (x63 : Int) : Option (List T) :=
 bif iLt x63 (l0_0.length : Int) then
  bif inR x63 l0_0.length then
  (c 176 [T.st [T.sl (asL (T.cell (l0_0.getD x63.toNat T.u) 0)), T.i .i64 (asI (T.cell (l0_0.getD x63.toNat T.u) 1)), T.b (asB (T.cell (l0_0.getD x63.toNat T.u) 2))]]).bind fun r64 =>
  bif !(asB (nth r64 0)) then
   some [T.i .i64 0, T.b false]
  else
   L (IntKind.wrap .i64 (x63 + 1))
  else none
 else
  some [T.i .i64 1, T.sl l0_0]
def f124_0_c (l0_0 : List T) (x63 : Int) : CSt := ⟨[.bp 1 0, .i .i64 x63], [.dead, .box [.ro 0 true [.sl true [.b, .sl false [.i .u8]], .i .i64, .b] l0_0]]⟩
theorem f124_0_round (c : Orc) (lf : Nat) (l0_0 : List T) (L : CSt → Option (List T)) (x63 : Int) :
  roundK c env lf 6 fi124 1 2 [] [1, 3] (x124_2_0) L (f124_0_c l0_0 x63) = f124_0_s c lf l0_0 (fun x63 => L (f124_0_c l0_0 x63)) x63 := by kernel_rfl
def f124_0 (c : Orc) (lf : Nat) (l0_0 : List T) : Nat → Int → Option (List T)
 | 0 => fun _ => none
 | n + 1 => fun x63 => f124_0_s c lf l0_0 (f124_0 c lf l0_0 n) x63
theorem f124_0_u (c : Orc) (lf : Nat) (l0_0 : List T) (n : Nat) (x63 : Int) : f124_0 c lf l0_0 (n + 1) x63 = f124_0_s c lf l0_0 (f124_0 c lf l0_0 n) x63 := rfl
theorem f124_0_eq (c : Orc) (lf : Nat) (l0_0 : List T) (n : Nat) (x63 : Int) :
  lpK c env lf 6 fi124 1 2 [] [1, 3] (x124_2_0) n (f124_0_c l0_0 x63) = f124_0 c lf l0_0 n x63 := by
 induction n generalizing x63 with
 | zero => rfl
 | succ n ih =>
  refine (f124_0_round c lf l0_0 _ x63).trans ?_
  have e : (fun x63 => lpK c env lf 6 fi124 1 2 [] [1, 3] (x124_2_0) n (f124_0_c l0_0 x63)) = f124_0 c lf l0_0 n := by funext x63; exact ih x63
  show f124_0_s c lf l0_0 (fun x63 => lpK c env lf 6 fi124 1 2 [] [1, 3] (x124_2_0) n (f124_0_c l0_0 x63)) x63 = _
  rw [e]; rfl
def f124_t (c : Orc) (lf : Nat) (lp0 : List T → Int → Option (List T)) (l0_0 : List T) : Option (List T) :=
 (lp0 l0_0 0).bind fun r65 =>
 bif asI (nth r65 0) == 0 then
  some [T.b (asB (nth r65 1))]
 else
  (c 71 [T.i .i64 ((asL (nth r65 1)).length : Int), T.i .i64 3, T.i .i64 24]).bind fun r66 =>
  some [T.b (asB (nth r66 0))]
def f124 (c : Orc) (lf : Nat) (l0_0 : List T) : Option (List T) := f124_t c lf (fun (l0_0 : List T) (x63 : Int) => f124_0 c lf l0_0 lf x63) l0_0
theorem f124_raw (c : Orc) (lf : Nat) (l0_0 : List T) : funK c env lf 6 fi124 [.st [.sl l0_0]] = f124_t c lf (fun (l0_0 : List T) (x63 : Int) => lpK c env lf 6 fi124 1 2 [] [1, 3] (x124_2_0) lf (f124_0_c l0_0 x63)) l0_0 := by kernel_rfl
theorem f124_eq (c : Orc) (lf : Nat) (l0_0 : List T) : funK c env lf 6 fi124 [.st [.sl l0_0]] = f124 c lf l0_0 := by
 refine (f124_raw c lf l0_0).trans ?_
 have e0 : (fun (l0_0 : List T) (x63 : Int) => lpK c env lf 6 fi124 1 2 [] [1, 3] (x124_2_0) lf (f124_0_c l0_0 x63)) = (fun (l0_0 : List T) (x63 : Int) => f124_0 c lf l0_0 lf x63) := by funext l0_0 x63; exact f124_0_eq c lf l0_0 lf x63
 rw [e0]; rfl
def f125_0_s (c : Orc) (lf : Nat) (l0 : List T) (L : Int → Option (List T)) (x78 : Int) : Option (List T) :=
 bif iLt x78 (l0.length : Int) then
  bif inR x78 l0.length then
  (c 71 [T.i .i64 (asI (T.cell (l0.getD x78.toNat T.u) 0)), T.i .i64 0, T.i .i64 100000]).bind fun r79 =>
  bif !(asB (nth r79 0)) then
   some [T.i .i64 0, T.b false]
  else
   bif inR x78 l0.length then
   (c 71 [T.i .i64 (asI (T.cell (l0.getD x78.toNat T.u) 1)), T.i .i64 1, T.i .i64 2]).bind fun r80 =>
   bif !(asB (nth r80 0)) then
    some [T.i .i64 0, T.b false]
   else
    bif inR x78 l0.length then
    (c 71 [T.i .i64 (asI (T.cell (l0.getD x78.toNat T.u) 2)), T.i .i64 0, T.i .i64 400]).bind fun r81 =>
    bif !(asB (nth r81 0)) then
     some [T.i .i64 0, T.b false]
    else
     bif iLt 0 x78 then
      bif inR (IntKind.wrap .i64 (x78 - 1)) l0.length then
      bif inR x78 l0.length then
      bif iLe (asI (T.cell (l0.getD x78.toNat T.u) 0)) (asI (T.cell (l0.getD ((IntKind.wrap .i64 (x78 - 1)).toNat) T.u) 0)) then
       some [T.i .i64 0, T.b false]
      else
       L (IntKind.wrap .i64 (x78 + 1))
      else none
      else none
     else
      L (IntKind.wrap .i64 (x78 + 1))
    else none
   else none
  else none
 else
  some [T.i .i64 1, T.sl l0]
def f125_0_c (l0 : List T) (x78 : Int) : CSt := ⟨[.ro 0 true [.i .i64, .i .i64, .i .i64] l0, .i .i64 x78], [.dead]⟩
theorem f125_0_round (c : Orc) (lf : Nat) (l0 : List T) (L : CSt → Option (List T)) (x78 : Int) :
  roundK c env lf 6 fi125 1 2 [] [0, 3] (x125_2_0) L (f125_0_c l0 x78) = f125_0_s c lf l0 (fun x78 => L (f125_0_c l0 x78)) x78 := by kernel_rfl
def f125_0 (c : Orc) (lf : Nat) (l0 : List T) : Nat → Int → Option (List T)
 | 0 => fun _ => none
 | n + 1 => fun x78 => f125_0_s c lf l0 (f125_0 c lf l0 n) x78
theorem f125_0_u (c : Orc) (lf : Nat) (l0 : List T) (n : Nat) (x78 : Int) : f125_0 c lf l0 (n + 1) x78 = f125_0_s c lf l0 (f125_0 c lf l0 n) x78 := rfl
theorem f125_0_eq (c : Orc) (lf : Nat) (l0 : List T) (n : Nat) (x78 : Int) :
  lpK c env lf 6 fi125 1 2 [] [0, 3] (x125_2_0) n (f125_0_c l0 x78) = f125_0 c lf l0 n x78 := by
 induction n generalizing x78 with
 | zero => rfl
 | succ n ih =>
  refine (f125_0_round c lf l0 _ x78).trans ?_
  have e : (fun x78 => lpK c env lf 6 fi125 1 2 [] [0, 3] (x125_2_0) n (f125_0_c l0 x78)) = f125_0 c lf l0 n := by funext x78; exact ih x78
  show f125_0_s c lf l0 (fun x78 => lpK c env lf 6 fi125 1 2 [] [0, 3] (x125_2_0) n (f125_0_c l0 x78)) x78 = _
  rw [e]; rfl
def f125_t (c : Orc) (lf : Nat) (lp0 : List T → Int → Option (List T)) (l0 : List T) : Option (List T) :=
 (lp0 l0 0).bind fun r82 =>
 bif asI (nth r82 0) == 0 then
  some [T.b (asB (nth r82 1))]
 else
  some [T.b (iLe ((asL (nth r82 1)).length : Int) 20)]
def f125 (c : Orc) (lf : Nat) (l0 : List T) : Option (List T) := f125_t c lf (fun (l0 : List T) (x78 : Int) => f125_0 c lf l0 lf x78) l0
theorem f125_raw (c : Orc) (lf : Nat) (l0 : List T) : funK c env lf 6 fi125 [.sl l0] = f125_t c lf (fun (l0 : List T) (x78 : Int) => lpK c env lf 6 fi125 1 2 [] [0, 3] (x125_2_0) lf (f125_0_c l0 x78)) l0 := by kernel_rfl
theorem f125_eq (c : Orc) (lf : Nat) (l0 : List T) : funK c env lf 6 fi125 [.sl l0] = f125 c lf l0 := by
 refine (f125_raw c lf l0).trans ?_
 have e0 : (fun (l0 : List T) (x78 : Int) => lpK c env lf 6 fi125 1 2 [] [0, 3] (x125_2_0) lf (f125_0_c l0 x78)) = (fun (l0 : List T) (x78 : Int) => f125_0 c lf l0 lf x78) := by funext l0 x78; exact f125_0_eq c lf l0 lf x78
 rw [e0]; rfl
def f70_t (c : Orc) (lf : Nat) (l0_0 : List T) (n0_1 : Int) (l0_2 : List T) (b0_3 : Bool) : Option (List T) :=
 (c 124 [T.st [T.sl l0_0]]).bind fun r83 =>
 bif asB (nth r83 0) then
  (c 71 [T.i .i64 n0_1, T.i .i64 0, T.i .i64 100000]).bind fun r84 =>
  bif asB (nth r84 0) then
   (c 125 [T.sl l0_2]).bind fun r85 =>
   some [T.b (asB (nth r85 0))]
  else
   some [T.b false]
 else
  some [T.b false]
def f70 (c : Orc) (lf : Nat) (l0_0 : List T) (n0_1 : Int) (l0_2 : List T) (b0_3 : Bool) : Option (List T) := f70_t c lf l0_0 n0_1 l0_2 b0_3
theorem f70_raw (c : Orc) (lf : Nat) (l0_0 : List T) (n0_1 : Int) (l0_2 : List T) (b0_3 : Bool) : funK c env lf 6 fi70 [.st [.sl l0_0, .i .i64 n0_1, .sl l0_2, .b b0_3]] = f70_t c lf l0_0 n0_1 l0_2 b0_3 := by kernel_rfl
theorem f70_eq (c : Orc) (lf : Nat) (l0_0 : List T) (n0_1 : Int) (l0_2 : List T) (b0_3 : Bool) : funK c env lf 6 fi70 [.st [.sl l0_0, .i .i64 n0_1, .sl l0_2, .b b0_3]] = f70 c lf l0_0 n0_1 l0_2 b0_3 := by
 refine (f70_raw c lf l0_0 n0_1 l0_2 b0_3).trans ?_
 rfl
def f138_t (c : Orc) (lf : Nat) (n0 : Int) (l1 : List T) : Option (List T) :=
 (c 188 [T.i .i64 n0]).bind fun r86 =>
 bif nLe (([] : List T).length + l1.length) LIM then
 (c 70 [T.st [T.sl (asL (T.cell (nth r86 0) 0)), T.i .i64 0, T.sl (([] : List T) ++ l1), T.b false]]).bind fun r87 =>
 bif !(asB (nth r87 0)) then
  some [T.st [T.sl [], T.i .i64 0, T.sl [], T.b false]]
 else
  some [T.st [T.sl (asL (T.cell (nth r86 0) 0)), T.i .i64 0, T.sl (([] : List T) ++ l1), T.b false]]
 else none
def f138 (c : Orc) (lf : Nat) (n0 : Int) (l1 : List T) : Option (List T) := f138_t c lf n0 l1
theorem f138_raw (c : Orc) (lf : Nat) (n0 : Int) (l1 : List T) : funK c env lf 6 fi138 [.i .i64 n0, .sl l1] = f138_t c lf n0 l1 := by kernel_rfl
theorem f138_eq (c : Orc) (lf : Nat) (n0 : Int) (l1 : List T) : funK c env lf 6 fi138 [.i .i64 n0, .sl l1] = f138 c lf n0 l1 := by
 refine (f138_raw c lf n0 l1).trans ?_
 rfl
def f140_0_s (c : Orc) (lf : Nat) (l0_0 : List T) (n1 : Int) (L : Int → Int → Int → List T → Option (List T)) (x96 : Int) (x97 : Int) (x98 : Int) (x99 : List T) : Option (List T) :=
 bif iLt x96 n1 then
  (c 149 [T.st [T.sl l0_0, T.i .i64 x97, T.i .i64 x98]]).bind fun r100 =>
  bif nLe (x99.length + ([T.i .u8 (IntKind.wrap .u8 (asI (nth r100 0)))] : List T).length) LIM then
  L (IntKind.wrap .i64 (x96 + 1)) (asI (T.cell (nth r100 1) 1)) (asI (T.cell (nth r100 1) 2)) (x99 ++ ([T.i .u8 (IntKind.wrap .u8 (asI (nth r100 0)))] : List T))
  else none
 else
  some [T.i .i64 0, T.sl l0_0, T.i .i64 x97, T.i .i64 x98, T.sl x99]
def f140_0_c (l0_0 : List T) (n1 : Int) (x96 : Int) (x97 : Int) (x98 : Int) (x99 : List T) : CSt := ⟨[.bp 0 0, .i .i64 n1, .rf 5 [] 0 none, .i .i64 x96], [.box [.ro 1 false [.i .u8] l0_0, .i .i64 x97, .i .i64 x98], .dead, .dead, .dead, .dead, .row false [.i .u8] x99 0 false]⟩
theorem f140_0_round (c : Orc) (lf : Nat) (l0_0 : List T) (n1 : Int) (L : CSt → Option (List T)) (x96 : Int) (x97 : Int) (x98 : Int) (x99 : List T) :
  roundK c env lf 6 fi140 5 3 [] [0, 1, 5, 6] (x140_3_0) L (f140_0_c l0_0 n1 x96 x97 x98 x99) = f140_0_s c lf l0_0 n1 (fun x96 x97 x98 x99 => L (f140_0_c l0_0 n1 x96 x97 x98 x99)) x96 x97 x98 x99 := by kernel_rfl
def f140_0 (c : Orc) (lf : Nat) (l0_0 : List T) (n1 : Int) : Nat → Int → Int → Int → List T → Option (List T)
 | 0 => fun _ _ _ _ => none
 | n + 1 => fun x96 x97 x98 x99 => f140_0_s c lf l0_0 n1 (f140_0 c lf l0_0 n1 n) x96 x97 x98 x99
theorem f140_0_u (c : Orc) (lf : Nat) (l0_0 : List T) (n1 : Int) (n : Nat) (x96 : Int) (x97 : Int) (x98 : Int) (x99 : List T) : f140_0 c lf l0_0 n1 (n + 1) x96 x97 x98 x99 = f140_0_s c lf l0_0 n1 (f140_0 c lf l0_0 n1 n) x96 x97 x98 x99 := rfl
theorem f140_0_eq (c : Orc) (lf : Nat) (l0_0 : List T) (n1 : Int) (n : Nat) (x96 : Int) (x97 : Int) (x98 : Int) (x99 : List T) :
  lpK c env lf 6 fi140 5 3 [] [0, 1, 5, 6] (x140_3_0) n (f140_0_c l0_0 n1 x96 x97 x98 x99) = f140_0 c lf l0_0 n1 n x96 x97 x98 x99 := by
 induction n generalizing x96 x97 x98 x99 with
 | zero => rfl
 | succ n ih =>
  refine (f140_0_round c lf l0_0 n1 _ x96 x97 x98 x99).trans ?_
  have e : (fun x96 x97 x98 x99 => lpK c env lf 6 fi140 5 3 [] [0, 1, 5, 6] (x140_3_0) n (f140_0_c l0_0 n1 x96 x97 x98 x99)) = f140_0 c lf l0_0 n1 n := by funext x96 x97 x98 x99; exact ih x96 x97 x98 x99
  show f140_0_s c lf l0_0 n1 (fun x96 x97 x98 x99 => lpK c env lf 6 fi140 5 3 [] [0, 1, 5, 6] (x140_3_0) n (f140_0_c l0_0 n1 x96 x97 x98 x99)) x96 x97 x98 x99 = _
  rw [e]; rfl
def f140_t (c : Orc) (lf : Nat) (lp0 : List T → Int → Int → Int → Int → List T → Option (List T)) (l0_0 : List T) (n0_1 : Int) (n0_2 : Int) (n1 : Int) : Option (List T) :=
 (lp0 l0_0 n1 0 n0_1 n0_2 ([] : List T)).bind fun r101 =>
 some [T.sl (asL (nth r101 4)), T.st [T.sl (asL (nth r101 1)), T.i .i64 (asI (nth r101 2)), T.i .i64 (asI (nth r101 3))]]
def f140 (c : Orc) (lf : Nat) (l0_0 : List T) (n0_1 : Int) (n0_2 : Int) (n1 : Int) : Option (List T) := f140_t c lf (fun (l0_0 : List T) (n1 : Int) (x96 : Int) (x97 : Int) (x98 : Int) (x99 : List T) => f140_0 c lf l0_0 n1 lf x96 x97 x98 x99) l0_0 n0_1 n0_2 n1
theorem f140_raw (c : Orc) (lf : Nat) (l0_0 : List T) (n0_1 : Int) (n0_2 : Int) (n1 : Int) : funK c env lf 6 fi140 [.st [.sl l0_0, .i .i64 n0_1, .i .i64 n0_2], .i .i64 n1] = f140_t c lf (fun (l0_0 : List T) (n1 : Int) (x96 : Int) (x97 : Int) (x98 : Int) (x99 : List T) => lpK c env lf 6 fi140 5 3 [] [0, 1, 5, 6] (x140_3_0) lf (f140_0_c l0_0 n1 x96 x97 x98 x99)) l0_0 n0_1 n0_2 n1 := by kernel_rfl
theorem f140_eq (c : Orc) (lf : Nat) (l0_0 : List T) (n0_1 : Int) (n0_2 : Int) (n1 : Int) : funK c env lf 6 fi140 [.st [.sl l0_0, .i .i64 n0_1, .i .i64 n0_2], .i .i64 n1] = f140 c lf l0_0 n0_1 n0_2 n1 := by
 refine (f140_raw c lf l0_0 n0_1 n0_2 n1).trans ?_
 have e0 : (fun (l0_0 : List T) (n1 : Int) (x96 : Int) (x97 : Int) (x98 : Int) (x99 : List T) => lpK c env lf 6 fi140 5 3 [] [0, 1, 5, 6] (x140_3_0) lf (f140_0_c l0_0 n1 x96 x97 x98 x99)) = (fun (l0_0 : List T) (n1 : Int) (x96 : Int) (x97 : Int) (x98 : Int) (x99 : List T) => f140_0 c lf l0_0 n1 lf x96 x97 x98 x99) := by funext l0_0 n1 x96 x97 x98 x99; exact f140_0_eq c lf l0_0 n1 lf x96 x97 x98 x99
 rw [e0]; rfl
def f86_t (c : Orc) (lf : Nat) (l0_0 : List T) (n0_1 : Int) (n0_2 : Int) : Option (List T) :=
 (c 96 [T.st [T.sl l0_0, T.i .i64 n0_1, T.i .i64 n0_2], T.sl ([T.i .i64 0, T.i .i64 1, T.i .i64 2, T.i .i64 5, T.i .i64 9] : List T)]).bind fun r102 =>
 (c 140 [T.st [T.sl l0_0, T.i .i64 (asI (T.cell (nth r102 1) 1)), T.i .i64 (asI (T.cell (nth r102 1) 2))], T.i .i64 (asI (nth r102 0))]).bind fun r103 =>
 some [T.sl (asL (nth r103 0)), T.st [T.sl l0_0, T.i .i64 (asI (T.cell (nth r103 1) 1)), T.i .i64 (asI (T.cell (nth r103 1) 2))]]
def f86 (c : Orc) (lf : Nat) (l0_0 : List T) (n0_1 : Int) (n0_2 : Int) : Option (List T) := f86_t c lf l0_0 n0_1 n0_2
theorem f86_raw (c : Orc) (lf : Nat) (l0_0 : List T) (n0_1 : Int) (n0_2 : Int) : funK c env lf 6 fi86 [.st [.sl l0_0, .i .i64 n0_1, .i .i64 n0_2]] = f86_t c lf l0_0 n0_1 n0_2 := by kernel_rfl
theorem f86_eq (c : Orc) (lf : Nat) (l0_0 : List T) (n0_1 : Int) (n0_2 : Int) : funK c env lf 6 fi86 [.st [.sl l0_0, .i .i64 n0_1, .i .i64 n0_2]] = f86 c lf l0_0 n0_1 n0_2 := by
 refine (f86_raw c lf l0_0 n0_1 n0_2).trans ?_
 rfl
def f228_0_s (c : Orc) (lf : Nat) (b0_2 : Bool) (l0_0 : List T) (n0_1 : Int) (L : Int → List T → Option (List T)) (x107 : Int) (x108 : List T) : Option (List T) :=
 bif iLt x107 (l0_0.length : Int) then
  bif inR x107 l0_0.length then
  bif inR x107 l0_0.length then
  bif nLe (([] : List T).length + (asL (T.cell (l0_0.getD x107.toNat T.u) 1)).length) LIM then
  bif nLe (x108.length + ([T.st [T.b (asB (T.cell (l0_0.getD x107.toNat T.u) 0)), T.sl (([] : List T) ++ (asL (T.cell (l0_0.getD x107.toNat T.u) 1)))]] : List T).length) LIM then
  L (IntKind.wrap .i64 (x107 + 1)) (x108 ++ ([T.st [T.b (asB (T.cell (l0_0.getD x107.toNat T.u) 0)), T.sl (([] : List T) ++ (asL (T.cell (l0_0.getD x107.toNat T.u) 1)))]] : List T))
  else none
  else none
  else none
  else none
 else
  some [T.i .i64 0, T.i .i64 0, T.b false, T.sl ([] : List T), T.i .i64 n0_1, T.b b0_2, T.sl x108]
def f228_0_c (b0_2 : Bool) (l0_0 : List T) (n0_1 : Int) (x107 : Int) (x108 : List T) : CSt := ⟨[.bp 3 0, .bp 4 0, .bp 6 0, .i .i64 x107], [.dead, .dead, .dead, .box [.ro 0 true [.b, .sl false [.i .u8]] l0_0, .i .i64 n0_1, .b b0_2], .box [.rf 5 [] 0 none, .i .i64 0, .b false], .row true [.b, .sl false [.i .u8]] ([] : List T) 0 false, .box [.rf 7 [] 0 none, .i .i64 n0_1, .b b0_2], .row true [.b, .sl false [.i .u8]] x108 0 false]⟩
theorem f228_0_round (c : Orc) (lf : Nat) (b0_2 : Bool) (l0_0 : List T) (n0_1 : Int) (L : CSt → Option (List T)) (x107 : Int) (x108 : List T) :
  roundK c env lf 6 fi228 3 3 [] [1, 2, 3, 4] (x228_3_0) L (f228_0_c b0_2 l0_0 n0_1 x107 x108) = f228_0_s c lf b0_2 l0_0 n0_1 (fun x107 x108 => L (f228_0_c b0_2 l0_0 n0_1 x107 x108)) x107 x108 := by kernel_rfl
def f228_0 (c : Orc) (lf : Nat) (b0_2 : Bool) (l0_0 : List T) (n0_1 : Int) : Nat → Int → List T → Option (List T)
 | 0 => fun _ _ => none
 | n + 1 => fun x107 x108 => f228_0_s c lf b0_2 l0_0 n0_1 (f228_0 c lf b0_2 l0_0 n0_1 n) x107 x108
theorem f228_0_u (c : Orc) (lf : Nat) (b0_2 : Bool) (l0_0 : List T) (n0_1 : Int) (n : Nat) (x107 : Int) (x108 : List T) : f228_0 c lf b0_2 l0_0 n0_1 (n + 1) x107 x108 = f228_0_s c lf b0_2 l0_0 n0_1 (f228_0 c lf b0_2 l0_0 n0_1 n) x107 x108 := rfl
theorem f228_0_eq (c : Orc) (lf : Nat) (b0_2 : Bool) (l0_0 : List T) (n0_1 : Int) (n : Nat) (x107 : Int) (x108 : List T) :
  lpK c env lf 6 fi228 3 3 [] [1, 2, 3, 4] (x228_3_0) n (f228_0_c b0_2 l0_0 n0_1 x107 x108) = f228_0 c lf b0_2 l0_0 n0_1 n x107 x108 := by
 induction n generalizing x107 x108 with
 | zero => rfl
 | succ n ih =>
  refine (f228_0_round c lf b0_2 l0_0 n0_1 _ x107 x108).trans ?_
  have e : (fun x107 x108 => lpK c env lf 6 fi228 3 3 [] [1, 2, 3, 4] (x228_3_0) n (f228_0_c b0_2 l0_0 n0_1 x107 x108)) = f228_0 c lf b0_2 l0_0 n0_1 n := by funext x107 x108; exact ih x107 x108
  show f228_0_s c lf b0_2 l0_0 n0_1 (fun x107 x108 => lpK c env lf 6 fi228 3 3 [] [1, 2, 3, 4] (x228_3_0) n (f228_0_c b0_2 l0_0 n0_1 x107 x108)) x107 x108 = _
  rw [e]; rfl
def f228_t (c : Orc) (lf : Nat) (lp0 : Bool → List T → Int → Int → List T → Option (List T)) (l0_0 : List T) (n0_1 : Int) (b0_2 : Bool) : Option (List T) :=
 (lp0 b0_2 l0_0 n0_1 0 ([] : List T)).bind fun r109 =>
 some [T.st [T.sl (asL (nth r109 6)), T.i .i64 (asI (nth r109 4)), T.b (asB (nth r109 5))]]
def f228 (c : Orc) (lf : Nat) (l0_0 : List T) (n0_1 : Int) (b0_2 : Bool) : Option (List T) := f228_t c lf (fun (b0_2 : Bool) (l0_0 : List T) (n0_1 : Int) (x107 : Int) (x108 : List T) => f228_0 c lf b0_2 l0_0 n0_1 lf x107 x108) l0_0 n0_1 b0_2
theorem f228_raw (c : Orc) (lf : Nat) (l0_0 : List T) (n0_1 : Int) (b0_2 : Bool) : funK c env lf 6 fi228 [.st [.sl l0_0, .i .i64 n0_1, .b b0_2]] = f228_t c lf (fun (b0_2 : Bool) (l0_0 : List T) (n0_1 : Int) (x107 : Int) (x108 : List T) => lpK c env lf 6 fi228 3 3 [] [1, 2, 3, 4] (x228_3_0) lf (f228_0_c b0_2 l0_0 n0_1 x107 x108)) l0_0 n0_1 b0_2 := by kernel_rfl
theorem f228_eq (c : Orc) (lf : Nat) (l0_0 : List T) (n0_1 : Int) (b0_2 : Bool) : funK c env lf 6 fi228 [.st [.sl l0_0, .i .i64 n0_1, .b b0_2]] = f228 c lf l0_0 n0_1 b0_2 := by
 refine (f228_raw c lf l0_0 n0_1 b0_2).trans ?_
 have e0 : (fun (b0_2 : Bool) (l0_0 : List T) (n0_1 : Int) (x107 : Int) (x108 : List T) => lpK c env lf 6 fi228 3 3 [] [1, 2, 3, 4] (x228_3_0) lf (f228_0_c b0_2 l0_0 n0_1 x107 x108)) = (fun (b0_2 : Bool) (l0_0 : List T) (n0_1 : Int) (x107 : Int) (x108 : List T) => f228_0 c lf b0_2 l0_0 n0_1 lf x107 x108) := by funext b0_2 l0_0 n0_1 x107 x108; exact f228_0_eq c lf b0_2 l0_0 n0_1 lf x107 x108
 rw [e0]; rfl
def f194_0_s (c : Orc) (lf : Nat) (l0_0 : List T) (L : Int → List T → Option (List T)) (x116 : Int) (x117 : List T) : Option (List T) :=
 bif iLt x116 (l0_0.length : Int) then
  bif inR x116 l0_0.length then
  (c 228 [T.st [T.sl (asL (T.cell (l0_0.getD x116.toNat T.u) 0)), T.i .i64 (asI (T.cell (l0_0.getD x116.toNat T.u) 1)), T.b (asB (T.cell (l0_0.getD x116.toNat T.u) 2))]]).bind fun r118 =>
  bif nLe (x117.length + ([T.st [T.sl (asL (T.cell (nth r118 0) 0)), T.i .i64 (asI (T.cell (nth r118 0) 1)), T.b (asB (T.cell (nth r118 0) 2))]] : List T).length) LIM then
  L (IntKind.wrap .i64 (x116 + 1)) (x117 ++ ([T.st [T.sl (asL (T.cell (nth r118 0) 0)), T.i .i64 (asI (T.cell (nth r118 0) 1)), T.b (asB (T.cell (nth r118 0) 2))]] : List T))
  else none
  else none
 else
  some [T.i .i64 0, T.sl ([] : List T), T.sl x117]
def f194_0_c (l0_0 : List T) (x116 : Int) (x117 : List T) : CSt := ⟨[.bp 1 0, .bp 2 0, .bp 4 0, .i .i64 x116], [.dead, .box [.ro 0 true [.sl true [.b, .sl false [.i .u8]], .i .i64, .b] l0_0], .box [.rf 3 [] 0 none], .row true [.sl true [.b, .sl false [.i .u8]], .i .i64, .b] ([] : List T) 0 false, .box [.rf 5 [] 0 none], .row true [.sl true [.b, .sl false [.i .u8]], .i .i64, .b] x117 0 false]⟩
theorem f194_0_round (c : Orc) (lf : Nat) (l0_0 : List T) (L : CSt → Option (List T)) (x116 : Int) (x117 : List T) :
  roundK c env lf 6 fi194 1 3 [] [1, 2, 3, 4] (x194_3_0) L (f194_0_c l0_0 x116 x117) = f194_0_s c lf l0_0 (fun x116 x117 => L (f194_0_c l0_0 x116 x117)) x116 x117 := by kernel_rfl
def f194_0 (c : Orc) (lf : Nat) (l0_0 : List T) : Nat → Int → List T → Option (List T)
 | 0 => fun _ _ => none
 | n + 1 => fun x116 x117 => f194_0_s c lf l0_0 (f194_0 c lf l0_0 n) x116 x117
theorem f194_0_u (c : Orc) (lf : Nat) (l0_0 : List T) (n : Nat) (x116 : Int) (x117 : List T) : f194_0 c lf l0_0 (n + 1) x116 x117 = f194_0_s c lf l0_0 (f194_0 c lf l0_0 n) x116 x117 := rfl
theorem f194_0_eq (c : Orc) (lf : Nat) (l0_0 : List T) (n : Nat) (x116 : Int) (x117 : List T) :
  lpK c env lf 6 fi194 1 3 [] [1, 2, 3, 4] (x194_3_0) n (f194_0_c l0_0 x116 x117) = f194_0 c lf l0_0 n x116 x117 := by
 induction n generalizing x116 x117 with
 | zero => rfl
 | succ n ih =>
  refine (f194_0_round c lf l0_0 _ x116 x117).trans ?_
  have e : (fun x116 x117 => lpK c env lf 6 fi194 1 3 [] [1, 2, 3, 4] (x194_3_0) n (f194_0_c l0_0 x116 x117)) = f194_0 c lf l0_0 n := by funext x116 x117; exact ih x116 x117
  show f194_0_s c lf l0_0 (fun x116 x117 => lpK c env lf 6 fi194 1 3 [] [1, 2, 3, 4] (x194_3_0) n (f194_0_c l0_0 x116 x117)) x116 x117 = _
  rw [e]; rfl
def f194_t (c : Orc) (lf : Nat) (lp0 : List T → Int → List T → Option (List T)) (l0_0 : List T) : Option (List T) :=
 (lp0 l0_0 0 ([] : List T)).bind fun r119 =>
 some [T.st [T.sl (asL (nth r119 2))]]
def f194 (c : Orc) (lf : Nat) (l0_0 : List T) : Option (List T) := f194_t c lf (fun (l0_0 : List T) (x116 : Int) (x117 : List T) => f194_0 c lf l0_0 lf x116 x117) l0_0
theorem f194_raw (c : Orc) (lf : Nat) (l0_0 : List T) : funK c env lf 6 fi194 [.st [.sl l0_0]] = f194_t c lf (fun (l0_0 : List T) (x116 : Int) (x117 : List T) => lpK c env lf 6 fi194 1 3 [] [1, 2, 3, 4] (x194_3_0) lf (f194_0_c l0_0 x116 x117)) l0_0 := by kernel_rfl
theorem f194_eq (c : Orc) (lf : Nat) (l0_0 : List T) : funK c env lf 6 fi194 [.st [.sl l0_0]] = f194 c lf l0_0 := by
 refine (f194_raw c lf l0_0).trans ?_
 have e0 : (fun (l0_0 : List T) (x116 : Int) (x117 : List T) => lpK c env lf 6 fi194 1 3 [] [1, 2, 3, 4] (x194_3_0) lf (f194_0_c l0_0 x116 x117)) = (fun (l0_0 : List T) (x116 : Int) (x117 : List T) => f194_0 c lf l0_0 lf x116 x117) := by funext l0_0 x116 x117; exact f194_0_eq c lf l0_0 lf x116 x117
 rw [e0]; rfl
def f152_t (c : Orc) (lf : Nat) (l0_0 : List T) (n0_1 : Int) (l0_2 : List T) (b0_3 : Bool) : Option (List T) :=
 (c 194 [T.st [T.sl l0_0]]).bind fun r120 =>
 bif nLe (([] : List T).length + l0_2.length) LIM then
 some [T.st [T.sl (asL (T.cell (nth r120 0) 0)), T.i .i64 n0_1, T.sl (([] : List T) ++ l0_2), T.b b0_3]]
 else none
def f152 (c : Orc) (lf : Nat) (l0_0 : List T) (n0_1 : Int) (l0_2 : List T) (b0_3 : Bool) : Option (List T) := f152_t c lf l0_0 n0_1 l0_2 b0_3
theorem f152_raw (c : Orc) (lf : Nat) (l0_0 : List T) (n0_1 : Int) (l0_2 : List T) (b0_3 : Bool) : funK c env lf 6 fi152 [.st [.sl l0_0, .i .i64 n0_1, .sl l0_2, .b b0_3]] = f152_t c lf l0_0 n0_1 l0_2 b0_3 := by kernel_rfl
theorem f152_eq (c : Orc) (lf : Nat) (l0_0 : List T) (n0_1 : Int) (l0_2 : List T) (b0_3 : Bool) : funK c env lf 6 fi152 [.st [.sl l0_0, .i .i64 n0_1, .sl l0_2, .b b0_3]] = f152 c lf l0_0 n0_1 l0_2 b0_3 := by
 refine (f152_raw c lf l0_0 n0_1 l0_2 b0_3).trans ?_
 rfl
def f102_t (c : Orc) (lf : Nat) (l0_0 : List T) (n0_1 : Int) (l0_2 : List T) (b0_3 : Bool) (n0_4 : Int) : Option (List T) :=
 (c 152 [T.st [T.sl l0_0, T.i .i64 n0_1, T.sl l0_2, T.b b0_3]]).bind fun r121 =>
 some [T.st [T.sl (asL (T.cell (nth r121 0) 0)), T.i .i64 (asI (T.cell (nth r121 0) 1)), T.sl (asL (T.cell (nth r121 0) 2)), T.b (asB (T.cell (nth r121 0) 3)), T.i .i64 n0_4]]
def f102 (c : Orc) (lf : Nat) (l0_0 : List T) (n0_1 : Int) (l0_2 : List T) (b0_3 : Bool) (n0_4 : Int) : Option (List T) := f102_t c lf l0_0 n0_1 l0_2 b0_3 n0_4
theorem f102_raw (c : Orc) (lf : Nat) (l0_0 : List T) (n0_1 : Int) (l0_2 : List T) (b0_3 : Bool) (n0_4 : Int) : funK c env lf 6 fi102 [.st [.sl l0_0, .i .i64 n0_1, .sl l0_2, .b b0_3, .i .i64 n0_4]] = f102_t c lf l0_0 n0_1 l0_2 b0_3 n0_4 := by kernel_rfl
theorem f102_eq (c : Orc) (lf : Nat) (l0_0 : List T) (n0_1 : Int) (l0_2 : List T) (b0_3 : Bool) (n0_4 : Int) : funK c env lf 6 fi102 [.st [.sl l0_0, .i .i64 n0_1, .sl l0_2, .b b0_3, .i .i64 n0_4]] = f102 c lf l0_0 n0_1 l0_2 b0_3 n0_4 := by
 refine (f102_raw c lf l0_0 n0_1 l0_2 b0_3 n0_4).trans ?_
 rfl
def f103_t (c : Orc) (lf : Nat) (n0_0 : Int) (n0_1 : Int) (l0_2 : List T) : Option (List T) :=
 (c 71 [T.i .i64 n0_0, T.i .i64 1, T.i .i64 4]).bind fun r122 =>
 bif asB (nth r122 0) then
  (c 71 [T.i .i64 n0_1, T.i .i64 0, T.i .i64 1000000]).bind fun r123 =>
  bif asB (nth r123 0) then
   some [T.b (iLe (l0_2.length : Int) 380)]
  else
   some [T.b false]
 else
  some [T.b false]
def f103 (c : Orc) (lf : Nat) (n0_0 : Int) (n0_1 : Int) (l0_2 : List T) : Option (List T) := f103_t c lf n0_0 n0_1 l0_2
theorem f103_raw (c : Orc) (lf : Nat) (n0_0 : Int) (n0_1 : Int) (l0_2 : List T) : funK c env lf 6 fi103 [.st [.i .i64 n0_0, .i .i64 n0_1, .sl l0_2]] = f103_t c lf n0_0 n0_1 l0_2 := by kernel_rfl
theorem f103_eq (c : Orc) (lf : Nat) (n0_0 : Int) (n0_1 : Int) (l0_2 : List T) : funK c env lf 6 fi103 [.st [.i .i64 n0_0, .i .i64 n0_1, .sl l0_2]] = f103 c lf n0_0 n0_1 l0_2 := by
 refine (f103_raw c lf n0_0 n0_1 l0_2).trans ?_
 rfl
def f196_0_s (c : Orc) (lf : Nat) (L : Int → List T → Option (List T)) (x131 : Int) (x132 : List T) : Option (List T) :=
 bif iLt 127 x131 then
  bif nLe (x132.length + ([T.i .u8 (IntKind.wrap .u8 (intBits .or .i64 (intBits .and .i64 x131 127) 128))] : List T).length) LIM then
  L (shiftI .shr .i64 x131 7) (x132 ++ ([T.i .u8 (IntKind.wrap .u8 (intBits .or .i64 (intBits .and .i64 x131 127) 128))] : List T))
  else none
 else
  some [T.i .i64 0, T.i .i64 x131, T.sl x132]
def f196_0_c (x131 : Int) (x132 : List T) : CSt := ⟨[.i .i64 x131, .rf 2 [] 0 none], [.dead, .dead, .row false [.i .u8] x132 0 false]⟩
theorem f196_0_round (c : Orc) (lf : Nat) (L : CSt → Option (List T)) (x131 : Int) (x132 : List T) :
  roundK c env lf 6 fi196 2 6 [] [1, 5] (x196_6_0) L (f196_0_c x131 x132) = f196_0_s c lf (fun x131 x132 => L (f196_0_c x131 x132)) x131 x132 := by kernel_rfl
def f196_0 (c : Orc) (lf : Nat) : Nat → Int → List T → Option (List T)
 | 0 => fun _ _ => none
 | n + 1 => fun x131 x132 => f196_0_s c lf (f196_0 c lf n) x131 x132
theorem f196_0_u (c : Orc) (lf : Nat) (n : Nat) (x131 : Int) (x132 : List T) : f196_0 c lf (n + 1) x131 x132 = f196_0_s c lf (f196_0 c lf n) x131 x132 := rfl
theorem f196_0_eq (c : Orc) (lf : Nat) (n : Nat) (x131 : Int) (x132 : List T) :
  lpK c env lf 6 fi196 2 6 [] [1, 5] (x196_6_0) n (f196_0_c x131 x132) = f196_0 c lf n x131 x132 := by
 induction n generalizing x131 x132 with
 | zero => rfl
 | succ n ih =>
  refine (f196_0_round c lf _ x131 x132).trans ?_
  have e : (fun x131 x132 => lpK c env lf 6 fi196 2 6 [] [1, 5] (x196_6_0) n (f196_0_c x131 x132)) = f196_0 c lf n := by funext x131 x132; exact ih x131 x132
  show f196_0_s c lf (fun x131 x132 => lpK c env lf 6 fi196 2 6 [] [1, 5] (x196_6_0) n (f196_0_c x131 x132)) x131 x132 = _
  rw [e]; rfl
def f196_1_s (c : Orc) (lf : Nat) (l0 : List T) (L : Unit → Option (List T)) : Option (List T) :=
 some [T.i .i64 0, T.i .i64 0, T.sl (([] : List T) ++ l0)]
def f196_1_c (l0 : List T) : CSt := ⟨[.i .i64 0, .rf 2 [] 0 none], [.dead, .dead, .row false [.i .u8] (([] : List T) ++ l0) 0 false]⟩
theorem f196_1_round (c : Orc) (lf : Nat) (l0 : List T) (L : CSt → Option (List T)) :
  roundK c env lf 6 fi196 2 6 [] [1, 5] (x196_6_0) L (f196_1_c l0) = f196_1_s c lf l0 (fun _ => L (f196_1_c l0)) := by kernel_rfl
def f196_1 (c : Orc) (lf : Nat) (l0 : List T) : Nat → Unit → Option (List T)
 | 0 => fun _ => none
 | n + 1 => fun _ => f196_1_s c lf l0 (f196_1 c lf l0 n)
theorem f196_1_eq (c : Orc) (lf : Nat) (l0 : List T) (n : Nat) :
  lpK c env lf 6 fi196 2 6 [] [1, 5] (x196_6_0) n (f196_1_c l0) = f196_1 c lf l0 n () := by
 induction n with
 | zero => rfl
 | succ n ih =>
  refine (f196_1_round c lf l0 _).trans ?_
  have e : (fun (_ : Unit) => lpK c env lf 6 fi196 2 6 [] [1, 5] (x196_6_0) n (f196_1_c l0)) = f196_1 c lf l0 n := by funext _; exact ih
  show f196_1_s c lf l0 (fun _ => lpK c env lf 6 fi196 2 6 [] [1, 5] (x196_6_0) n (f196_1_c l0)) = _
  rw [e]; rfl
def f196_2_s (c : Orc) (lf : Nat) (L : Int → List T → Option (List T)) (x135 : Int) (x136 : List T) : Option (List T) :=
 bif iLt 127 x135 then
  bif nLe (x136.length + ([T.i .u8 (IntKind.wrap .u8 (intBits .or .i64 (intBits .and .i64 x135 127) 128))] : List T).length) LIM then
  L (shiftI .shr .i64 x135 7) (x136 ++ ([T.i .u8 (IntKind.wrap .u8 (intBits .or .i64 (intBits .and .i64 x135 127) 128))] : List T))
  else none
 else
  some [T.i .i64 0, T.i .i64 x135, T.sl x136]
def f196_2_c (x135 : Int) (x136 : List T) : CSt := ⟨[.i .i64 x135, .rf 2 [] 0 none], [.dead, .dead, .row false [.i .u8] x136 0 false]⟩
theorem f196_2_round (c : Orc) (lf : Nat) (L : CSt → Option (List T)) (x135 : Int) (x136 : List T) :
  roundK c env lf 6 fi196 2 6 [] [1, 5] (x196_6_0) L (f196_2_c x135 x136) = f196_2_s c lf (fun x135 x136 => L (f196_2_c x135 x136)) x135 x136 := by kernel_rfl
def f196_2 (c : Orc) (lf : Nat) : Nat → Int → List T → Option (List T)
 | 0 => fun _ _ => none
 | n + 1 => fun x135 x136 => f196_2_s c lf (f196_2 c lf n) x135 x136
theorem f196_2_u (c : Orc) (lf : Nat) (n : Nat) (x135 : Int) (x136 : List T) : f196_2 c lf (n + 1) x135 x136 = f196_2_s c lf (f196_2 c lf n) x135 x136 := rfl
theorem f196_2_eq (c : Orc) (lf : Nat) (n : Nat) (x135 : Int) (x136 : List T) :
  lpK c env lf 6 fi196 2 6 [] [1, 5] (x196_6_0) n (f196_2_c x135 x136) = f196_2 c lf n x135 x136 := by
 induction n generalizing x135 x136 with
 | zero => rfl
 | succ n ih =>
  refine (f196_2_round c lf _ x135 x136).trans ?_
  have e : (fun x135 x136 => lpK c env lf 6 fi196 2 6 [] [1, 5] (x196_6_0) n (f196_2_c x135 x136)) = f196_2 c lf n := by funext x135 x136; exact ih x135 x136
  show f196_2_s c lf (fun x135 x136 => lpK c env lf 6 fi196 2 6 [] [1, 5] (x196_6_0) n (f196_2_c x135 x136)) x135 x136 = _
  rw [e]; rfl
def f196_t (c : Orc) (lf : Nat) (lp0 : Int → List T → Option (List T)) (lp1 : List T → Option (List T)) (lp2 : Int → List T → Option (List T)) (l0 : List T) (n1 : Int) : Option (List T) :=
 bif nLe (([] : List T).length + l0.length) LIM then
 bif iLt 1000000 n1 then
  (lp0 1000000 (([] : List T) ++ l0)).bind fun r133 =>
  bif nLe ((asL (nth r133 2)).length + ([T.i .u8 (IntKind.wrap .u8 (asI (nth r133 1)))] : List T).length) LIM then
  some [T.sl ((asL (nth r133 2)) ++ ([T.i .u8 (IntKind.wrap .u8 (asI (nth r133 1)))] : List T))]
  else none
 else
  bif iLt n1 0 then
   (lp1 l0).bind fun r134 =>
   bif nLe ((asL (nth r134 2)).length + ([T.i .u8 (IntKind.wrap .u8 (asI (nth r134 1)))] : List T).length) LIM then
   some [T.sl ((asL (nth r134 2)) ++ ([T.i .u8 (IntKind.wrap .u8 (asI (nth r134 1)))] : List T))]
   else none
  else
   (lp2 n1 (([] : List T) ++ l0)).bind fun r137 =>
   bif nLe ((asL (nth r137 2)).length + ([T.i .u8 (IntKind.wrap .u8 (asI (nth r137 1)))] : List T).length) LIM then
   some [T.sl ((asL (nth r137 2)) ++ ([T.i .u8 (IntKind.wrap .u8 (asI (nth r137 1)))] : List T))]
   else none
 else none
def f196 (c : Orc) (lf : Nat) (l0 : List T) (n1 : Int) : Option (List T) := f196_t c lf (fun (x131 : Int) (x132 : List T) => f196_0 c lf lf x131 x132) (fun (l0 : List T) => f196_1 c lf l0 lf ()) (fun (x135 : Int) (x136 : List T) => f196_2 c lf lf x135 x136) l0 n1
theorem f196_raw (c : Orc) (lf : Nat) (l0 : List T) (n1 : Int) : funK c env lf 6 fi196 [.sl l0, .i .i64 n1] = f196_t c lf (fun (x131 : Int) (x132 : List T) => lpK c env lf 6 fi196 2 6 [] [1, 5] (x196_6_0) lf (f196_0_c x131 x132)) (fun (l0 : List T) => lpK c env lf 6 fi196 2 6 [] [1, 5] (x196_6_0) lf (f196_1_c l0)) (fun (x135 : Int) (x136 : List T) => lpK c env lf 6 fi196 2 6 [] [1, 5] (x196_6_0) lf (f196_2_c x135 x136)) l0 n1 := by kernel_rfl
theorem f196_eq (c : Orc) (lf : Nat) (l0 : List T) (n1 : Int) : funK c env lf 6 fi196 [.sl l0, .i .i64 n1] = f196 c lf l0 n1 := by
 refine (f196_raw c lf l0 n1).trans ?_
 have e0 : (fun (x131 : Int) (x132 : List T) => lpK c env lf 6 fi196 2 6 [] [1, 5] (x196_6_0) lf (f196_0_c x131 x132)) = (fun (x131 : Int) (x132 : List T) => f196_0 c lf lf x131 x132) := by funext x131 x132; exact f196_0_eq c lf lf x131 x132
 have e1 : (fun (l0 : List T) => lpK c env lf 6 fi196 2 6 [] [1, 5] (x196_6_0) lf (f196_1_c l0)) = (fun (l0 : List T) => f196_1 c lf l0 lf ()) := by funext l0; exact f196_1_eq c lf l0 lf
 have e2 : (fun (x135 : Int) (x136 : List T) => lpK c env lf 6 fi196 2 6 [] [1, 5] (x196_6_0) lf (f196_2_c x135 x136)) = (fun (x135 : Int) (x136 : List T) => f196_2 c lf lf x135 x136) := by funext x135 x136; exact f196_2_eq c lf lf x135 x136
 rw [e0, e1, e2]; rfl
def f195_t (c : Orc) (lf : Nat) (l0 : List T) (s1 : ByteArray) : Option (List T) :=
 (c 196 [T.sl l0, T.i .i64 (s1.size : Int)]).bind fun r138 =>
 bif nLe ((asL (nth r138 0)).length + (listOf s1).length) LIM then
 some [T.sl ((asL (nth r138 0)) ++ (listOf s1))]
 else none
def f195 (c : Orc) (lf : Nat) (l0 : List T) (s1 : ByteArray) : Option (List T) := f195_t c lf l0 s1
theorem f195_raw (c : Orc) (lf : Nat) (l0 : List T) (s1 : ByteArray) : funK c env lf 6 fi195 [.sl l0, .s s1] = f195_t c lf l0 s1 := by kernel_rfl
theorem f195_eq (c : Orc) (lf : Nat) (l0 : List T) (s1 : ByteArray) : funK c env lf 6 fi195 [.sl l0, .s s1] = f195 c lf l0 s1 := by
 refine (f195_raw c lf l0 s1).trans ?_
 rfl
def f133_1_s (c : Orc) (lf : Nat) (x152 : List T) (x154 : Int) (L : Int → Int → Option (List T)) (x155 : Int) (x156 : Int) : Option (List T) :=
 bif iLt x156 8 then
  bif (intBits .and .i64 x155 1) == 1 then
   L (intBits .xor .i64 (shiftI .shr .i64 x155 1) 2197175160) (IntKind.wrap .i64 (x156 + 1))
  else
   L (shiftI .shr .i64 x155 1) (IntKind.wrap .i64 (x156 + 1))
 else
  some [T.i .i64 0, T.sl x152, T.i .i64 x155, T.i .i64 x154]
def f133_1_c (x152 : List T) (x154 : Int) (x155 : Int) (x156 : Int) : CSt := ⟨[.ro 0 false [.i .u8] x152, .i .i64 x155, .i .i64 x154, .i .i64 x156], [.dead]⟩
theorem f133_1_round (c : Orc) (lf : Nat) (x152 : List T) (x154 : Int) (L : CSt → Option (List T)) (x155 : Int) (x156 : Int) :
  roundK c env lf 6 fi133 1 7 [] [0, 3, 4, 5] (x133_7_0) L (f133_1_c x152 x154 x155 x156) = f133_1_s c lf x152 x154 (fun x155 x156 => L (f133_1_c x152 x154 x155 x156)) x155 x156 := by kernel_rfl
def f133_1 (c : Orc) (lf : Nat) (x152 : List T) (x154 : Int) : Nat → Int → Int → Option (List T)
 | 0 => fun _ _ => none
 | n + 1 => fun x155 x156 => f133_1_s c lf x152 x154 (f133_1 c lf x152 x154 n) x155 x156
theorem f133_1_u (c : Orc) (lf : Nat) (x152 : List T) (x154 : Int) (n : Nat) (x155 : Int) (x156 : Int) : f133_1 c lf x152 x154 (n + 1) x155 x156 = f133_1_s c lf x152 x154 (f133_1 c lf x152 x154 n) x155 x156 := rfl
theorem f133_1_eq (c : Orc) (lf : Nat) (x152 : List T) (x154 : Int) (n : Nat) (x155 : Int) (x156 : Int) :
  lpK c env lf 6 fi133 1 7 [] [0, 3, 4, 5] (x133_7_0) n (f133_1_c x152 x154 x155 x156) = f133_1 c lf x152 x154 n x155 x156 := by
 induction n generalizing x155 x156 with
 | zero => rfl
 | succ n ih =>
  refine (f133_1_round c lf x152 x154 _ x155 x156).trans ?_
  have e : (fun x155 x156 => lpK c env lf 6 fi133 1 7 [] [0, 3, 4, 5] (x133_7_0) n (f133_1_c x152 x154 x155 x156)) = f133_1 c lf x152 x154 n := by funext x155 x156; exact ih x155 x156
  show f133_1_s c lf x152 x154 (fun x155 x156 => lpK c env lf 6 fi133 1 7 [] [0, 3, 4, 5] (x133_7_0) n (f133_1_c x152 x154 x155 x156)) x155 x156 = _
  rw [e]; rfl
def f133_0_s (c : Orc) (lf : Nat) (L : List T → Int → Int → Option (List T)) (lp0 : List T → Int → Int → Int → Option (List T)) (x152 : List T) (x153 : Int) (x154 : Int) : Option (List T) :=
 bif iLt x154 (x152.length : Int) then
  bif inR x154 x152.length then
  (lp0 x152 x154 (intBits .xor .i64 x153 (IntKind.wrap .i64 (asI (x152.getD x154.toNat T.u)))) 0).bind fun r157 =>
  L (asL (nth r157 1)) (asI (nth r157 2)) (IntKind.wrap .i64 ((asI (nth r157 3)) + 1))
  else none
 else
  some [T.i .i64 0, T.i .i64 x153]
def f133_0_c (x152 : List T) (x153 : Int) (x154 : Int) : CSt := ⟨[.ro 0 false [.i .u8] x152, .i .i64 x153, .i .i64 x154], [.dead]⟩
theorem f133_0_round (c : Orc) (lf : Nat) (L : CSt → Option (List T)) (x152 : List T) (x153 : Int) (x154 : Int) :
  roundK c env lf 6 fi133 1 3 [] [0, 3, 4] (x133_3_0) L (f133_0_c x152 x153 x154) = f133_0_s c lf (fun x152 x153 x154 => L (f133_0_c x152 x153 x154)) (fun (x152 : List T) (x154 : Int) (x155 : Int) (x156 : Int) => lpK c env lf 6 fi133 1 7 [] [0, 3, 4, 5] (x133_7_0) lf (f133_1_c x152 x154 x155 x156)) x152 x153 x154 := by kernel_rfl
def f133_0 (c : Orc) (lf : Nat) : Nat → List T → Int → Int → Option (List T)
 | 0 => fun _ _ _ => none
 | n + 1 => fun x152 x153 x154 => f133_0_s c lf (f133_0 c lf n) (fun (x152 : List T) (x154 : Int) (x155 : Int) (x156 : Int) => f133_1 c lf x152 x154 lf x155 x156) x152 x153 x154
theorem f133_0_u (c : Orc) (lf : Nat) (n : Nat) (x152 : List T) (x153 : Int) (x154 : Int) : f133_0 c lf (n + 1) x152 x153 x154 = f133_0_s c lf (f133_0 c lf n) (fun (x152 : List T) (x154 : Int) (x155 : Int) (x156 : Int) => f133_1 c lf x152 x154 lf x155 x156) x152 x153 x154 := rfl
theorem f133_0_eq (c : Orc) (lf : Nat) (n : Nat) (x152 : List T) (x153 : Int) (x154 : Int) :
  lpK c env lf 6 fi133 1 3 [] [0, 3, 4] (x133_3_0) n (f133_0_c x152 x153 x154) = f133_0 c lf n x152 x153 x154 := by
 induction n generalizing x152 x153 x154 with
 | zero => rfl
 | succ n ih =>
  refine (f133_0_round c lf _ x152 x153 x154).trans ?_
  have e : (fun x152 x153 x154 => lpK c env lf 6 fi133 1 3 [] [0, 3, 4] (x133_3_0) n (f133_0_c x152 x153 x154)) = f133_0 c lf n := by funext x152 x153 x154; exact ih x152 x153 x154
  have e0 : (fun (x152 : List T) (x154 : Int) (x155 : Int) (x156 : Int) => lpK c env lf 6 fi133 1 7 [] [0, 3, 4, 5] (x133_7_0) lf (f133_1_c x152 x154 x155 x156)) = (fun (x152 : List T) (x154 : Int) (x155 : Int) (x156 : Int) => f133_1 c lf x152 x154 lf x155 x156) := by funext x152 x154 x155 x156; exact f133_1_eq c lf x152 x154 lf x155 x156
  show f133_0_s c lf (fun x152 x153 x154 => lpK c env lf 6 fi133 1 3 [] [0, 3, 4] (x133_3_0) n (f133_0_c x152 x153 x154)) (fun (x152 : List T) (x154 : Int) (x155 : Int) (x156 : Int) => lpK c env lf 6 fi133 1 7 [] [0, 3, 4, 5] (x133_7_0) lf (f133_1_c x152 x154 x155 x156)) x152 x153 x154 = _
  rw [e, e0]; rfl
def f133_t (c : Orc) (lf : Nat) (lp0 : List T → Int → Int → Option (List T)) (l0 : List T) : Option (List T) :=
 (lp0 l0 4294967295 0).bind fun r158 =>
 some [T.i .i64 (intBits .xor .i64 (asI (nth r158 1)) 4294967295)]
def f133 (c : Orc) (lf : Nat) (l0 : List T) : Option (List T) := f133_t c lf (fun (x152 : List T) (x153 : Int) (x154 : Int) => f133_0 c lf lf x152 x153 x154) l0
theorem f133_raw (c : Orc) (lf : Nat) (l0 : List T) : funK c env lf 6 fi133 [.sl l0] = f133_t c lf (fun (x152 : List T) (x153 : Int) (x154 : Int) => lpK c env lf 6 fi133 1 3 [] [0, 3, 4] (x133_3_0) lf (f133_0_c x152 x153 x154)) l0 := by kernel_rfl
theorem f133_eq (c : Orc) (lf : Nat) (l0 : List T) : funK c env lf 6 fi133 [.sl l0] = f133 c lf l0 := by
 refine (f133_raw c lf l0).trans ?_
 have e0 : (fun (x152 : List T) (x153 : Int) (x154 : Int) => lpK c env lf 6 fi133 1 3 [] [0, 3, 4] (x133_3_0) lf (f133_0_c x152 x153 x154)) = (fun (x152 : List T) (x153 : Int) (x154 : Int) => f133_0 c lf lf x152 x153 x154) := by funext x152 x153 x154; exact f133_0_eq c lf lf x152 x153 x154
 rw [e0]; rfl
def f153_t (c : Orc) (lf : Nat) (n0_0 : Int) (n0_1 : Int) (l0_2 : List T) : Option (List T) :=
 (c 103 [T.st [T.i .i64 n0_0, T.i .i64 n0_1, T.sl l0_2]]).bind fun r159 =>
 bif !(asB (nth r159 0)) then
  some [T.sl ([] : List T)]
 else
  (c 196 [T.sl ([] : List T), T.i .i64 n0_0]).bind fun r160 =>
  (c 196 [T.sl (asL (nth r160 0)), T.i .i64 n0_1]).bind fun r161 =>
  (c 195 [T.sl (asL (nth r161 0)), T.s (bytesOf l0_2)]).bind fun r162 =>
  (c 133 [T.sl (asL (nth r162 0))]).bind fun r163 =>
  bif nLe ((asL (nth r162 0)).length + ([T.i .u8 (IntKind.wrap .u8 (shiftI .shr .i64 (asI (nth r163 0)) 24)), T.i .u8 (IntKind.wrap .u8 (shiftI .shr .i64 (asI (nth r163 0)) 16)), T.i .u8 (IntKind.wrap .u8 (shiftI .shr .i64 (asI (nth r163 0)) 8)), T.i .u8 (IntKind.wrap .u8 (asI (nth r163 0)))] : List T).length) LIM then
  some [T.sl ((asL (nth r162 0)) ++ ([T.i .u8 (IntKind.wrap .u8 (shiftI .shr .i64 (asI (nth r163 0)) 24)), T.i .u8 (IntKind.wrap .u8 (shiftI .shr .i64 (asI (nth r163 0)) 16)), T.i .u8 (IntKind.wrap .u8 (shiftI .shr .i64 (asI (nth r163 0)) 8)), T.i .u8 (IntKind.wrap .u8 (asI (nth r163 0)))] : List T))]
  else none
def f153 (c : Orc) (lf : Nat) (n0_0 : Int) (n0_1 : Int) (l0_2 : List T) : Option (List T) := f153_t c lf n0_0 n0_1 l0_2
theorem f153_raw (c : Orc) (lf : Nat) (n0_0 : Int) (n0_1 : Int) (l0_2 : List T) : funK c env lf 6 fi153 [.st [.i .i64 n0_0, .i .i64 n0_1, .sl l0_2]] = f153_t c lf n0_0 n0_1 l0_2 := by kernel_rfl
theorem f153_eq (c : Orc) (lf : Nat) (n0_0 : Int) (n0_1 : Int) (l0_2 : List T) : funK c env lf 6 fi153 [.st [.i .i64 n0_0, .i .i64 n0_1, .sl l0_2]] = f153 c lf n0_0 n0_1 l0_2 := by
 refine (f153_raw c lf n0_0 n0_1 l0_2).trans ?_
 rfl
def f197_0_s (c : Orc) (lf : Nat) (b0_2 : Bool) (l0_0 : List T) (n0_1 : Int) (L : Int → Int → Option (List T)) (x167 : Int) (x168 : Int) : Option (List T) :=
 bif iLt x168 (l0_0.length : Int) then
  bif inR x168 l0_0.length then
  bif asB (T.cell (l0_0.getD x168.toNat T.u) 0) then
   L (IntKind.wrap .i64 (x167 + 1)) (IntKind.wrap .i64 (x168 + 1))
  else
   L x167 (IntKind.wrap .i64 (x168 + 1))
  else none
 else
  some [T.i .i64 0, T.i .i64 x167]
def f197_0_c (b0_2 : Bool) (l0_0 : List T) (n0_1 : Int) (x167 : Int) (x168 : Int) : CSt := ⟨[.bp 3 0, .i .i64 x167, .i .i64 x168], [.dead, .dead, .dead, .box [.ro 0 true [.b, .sl false [.i .u8]] l0_0, .i .i64 n0_1, .b b0_2]]⟩
theorem f197_0_round (c : Orc) (lf : Nat) (b0_2 : Bool) (l0_0 : List T) (n0_1 : Int) (L : CSt → Option (List T)) (x167 : Int) (x168 : Int) :
  roundK c env lf 6 fi197 3 3 [] [1, 3, 4] (x197_3_0) L (f197_0_c b0_2 l0_0 n0_1 x167 x168) = f197_0_s c lf b0_2 l0_0 n0_1 (fun x167 x168 => L (f197_0_c b0_2 l0_0 n0_1 x167 x168)) x167 x168 := by kernel_rfl
def f197_0 (c : Orc) (lf : Nat) (b0_2 : Bool) (l0_0 : List T) (n0_1 : Int) : Nat → Int → Int → Option (List T)
 | 0 => fun _ _ => none
 | n + 1 => fun x167 x168 => f197_0_s c lf b0_2 l0_0 n0_1 (f197_0 c lf b0_2 l0_0 n0_1 n) x167 x168
theorem f197_0_u (c : Orc) (lf : Nat) (b0_2 : Bool) (l0_0 : List T) (n0_1 : Int) (n : Nat) (x167 : Int) (x168 : Int) : f197_0 c lf b0_2 l0_0 n0_1 (n + 1) x167 x168 = f197_0_s c lf b0_2 l0_0 n0_1 (f197_0 c lf b0_2 l0_0 n0_1 n) x167 x168 := rfl
theorem f197_0_eq (c : Orc) (lf : Nat) (b0_2 : Bool) (l0_0 : List T) (n0_1 : Int) (n : Nat) (x167 : Int) (x168 : Int) :
  lpK c env lf 6 fi197 3 3 [] [1, 3, 4] (x197_3_0) n (f197_0_c b0_2 l0_0 n0_1 x167 x168) = f197_0 c lf b0_2 l0_0 n0_1 n x167 x168 := by
 induction n generalizing x167 x168 with
 | zero => rfl
 | succ n ih =>
  refine (f197_0_round c lf b0_2 l0_0 n0_1 _ x167 x168).trans ?_
  have e : (fun x167 x168 => lpK c env lf 6 fi197 3 3 [] [1, 3, 4] (x197_3_0) n (f197_0_c b0_2 l0_0 n0_1 x167 x168)) = f197_0 c lf b0_2 l0_0 n0_1 n := by funext x167 x168; exact ih x167 x168
  show f197_0_s c lf b0_2 l0_0 n0_1 (fun x167 x168 => lpK c env lf 6 fi197 3 3 [] [1, 3, 4] (x197_3_0) n (f197_0_c b0_2 l0_0 n0_1 x167 x168)) x167 x168 = _
  rw [e]; rfl
def f197_t (c : Orc) (lf : Nat) (lp0 : Bool → List T → Int → Int → Int → Option (List T)) (l0_0 : List T) (n0_1 : Int) (b0_2 : Bool) : Option (List T) :=
 (lp0 b0_2 l0_0 n0_1 0 0).bind fun r169 =>
 some [T.i .i64 (asI (nth r169 1))]
def f197 (c : Orc) (lf : Nat) (l0_0 : List T) (n0_1 : Int) (b0_2 : Bool) : Option (List T) := f197_t c lf (fun (b0_2 : Bool) (l0_0 : List T) (n0_1 : Int) (x167 : Int) (x168 : Int) => f197_0 c lf b0_2 l0_0 n0_1 lf x167 x168) l0_0 n0_1 b0_2
theorem f197_raw (c : Orc) (lf : Nat) (l0_0 : List T) (n0_1 : Int) (b0_2 : Bool) : funK c env lf 6 fi197 [.st [.sl l0_0, .i .i64 n0_1, .b b0_2]] = f197_t c lf (fun (b0_2 : Bool) (l0_0 : List T) (n0_1 : Int) (x167 : Int) (x168 : Int) => lpK c env lf 6 fi197 3 3 [] [1, 3, 4] (x197_3_0) lf (f197_0_c b0_2 l0_0 n0_1 x167 x168)) l0_0 n0_1 b0_2 := by kernel_rfl
theorem f197_eq (c : Orc) (lf : Nat) (l0_0 : List T) (n0_1 : Int) (b0_2 : Bool) : funK c env lf 6 fi197 [.st [.sl l0_0, .i .i64 n0_1, .b b0_2]] = f197 c lf l0_0 n0_1 b0_2 := by
 refine (f197_raw c lf l0_0 n0_1 b0_2).trans ?_
 have e0 : (fun (b0_2 : Bool) (l0_0 : List T) (n0_1 : Int) (x167 : Int) (x168 : Int) => lpK c env lf 6 fi197 3 3 [] [1, 3, 4] (x197_3_0) lf (f197_0_c b0_2 l0_0 n0_1 x167 x168)) = (fun (b0_2 : Bool) (l0_0 : List T) (n0_1 : Int) (x167 : Int) (x168 : Int) => f197_0 c lf b0_2 l0_0 n0_1 lf x167 x168) := by funext b0_2 l0_0 n0_1 x167 x168; exact f197_0_eq c lf b0_2 l0_0 n0_1 lf x167 x168
 rw [e0]; rfl
def f198_0_s (c : Orc) (lf : Nat) (b0_3 : Bool) (l0_0 : List T) (l0_2 : List T) (n0_1 : Int) (n0_4 : Int) (L : Int → Int → Option (List T)) (x176 : Int) (x177 : Int) : Option (List T) :=
 bif iLt x177 (l0_0.length : Int) then
  bif inR x177 l0_0.length then
  bif !(asB (T.cell (l0_0.getD x177.toNat T.u) 2)) then
   bif inR x177 l0_0.length then
   (c 197 [T.st [T.sl (asL (T.cell (l0_0.getD x177.toNat T.u) 0)), T.i .i64 (asI (T.cell (l0_0.getD x177.toNat T.u) 1)), T.b (asB (T.cell (l0_0.getD x177.toNat T.u) 2))]]).bind fun r178 =>
   bif (asI (nth r178 0)) == 0 then
    L (IntKind.wrap .i64 (x176 + 1)) (IntKind.wrap .i64 (x177 + 1))
   else
    L x176 (IntKind.wrap .i64 (x177 + 1))
   else none
  else
   L x176 (IntKind.wrap .i64 (x177 + 1))
  else none
 else
  some [T.i .i64 0, T.i .i64 x176]
def f198_0_c (b0_3 : Bool) (l0_0 : List T) (l0_2 : List T) (n0_1 : Int) (n0_4 : Int) (x176 : Int) (x177 : Int) : CSt := ⟨[.bp 5 0, .i .i64 x176, .i .i64 x177], [.dead, .dead, .dead, .dead, .dead, .box [.ro 0 true [.sl true [.b, .sl false [.i .u8]], .i .i64, .b] l0_0, .i .i64 n0_1, .ro 0 true [.i .i64, .i .i64, .i .i64] l0_2, .b b0_3, .i .i64 n0_4]]⟩
theorem f198_0_round (c : Orc) (lf : Nat) (b0_3 : Bool) (l0_0 : List T) (l0_2 : List T) (n0_1 : Int) (n0_4 : Int) (L : CSt → Option (List T)) (x176 : Int) (x177 : Int) :
  roundK c env lf 6 fi198 5 3 [] [1, 3, 4] (x198_3_0) L (f198_0_c b0_3 l0_0 l0_2 n0_1 n0_4 x176 x177) = f198_0_s c lf b0_3 l0_0 l0_2 n0_1 n0_4 (fun x176 x177 => L (f198_0_c b0_3 l0_0 l0_2 n0_1 n0_4 x176 x177)) x176 x177 := by kernel_rfl
def f198_0 (c : Orc) (lf : Nat) (b0_3 : Bool) (l0_0 : List T) (l0_2 : List T) (n0_1 : Int) (n0_4 : Int) : Nat → Int → Int → Option (List T)
 | 0 => fun _ _ => none
 | n + 1 => fun x176 x177 => f198_0_s c lf b0_3 l0_0 l0_2 n0_1 n0_4 (f198_0 c lf b0_3 l0_0 l0_2 n0_1 n0_4 n) x176 x177
theorem f198_0_u (c : Orc) (lf : Nat) (b0_3 : Bool) (l0_0 : List T) (l0_2 : List T) (n0_1 : Int) (n0_4 : Int) (n : Nat) (x176 : Int) (x177 : Int) : f198_0 c lf b0_3 l0_0 l0_2 n0_1 n0_4 (n + 1) x176 x177 = f198_0_s c lf b0_3 l0_0 l0_2 n0_1 n0_4 (f198_0 c lf b0_3 l0_0 l0_2 n0_1 n0_4 n) x176 x177 := rfl
theorem f198_0_eq (c : Orc) (lf : Nat) (b0_3 : Bool) (l0_0 : List T) (l0_2 : List T) (n0_1 : Int) (n0_4 : Int) (n : Nat) (x176 : Int) (x177 : Int) :
  lpK c env lf 6 fi198 5 3 [] [1, 3, 4] (x198_3_0) n (f198_0_c b0_3 l0_0 l0_2 n0_1 n0_4 x176 x177) = f198_0 c lf b0_3 l0_0 l0_2 n0_1 n0_4 n x176 x177 := by
 induction n generalizing x176 x177 with
 | zero => rfl
 | succ n ih =>
  refine (f198_0_round c lf b0_3 l0_0 l0_2 n0_1 n0_4 _ x176 x177).trans ?_
  have e : (fun x176 x177 => lpK c env lf 6 fi198 5 3 [] [1, 3, 4] (x198_3_0) n (f198_0_c b0_3 l0_0 l0_2 n0_1 n0_4 x176 x177)) = f198_0 c lf b0_3 l0_0 l0_2 n0_1 n0_4 n := by funext x176 x177; exact ih x176 x177
  show f198_0_s c lf b0_3 l0_0 l0_2 n0_1 n0_4 (fun x176 x177 => lpK c env lf 6 fi198 5 3 [] [1, 3, 4] (x198_3_0) n (f198_0_c b0_3 l0_0 l0_2 n0_1 n0_4 x176 x177)) x176 x177 = _
  rw [e]; rfl
def f198_t (c : Orc) (lf : Nat) (lp0 : Bool → List T → List T → Int → Int → Int → Int → Option (List T)) (l0_0 : List T) (n0_1 : Int) (l0_2 : List T) (b0_3 : Bool) (n0_4 : Int) : Option (List T) :=
 (lp0 b0_3 l0_0 l0_2 n0_1 n0_4 0 0).bind fun r179 =>
 some [T.i .i64 (asI (nth r179 1))]
def f198 (c : Orc) (lf : Nat) (l0_0 : List T) (n0_1 : Int) (l0_2 : List T) (b0_3 : Bool) (n0_4 : Int) : Option (List T) := f198_t c lf (fun (b0_3 : Bool) (l0_0 : List T) (l0_2 : List T) (n0_1 : Int) (n0_4 : Int) (x176 : Int) (x177 : Int) => f198_0 c lf b0_3 l0_0 l0_2 n0_1 n0_4 lf x176 x177) l0_0 n0_1 l0_2 b0_3 n0_4
theorem f198_raw (c : Orc) (lf : Nat) (l0_0 : List T) (n0_1 : Int) (l0_2 : List T) (b0_3 : Bool) (n0_4 : Int) : funK c env lf 6 fi198 [.st [.sl l0_0, .i .i64 n0_1, .sl l0_2, .b b0_3, .i .i64 n0_4]] = f198_t c lf (fun (b0_3 : Bool) (l0_0 : List T) (l0_2 : List T) (n0_1 : Int) (n0_4 : Int) (x176 : Int) (x177 : Int) => lpK c env lf 6 fi198 5 3 [] [1, 3, 4] (x198_3_0) lf (f198_0_c b0_3 l0_0 l0_2 n0_1 n0_4 x176 x177)) l0_0 n0_1 l0_2 b0_3 n0_4 := by kernel_rfl
theorem f198_eq (c : Orc) (lf : Nat) (l0_0 : List T) (n0_1 : Int) (l0_2 : List T) (b0_3 : Bool) (n0_4 : Int) : funK c env lf 6 fi198 [.st [.sl l0_0, .i .i64 n0_1, .sl l0_2, .b b0_3, .i .i64 n0_4]] = f198 c lf l0_0 n0_1 l0_2 b0_3 n0_4 := by
 refine (f198_raw c lf l0_0 n0_1 l0_2 b0_3 n0_4).trans ?_
 have e0 : (fun (b0_3 : Bool) (l0_0 : List T) (l0_2 : List T) (n0_1 : Int) (n0_4 : Int) (x176 : Int) (x177 : Int) => lpK c env lf 6 fi198 5 3 [] [1, 3, 4] (x198_3_0) lf (f198_0_c b0_3 l0_0 l0_2 n0_1 n0_4 x176 x177)) = (fun (b0_3 : Bool) (l0_0 : List T) (l0_2 : List T) (n0_1 : Int) (n0_4 : Int) (x176 : Int) (x177 : Int) => f198_0 c lf b0_3 l0_0 l0_2 n0_1 n0_4 lf x176 x177) := by funext b0_3 l0_0 l0_2 n0_1 n0_4 x176 x177; exact f198_0_eq c lf b0_3 l0_0 l0_2 n0_1 n0_4 lf x176 x177
 rw [e0]; rfl
def f154_0_s (c : Orc) (lf : Nat) (b0_3 : Bool) (l0_0 : List T) (l0_2 : List T) (n1 : Int) (n0_1 : Int) (n0_4 : Int) (L : Int → Int → Option (List T)) (x187 : Int) (x188 : Int) : Option (List T) :=
 bif iLt x188 (l0_0.length : Int) then
  bif inR x188 l0_0.length then
  (c 197 [T.st [T.sl (asL (T.cell (l0_0.getD x188.toNat T.u) 0)), T.i .i64 (asI (T.cell (l0_0.getD x188.toNat T.u) 1)), T.b (asB (T.cell (l0_0.getD x188.toNat T.u) 2))]]).bind fun r189 =>
  bif !(asB (T.cell (l0_0.getD x188.toNat T.u) 2)) then
   bif iLt 0 (asI (nth r189 0)) then
    bif iLt (asI (nth r189 0)) ((asL (T.cell (l0_0.getD x188.toNat T.u) 0)).length : Int) then
     some [T.i .i64 0, T.i .i64 x188]
    else
     bif !(asB (T.cell (l0_0.getD x188.toNat T.u) 2)) then
      bif (asI (nth r189 0)) == 0 then
       bif iLt x187 0 then
        L x188 (IntKind.wrap .i64 (x188 + 1))
       else
        L x187 (IntKind.wrap .i64 (x188 + 1))
      else
       L x187 (IntKind.wrap .i64 (x188 + 1))
     else
      L x187 (IntKind.wrap .i64 (x188 + 1))
   else
    bif !(asB (T.cell (l0_0.getD x188.toNat T.u) 2)) then
     bif (asI (nth r189 0)) == 0 then
      bif iLt x187 0 then
       L x188 (IntKind.wrap .i64 (x188 + 1))
      else
       L x187 (IntKind.wrap .i64 (x188 + 1))
     else
      L x187 (IntKind.wrap .i64 (x188 + 1))
    else
     L x187 (IntKind.wrap .i64 (x188 + 1))
  else
   bif !(asB (T.cell (l0_0.getD x188.toNat T.u) 2)) then
    bif (asI (nth r189 0)) == 0 then
     bif iLt x187 0 then
      L x188 (IntKind.wrap .i64 (x188 + 1))
     else
      L x187 (IntKind.wrap .i64 (x188 + 1))
    else
     L x187 (IntKind.wrap .i64 (x188 + 1))
   else
    L x187 (IntKind.wrap .i64 (x188 + 1))
  else none
 else
  some [T.i .i64 1, T.i .i64 n1, T.i .i64 x187, T.sl l0_0, T.i .i64 n0_1, T.sl l0_2, T.b b0_3, T.i .i64 n0_4]
def f154_0_c (b0_3 : Bool) (l0_0 : List T) (l0_2 : List T) (n1 : Int) (n0_1 : Int) (n0_4 : Int) (x187 : Int) (x188 : Int) : CSt := ⟨[.i .i64 n1, .bp 6 0, .i .i64 x187, .i .i64 x188], [.dead, .dead, .dead, .dead, .dead, .dead, .box [.ro 0 true [.sl true [.b, .sl false [.i .u8]], .i .i64, .b] l0_0, .i .i64 n0_1, .ro 0 true [.i .i64, .i .i64, .i .i64] l0_2, .b b0_3, .i .i64 n0_4]]⟩
theorem f154_0_round (c : Orc) (lf : Nat) (b0_3 : Bool) (l0_0 : List T) (l0_2 : List T) (n1 : Int) (n0_1 : Int) (n0_4 : Int) (L : CSt → Option (List T)) (x187 : Int) (x188 : Int) :
  roundK c env lf 6 fi154 6 3 [] [1, 2, 5, 6] (x154_3_0) L (f154_0_c b0_3 l0_0 l0_2 n1 n0_1 n0_4 x187 x188) = f154_0_s c lf b0_3 l0_0 l0_2 n1 n0_1 n0_4 (fun x187 x188 => L (f154_0_c b0_3 l0_0 l0_2 n1 n0_1 n0_4 x187 x188)) x187 x188 := by kernel_rfl
def f154_0 (c : Orc) (lf : Nat) (b0_3 : Bool) (l0_0 : List T) (l0_2 : List T) (n1 : Int) (n0_1 : Int) (n0_4 : Int) : Nat → Int → Int → Option (List T)
 | 0 => fun _ _ => none
 | n + 1 => fun x187 x188 => f154_0_s c lf b0_3 l0_0 l0_2 n1 n0_1 n0_4 (f154_0 c lf b0_3 l0_0 l0_2 n1 n0_1 n0_4 n) x187 x188
theorem f154_0_u (c : Orc) (lf : Nat) (b0_3 : Bool) (l0_0 : List T) (l0_2 : List T) (n1 : Int) (n0_1 : Int) (n0_4 : Int) (n : Nat) (x187 : Int) (x188 : Int) : f154_0 c lf b0_3 l0_0 l0_2 n1 n0_1 n0_4 (n + 1) x187 x188 = f154_0_s c lf b0_3 l0_0 l0_2 n1 n0_1 n0_4 (f154_0 c lf b0_3 l0_0 l0_2 n1 n0_1 n0_4 n) x187 x188 := rfl
theorem f154_0_eq (c : Orc) (lf : Nat) (b0_3 : Bool) (l0_0 : List T) (l0_2 : List T) (n1 : Int) (n0_1 : Int) (n0_4 : Int) (n : Nat) (x187 : Int) (x188 : Int) :
  lpK c env lf 6 fi154 6 3 [] [1, 2, 5, 6] (x154_3_0) n (f154_0_c b0_3 l0_0 l0_2 n1 n0_1 n0_4 x187 x188) = f154_0 c lf b0_3 l0_0 l0_2 n1 n0_1 n0_4 n x187 x188 := by
 induction n generalizing x187 x188 with
 | zero => rfl
 | succ n ih =>
  refine (f154_0_round c lf b0_3 l0_0 l0_2 n1 n0_1 n0_4 _ x187 x188).trans ?_
  have e : (fun x187 x188 => lpK c env lf 6 fi154 6 3 [] [1, 2, 5, 6] (x154_3_0) n (f154_0_c b0_3 l0_0 l0_2 n1 n0_1 n0_4 x187 x188)) = f154_0 c lf b0_3 l0_0 l0_2 n1 n0_1 n0_4 n := by funext x187 x188; exact ih x187 x188
  show f154_0_s c lf b0_3 l0_0 l0_2 n1 n0_1 n0_4 (fun x187 x188 => lpK c env lf 6 fi154 6 3 [] [1, 2, 5, 6] (x154_3_0) n (f154_0_c b0_3 l0_0 l0_2 n1 n0_1 n0_4 x187 x188)) x187 x188 = _
  rw [e]; rfl
def f154_t (c : Orc) (lf : Nat) (lp0 : Bool → List T → List T → Int → Int → Int → Int → Int → Option (List T)) (l0_0 : List T) (n0_1 : Int) (l0_2 : List T) (b0_3 : Bool) (n0_4 : Int) (n1 : Int) : Option (List T) :=
 (lp0 b0_3 l0_0 l0_2 n1 n0_1 n0_4 (-1) 0).bind fun r190 =>
 bif asI (nth r190 0) == 0 then
  some [T.i .i64 (asI (nth r190 1))]
 else
  (c 198 [T.st [T.sl (asL (nth r190 3)), T.i .i64 (asI (nth r190 4)), T.sl (asL (nth r190 5)), T.b (asB (nth r190 6)), T.i .i64 (asI (nth r190 7))]]).bind fun r191 =>
  bif iLt (asI (nth r190 1)) (asI (nth r191 0)) then
   some [T.i .i64 (asI (nth r190 2))]
  else
   some [T.i .i64 (-1)]
def f154 (c : Orc) (lf : Nat) (l0_0 : List T) (n0_1 : Int) (l0_2 : List T) (b0_3 : Bool) (n0_4 : Int) (n1 : Int) : Option (List T) := f154_t c lf (fun (b0_3 : Bool) (l0_0 : List T) (l0_2 : List T) (n1 : Int) (n0_1 : Int) (n0_4 : Int) (x187 : Int) (x188 : Int) => f154_0 c lf b0_3 l0_0 l0_2 n1 n0_1 n0_4 lf x187 x188) l0_0 n0_1 l0_2 b0_3 n0_4 n1
theorem f154_raw (c : Orc) (lf : Nat) (l0_0 : List T) (n0_1 : Int) (l0_2 : List T) (b0_3 : Bool) (n0_4 : Int) (n1 : Int) : funK c env lf 6 fi154 [.st [.sl l0_0, .i .i64 n0_1, .sl l0_2, .b b0_3, .i .i64 n0_4], .i .i64 n1] = f154_t c lf (fun (b0_3 : Bool) (l0_0 : List T) (l0_2 : List T) (n1 : Int) (n0_1 : Int) (n0_4 : Int) (x187 : Int) (x188 : Int) => lpK c env lf 6 fi154 6 3 [] [1, 2, 5, 6] (x154_3_0) lf (f154_0_c b0_3 l0_0 l0_2 n1 n0_1 n0_4 x187 x188)) l0_0 n0_1 l0_2 b0_3 n0_4 n1 := by kernel_rfl
theorem f154_eq (c : Orc) (lf : Nat) (l0_0 : List T) (n0_1 : Int) (l0_2 : List T) (b0_3 : Bool) (n0_4 : Int) (n1 : Int) : funK c env lf 6 fi154 [.st [.sl l0_0, .i .i64 n0_1, .sl l0_2, .b b0_3, .i .i64 n0_4], .i .i64 n1] = f154 c lf l0_0 n0_1 l0_2 b0_3 n0_4 n1 := by
 refine (f154_raw c lf l0_0 n0_1 l0_2 b0_3 n0_4 n1).trans ?_
 have e0 : (fun (b0_3 : Bool) (l0_0 : List T) (l0_2 : List T) (n1 : Int) (n0_1 : Int) (n0_4 : Int) (x187 : Int) (x188 : Int) => lpK c env lf 6 fi154 6 3 [] [1, 2, 5, 6] (x154_3_0) lf (f154_0_c b0_3 l0_0 l0_2 n1 n0_1 n0_4 x187 x188)) = (fun (b0_3 : Bool) (l0_0 : List T) (l0_2 : List T) (n1 : Int) (n0_1 : Int) (n0_4 : Int) (x187 : Int) (x188 : Int) => f154_0 c lf b0_3 l0_0 l0_2 n1 n0_1 n0_4 lf x187 x188) := by funext b0_3 l0_0 l0_2 n1 n0_1 n0_4 x187 x188; exact f154_0_eq c lf b0_3 l0_0 l0_2 n1 n0_1 n0_4 lf x187 x188
 rw [e0]; rfl
def f155_t (c : Orc) (lf : Nat) (l0_0 : List T) (n1 : Int) : Option (List T) :=
 bif iLt n1 0 then
  some [T.i .i64 (-1)]
 else
  bif iLe (l0_0.length : Int) n1 then
   some [T.i .i64 (-1)]
  else
   bif inR n1 l0_0.length then
   (c 197 [T.st [T.sl (asL (T.cell (l0_0.getD n1.toNat T.u) 0)), T.i .i64 (asI (T.cell (l0_0.getD n1.toNat T.u) 1)), T.b (asB (T.cell (l0_0.getD n1.toNat T.u) 2))]]).bind fun r192 =>
   some [T.i .i64 (asI (nth r192 0))]
   else none
def f155 (c : Orc) (lf : Nat) (l0_0 : List T) (n1 : Int) : Option (List T) := f155_t c lf l0_0 n1
theorem f155_raw (c : Orc) (lf : Nat) (l0_0 : List T) (n1 : Int) : funK c env lf 6 fi155 [.st [.sl l0_0], .i .i64 n1] = f155_t c lf l0_0 n1 := by kernel_rfl
theorem f155_eq (c : Orc) (lf : Nat) (l0_0 : List T) (n1 : Int) : funK c env lf 6 fi155 [.st [.sl l0_0], .i .i64 n1] = f155 c lf l0_0 n1 := by
 refine (f155_raw c lf l0_0 n1).trans ?_
 rfl
def f229_t (c : Orc) (lf : Nat) (l0_0 : List T) (n1 : Int) (b2 : Bool) : Option (List T) :=
 (c 124 [T.st [T.sl l0_0]]).bind fun r193 =>
 bif !(asB (nth r193 0)) then
  some [T.i .i64 1]
 else
  bif iLt n1 0 then
   some [T.i .i64 1]
  else
   bif iLe (l0_0.length : Int) n1 then
    some [T.i .i64 1]
   else
    bif inR n1 l0_0.length then
    bif asB (T.cell (l0_0.getD n1.toNat T.u) 2) then
     some [T.i .i64 2]
    else
     bif b2 then
      some [T.i .i64 5]
     else
      some [T.i .i64 0]
    else none
def f229 (c : Orc) (lf : Nat) (l0_0 : List T) (n1 : Int) (b2 : Bool) : Option (List T) := f229_t c lf l0_0 n1 b2
theorem f229_raw (c : Orc) (lf : Nat) (l0_0 : List T) (n1 : Int) (b2 : Bool) : funK c env lf 6 fi229 [.st [.sl l0_0], .i .i64 n1, .b b2] = f229_t c lf l0_0 n1 b2 := by kernel_rfl
theorem f229_eq (c : Orc) (lf : Nat) (l0_0 : List T) (n1 : Int) (b2 : Bool) : funK c env lf 6 fi229 [.st [.sl l0_0], .i .i64 n1, .b b2] = f229 c lf l0_0 n1 b2 := by
 refine (f229_raw c lf l0_0 n1 b2).trans ?_
 rfl
def f200_t (c : Orc) (lf : Nat) (l0_0 : List T) (n1 : Int) (l2 : List T) : Option (List T) :=
 bif iLt 400 (l2.length : Int) then
  some [T.i .i64 1]
 else
  (c 155 [T.st [T.sl l0_0], T.i .i64 n1]).bind fun r194 =>
  (c 229 [T.st [T.sl l0_0], T.i .i64 n1, T.b ((asI (nth r194 0)) == 8)]).bind fun r195 =>
  some [T.i .i64 (asI (nth r195 0))]
def f200 (c : Orc) (lf : Nat) (l0_0 : List T) (n1 : Int) (l2 : List T) : Option (List T) := f200_t c lf l0_0 n1 l2
theorem f200_raw (c : Orc) (lf : Nat) (l0_0 : List T) (n1 : Int) (l2 : List T) : funK c env lf 6 fi200 [.st [.sl l0_0], .i .i64 n1, .sl l2] = f200_t c lf l0_0 n1 l2 := by kernel_rfl
theorem f200_eq (c : Orc) (lf : Nat) (l0_0 : List T) (n1 : Int) (l2 : List T) : funK c env lf 6 fi200 [.st [.sl l0_0], .i .i64 n1, .sl l2] = f200 c lf l0_0 n1 l2 := by
 refine (f200_raw c lf l0_0 n1 l2).trans ?_
 rfl
def f199_t (c : Orc) (lf : Nat) (l0_0 : List T) (n0_1 : Int) (l0_2 : List T) (b0_3 : Bool) (n1 : Int) : Option (List T) :=
 (c 70 [T.st [T.sl l0_0, T.i .i64 n0_1, T.sl l0_2, T.b b0_3]]).bind fun r196 =>
 bif !(asB (nth r196 0)) then
  some [T.i .i64 1]
 else
  bif b0_3 then
   some [T.i .i64 10]
  else
   bif iLe 100000 n0_1 then
    some [T.i .i64 10]
   else
    some [T.i .i64 n1]
def f199 (c : Orc) (lf : Nat) (l0_0 : List T) (n0_1 : Int) (l0_2 : List T) (b0_3 : Bool) (n1 : Int) : Option (List T) := f199_t c lf l0_0 n0_1 l0_2 b0_3 n1
theorem f199_raw (c : Orc) (lf : Nat) (l0_0 : List T) (n0_1 : Int) (l0_2 : List T) (b0_3 : Bool) (n1 : Int) : funK c env lf 6 fi199 [.st [.sl l0_0, .i .i64 n0_1, .sl l0_2, .b b0_3], .i .i64 n1] = f199_t c lf l0_0 n0_1 l0_2 b0_3 n1 := by kernel_rfl
theorem f199_eq (c : Orc) (lf : Nat) (l0_0 : List T) (n0_1 : Int) (l0_2 : List T) (b0_3 : Bool) (n1 : Int) : funK c env lf 6 fi199 [.st [.sl l0_0, .i .i64 n0_1, .sl l0_2, .b b0_3], .i .i64 n1] = f199 c lf l0_0 n0_1 l0_2 b0_3 n1 := by
 refine (f199_raw c lf l0_0 n0_1 l0_2 b0_3 n1).trans ?_
 rfl
def f201_0_s (c : Orc) (lf : Nat) (b0_3 : Bool) (l0_0 : List T) (l0_2 : List T) (n0_1 : Int) (L : Int → Option (List T)) (x199 : Int) : Option (List T) :=
 bif iLt x199 (l0_2.length : Int) then
  bif inR x199 l0_2.length then
  bif (asI (T.cell (l0_2.getD x199.toNat T.u) 0)) == n0_1 then
   bif inR x199 l0_2.length then
   some [T.i .i64 0, T.b true, T.i .i64 (asI (T.cell (l0_2.getD x199.toNat T.u) 0)), T.i .i64 (asI (T.cell (l0_2.getD x199.toNat T.u) 1)), T.i .i64 (asI (T.cell (l0_2.getD x199.toNat T.u) 2))]
   else none
  else
   L (IntKind.wrap .i64 (x199 + 1))
  else none
 else
  some [T.i .i64 1, T.i .i64 0, T.i .i64 0, T.i .i64 0]
def f201_0_c (b0_3 : Bool) (l0_0 : List T) (l0_2 : List T) (n0_1 : Int) (x199 : Int) : CSt := ⟨[.bp 4 0, .bp 5 0, .i .i64 x199], [.dead, .dead, .dead, .dead, .box [.ro 0 true [.sl true [.b, .sl false [.i .u8]], .i .i64, .b] l0_0, .i .i64 n0_1, .ro 0 true [.i .i64, .i .i64, .i .i64] l0_2, .b b0_3], .box [.i .i64 0, .i .i64 0, .i .i64 0]]⟩
theorem f201_0_round (c : Orc) (lf : Nat) (b0_3 : Bool) (l0_0 : List T) (l0_2 : List T) (n0_1 : Int) (L : CSt → Option (List T)) (x199 : Int) :
  roundK c env lf 6 fi201 4 2 [] [1, 2, 4] (x201_2_0) L (f201_0_c b0_3 l0_0 l0_2 n0_1 x199) = f201_0_s c lf b0_3 l0_0 l0_2 n0_1 (fun x199 => L (f201_0_c b0_3 l0_0 l0_2 n0_1 x199)) x199 := by kernel_rfl
def f201_0 (c : Orc) (lf : Nat) (b0_3 : Bool) (l0_0 : List T) (l0_2 : List T) (n0_1 : Int) : Nat → Int → Option (List T)
 | 0 => fun _ => none
 | n + 1 => fun x199 => f201_0_s c lf b0_3 l0_0 l0_2 n0_1 (f201_0 c lf b0_3 l0_0 l0_2 n0_1 n) x199
theorem f201_0_u (c : Orc) (lf : Nat) (b0_3 : Bool) (l0_0 : List T) (l0_2 : List T) (n0_1 : Int) (n : Nat) (x199 : Int) : f201_0 c lf b0_3 l0_0 l0_2 n0_1 (n + 1) x199 = f201_0_s c lf b0_3 l0_0 l0_2 n0_1 (f201_0 c lf b0_3 l0_0 l0_2 n0_1 n) x199 := rfl
theorem f201_0_eq (c : Orc) (lf : Nat) (b0_3 : Bool) (l0_0 : List T) (l0_2 : List T) (n0_1 : Int) (n : Nat) (x199 : Int) :
  lpK c env lf 6 fi201 4 2 [] [1, 2, 4] (x201_2_0) n (f201_0_c b0_3 l0_0 l0_2 n0_1 x199) = f201_0 c lf b0_3 l0_0 l0_2 n0_1 n x199 := by
 induction n generalizing x199 with
 | zero => rfl
 | succ n ih =>
  refine (f201_0_round c lf b0_3 l0_0 l0_2 n0_1 _ x199).trans ?_
  have e : (fun x199 => lpK c env lf 6 fi201 4 2 [] [1, 2, 4] (x201_2_0) n (f201_0_c b0_3 l0_0 l0_2 n0_1 x199)) = f201_0 c lf b0_3 l0_0 l0_2 n0_1 n := by funext x199; exact ih x199
  show f201_0_s c lf b0_3 l0_0 l0_2 n0_1 (fun x199 => lpK c env lf 6 fi201 4 2 [] [1, 2, 4] (x201_2_0) n (f201_0_c b0_3 l0_0 l0_2 n0_1 x199)) x199 = _
  rw [e]; rfl
def f201_t (c : Orc) (lf : Nat) (lp0 : Bool → List T → List T → Int → Int → Option (List T)) (l0_0 : List T) (n0_1 : Int) (l0_2 : List T) (b0_3 : Bool) : Option (List T) :=
 (lp0 b0_3 l0_0 l0_2 n0_1 0).bind fun r200 =>
 bif asI (nth r200 0) == 0 then
  some [T.st [T.i .i64 (asI (nth r200 2)), T.i .i64 (asI (nth r200 3)), T.i .i64 (asI (nth r200 4))], T.b (asB (nth r200 1))]
 else
  some [T.st [T.i .i64 0, T.i .i64 0, T.i .i64 0], T.b false]
def f201 (c : Orc) (lf : Nat) (l0_0 : List T) (n0_1 : Int) (l0_2 : List T) (b0_3 : Bool) : Option (List T) := f201_t c lf (fun (b0_3 : Bool) (l0_0 : List T) (l0_2 : List T) (n0_1 : Int) (x199 : Int) => f201_0 c lf b0_3 l0_0 l0_2 n0_1 lf x199) l0_0 n0_1 l0_2 b0_3
theorem f201_raw (c : Orc) (lf : Nat) (l0_0 : List T) (n0_1 : Int) (l0_2 : List T) (b0_3 : Bool) : funK c env lf 6 fi201 [.st [.sl l0_0, .i .i64 n0_1, .sl l0_2, .b b0_3]] = f201_t c lf (fun (b0_3 : Bool) (l0_0 : List T) (l0_2 : List T) (n0_1 : Int) (x199 : Int) => lpK c env lf 6 fi201 4 2 [] [1, 2, 4] (x201_2_0) lf (f201_0_c b0_3 l0_0 l0_2 n0_1 x199)) l0_0 n0_1 l0_2 b0_3 := by kernel_rfl
theorem f201_eq (c : Orc) (lf : Nat) (l0_0 : List T) (n0_1 : Int) (l0_2 : List T) (b0_3 : Bool) : funK c env lf 6 fi201 [.st [.sl l0_0, .i .i64 n0_1, .sl l0_2, .b b0_3]] = f201 c lf l0_0 n0_1 l0_2 b0_3 := by
 refine (f201_raw c lf l0_0 n0_1 l0_2 b0_3).trans ?_
 have e0 : (fun (b0_3 : Bool) (l0_0 : List T) (l0_2 : List T) (n0_1 : Int) (x199 : Int) => lpK c env lf 6 fi201 4 2 [] [1, 2, 4] (x201_2_0) lf (f201_0_c b0_3 l0_0 l0_2 n0_1 x199)) = (fun (b0_3 : Bool) (l0_0 : List T) (l0_2 : List T) (n0_1 : Int) (x199 : Int) => f201_0 c lf b0_3 l0_0 l0_2 n0_1 lf x199) := by funext b0_3 l0_0 l0_2 n0_1 x199; exact f201_0_eq c lf b0_3 l0_0 l0_2 n0_1 lf x199
 rw [e0]; rfl
def f202_t (c : Orc) (lf : Nat) (l0_0 : List T) (n1 : Int) (l2 : List T) : Option (List T) :=
 (c 194 [T.st [T.sl l0_0]]).bind fun r201 =>
 (c 200 [T.st [T.sl l0_0], T.i .i64 n1, T.sl l2]).bind fun r202 =>
 bif (asI (nth r202 0)) == 0 then
  bif inR n1 ((asL (T.cell (nth r201 0) 0)).length) then
  (c 155 [T.st [T.sl l0_0], T.i .i64 n1]).bind fun r203 =>
  bif nLe (([] : List T).length + l2.length) LIM then
  bif inR (asI (nth r203 0)) ((asL (T.cell ((asL (T.cell (nth r201 0) 0)).getD n1.toNat T.u) 0)).length) then
  some [T.st [T.sl ((asL (T.cell (nth r201 0) 0)).set n1.toNat (T.setc ((asL (T.cell (nth r201 0) 0)).getD n1.toNat T.u) 0 (T.sl ((asL (T.cell ((asL (T.cell (nth r201 0) 0)).getD n1.toNat T.u) 0)).set ((asI (nth r203 0)).toNat) (T.st [T.b true, T.sl (([] : List T) ++ l2)])))))], T.i .i64 (asI (nth r202 0))]
  else none
  else none
  else none
 else
  some [T.st [T.sl (asL (T.cell (nth r201 0) 0))], T.i .i64 (asI (nth r202 0))]
def f202 (c : Orc) (lf : Nat) (l0_0 : List T) (n1 : Int) (l2 : List T) : Option (List T) := f202_t c lf l0_0 n1 l2
theorem f202_raw (c : Orc) (lf : Nat) (l0_0 : List T) (n1 : Int) (l2 : List T) : funK c env lf 6 fi202 [.st [.sl l0_0], .i .i64 n1, .sl l2] = f202_t c lf l0_0 n1 l2 := by kernel_rfl
theorem f202_eq (c : Orc) (lf : Nat) (l0_0 : List T) (n1 : Int) (l2 : List T) : funK c env lf 6 fi202 [.st [.sl l0_0], .i .i64 n1, .sl l2] = f202 c lf l0_0 n1 l2 := by
 refine (f202_raw c lf l0_0 n1 l2).trans ?_
 rfl
def f156_t (c : Orc) (lf : Nat) (l0_0 : List T) (n0_1 : Int) (l0_2 : List T) (b0_3 : Bool) (n1 : Int) (l2 : List T) : Option (List T) :=
 (c 152 [T.st [T.sl l0_0, T.i .i64 n0_1, T.sl l0_2, T.b b0_3]]).bind fun r204 =>
 (c 200 [T.st [T.sl l0_0], T.i .i64 n1, T.sl l2]).bind fun r205 =>
 (c 199 [T.st [T.sl l0_0, T.i .i64 n0_1, T.sl l0_2, T.b b0_3], T.i .i64 (asI (nth r205 0))]).bind fun r206 =>
 bif (asI (nth r206 0)) != 0 then
  some [T.st [T.sl (asL (T.cell (nth r204 0) 0)), T.i .i64 (asI (T.cell (nth r204 0) 1)), T.sl (asL (T.cell (nth r204 0) 2)), T.b (asB (T.cell (nth r204 0) 3))], T.i .i64 (asI (nth r206 0))]
 else
  (c 201 [T.st [T.sl l0_0, T.i .i64 n0_1, T.sl l0_2, T.b b0_3]]).bind fun r207 =>
  bif asB (nth r207 1) then
   bif (asI (T.cell (nth r207 0) 1)) == 1 then
    bif inR n1 ((asL (T.cell (nth r204 0) 0)).length) then
    some [T.st [T.sl ((asL (T.cell (nth r204 0) 0)).set n1.toNat (T.setc ((asL (T.cell (nth r204 0) 0)).getD n1.toNat T.u) 2 (T.b true))), T.i .i64 (IntKind.wrap .i64 (n0_1 + 1)), T.sl (asL (T.cell (nth r204 0) 2)), T.b (asB (T.cell (nth r204 0) 3))], T.i .i64 2]
    else none
   else
    bif asB (nth r207 1) then
     bif iLt (asI (T.cell (nth r207 0) 2)) (l2.length : Int) then
      bif iLe 0 (asI (T.cell (nth r207 0) 2)) && iLe (asI (T.cell (nth r207 0) 2)) (l2.length : Int) then
      (c 202 [T.st [T.sl l0_0], T.i .i64 n1, T.sl (l2.take ((asI (T.cell (nth r207 0) 2)).toNat))]).bind fun r208 =>
      bif asB (nth r207 1) then
       some [T.st [T.sl (asL (T.cell (nth r208 0) 0)), T.i .i64 (IntKind.wrap .i64 (n0_1 + 1)), T.sl (asL (T.cell (nth r204 0) 2)), T.b (asB (nth r207 1))], T.i .i64 10]
      else
       some [T.st [T.sl (asL (T.cell (nth r208 0) 0)), T.i .i64 (IntKind.wrap .i64 (n0_1 + 1)), T.sl (asL (T.cell (nth r204 0) 2)), T.b (asB (nth r207 1))], T.i .i64 0]
      else none
     else
      bif iLe 0 (l2.length : Int) && iLe (l2.length : Int) (l2.length : Int) then
      (c 202 [T.st [T.sl l0_0], T.i .i64 n1, T.sl (l2.take ((l2.length : Int).toNat))]).bind fun r209 =>
      bif asB (nth r207 1) then
       some [T.st [T.sl (asL (T.cell (nth r209 0) 0)), T.i .i64 (IntKind.wrap .i64 (n0_1 + 1)), T.sl (asL (T.cell (nth r204 0) 2)), T.b (asB (nth r207 1))], T.i .i64 10]
      else
       some [T.st [T.sl (asL (T.cell (nth r209 0) 0)), T.i .i64 (IntKind.wrap .i64 (n0_1 + 1)), T.sl (asL (T.cell (nth r204 0) 2)), T.b (asB (nth r207 1))], T.i .i64 0]
      else none
    else
     bif iLe 0 (l2.length : Int) && iLe (l2.length : Int) (l2.length : Int) then
     (c 202 [T.st [T.sl l0_0], T.i .i64 n1, T.sl (l2.take ((l2.length : Int).toNat))]).bind fun r210 =>
     bif asB (nth r207 1) then
      some [T.st [T.sl (asL (T.cell (nth r210 0) 0)), T.i .i64 (IntKind.wrap .i64 (n0_1 + 1)), T.sl (asL (T.cell (nth r204 0) 2)), T.b (asB (nth r207 1))], T.i .i64 10]
     else
      some [T.st [T.sl (asL (T.cell (nth r210 0) 0)), T.i .i64 (IntKind.wrap .i64 (n0_1 + 1)), T.sl (asL (T.cell (nth r204 0) 2)), T.b (asB (nth r207 1))], T.i .i64 0]
     else none
  else
   bif asB (nth r207 1) then
    bif iLt (asI (T.cell (nth r207 0) 2)) (l2.length : Int) then
     bif iLe 0 (asI (T.cell (nth r207 0) 2)) && iLe (asI (T.cell (nth r207 0) 2)) (l2.length : Int) then
     (c 202 [T.st [T.sl l0_0], T.i .i64 n1, T.sl (l2.take ((asI (T.cell (nth r207 0) 2)).toNat))]).bind fun r211 =>
     bif asB (nth r207 1) then
      some [T.st [T.sl (asL (T.cell (nth r211 0) 0)), T.i .i64 (IntKind.wrap .i64 (n0_1 + 1)), T.sl (asL (T.cell (nth r204 0) 2)), T.b (asB (nth r207 1))], T.i .i64 10]
     else
      some [T.st [T.sl (asL (T.cell (nth r211 0) 0)), T.i .i64 (IntKind.wrap .i64 (n0_1 + 1)), T.sl (asL (T.cell (nth r204 0) 2)), T.b (asB (nth r207 1))], T.i .i64 0]
     else none
    else
     bif iLe 0 (l2.length : Int) && iLe (l2.length : Int) (l2.length : Int) then
     (c 202 [T.st [T.sl l0_0], T.i .i64 n1, T.sl (l2.take ((l2.length : Int).toNat))]).bind fun r212 =>
     bif asB (nth r207 1) then
      some [T.st [T.sl (asL (T.cell (nth r212 0) 0)), T.i .i64 (IntKind.wrap .i64 (n0_1 + 1)), T.sl (asL (T.cell (nth r204 0) 2)), T.b (asB (nth r207 1))], T.i .i64 10]
     else
      some [T.st [T.sl (asL (T.cell (nth r212 0) 0)), T.i .i64 (IntKind.wrap .i64 (n0_1 + 1)), T.sl (asL (T.cell (nth r204 0) 2)), T.b (asB (nth r207 1))], T.i .i64 0]
     else none
   else
    bif iLe 0 (l2.length : Int) && iLe (l2.length : Int) (l2.length : Int) then
    (c 202 [T.st [T.sl l0_0], T.i .i64 n1, T.sl (l2.take ((l2.length : Int).toNat))]).bind fun r213 =>
    bif asB (nth r207 1) then
     some [T.st [T.sl (asL (T.cell (nth r213 0) 0)), T.i .i64 (IntKind.wrap .i64 (n0_1 + 1)), T.sl (asL (T.cell (nth r204 0) 2)), T.b (asB (nth r207 1))], T.i .i64 10]
    else
     some [T.st [T.sl (asL (T.cell (nth r213 0) 0)), T.i .i64 (IntKind.wrap .i64 (n0_1 + 1)), T.sl (asL (T.cell (nth r204 0) 2)), T.b (asB (nth r207 1))], T.i .i64 0]
    else none
def f156 (c : Orc) (lf : Nat) (l0_0 : List T) (n0_1 : Int) (l0_2 : List T) (b0_3 : Bool) (n1 : Int) (l2 : List T) : Option (List T) := f156_t c lf l0_0 n0_1 l0_2 b0_3 n1 l2
theorem f156_raw (c : Orc) (lf : Nat) (l0_0 : List T) (n0_1 : Int) (l0_2 : List T) (b0_3 : Bool) (n1 : Int) (l2 : List T) : funK c env lf 6 fi156 [.st [.sl l0_0, .i .i64 n0_1, .sl l0_2, .b b0_3], .i .i64 n1, .sl l2] = f156_t c lf l0_0 n0_1 l0_2 b0_3 n1 l2 := by kernel_rfl
theorem f156_eq (c : Orc) (lf : Nat) (l0_0 : List T) (n0_1 : Int) (l0_2 : List T) (b0_3 : Bool) (n1 : Int) (l2 : List T) : funK c env lf 6 fi156 [.st [.sl l0_0, .i .i64 n0_1, .sl l0_2, .b b0_3], .i .i64 n1, .sl l2] = f156 c lf l0_0 n0_1 l0_2 b0_3 n1 l2 := by
 refine (f156_raw c lf l0_0 n0_1 l0_2 b0_3 n1 l2).trans ?_
 rfl
def f104_0_s (c : Orc) (lf : Nat) (n3 : Int) (n0_4 : Int) (r227 : List T) (L : Int → Int → Bool → List T → List T → Option (List T)) (x231 : Int) (x232 : Int) (x233 : Bool) (x234 : List T) (x235 : List T) : Option (List T) :=
 bif iLe x231 (x234.length : Int) then
  (c 154 [T.st [T.sl x234, T.i .i64 x232, T.sl x235, T.b x233, T.i .i64 n0_4], T.i .i64 n3]).bind fun r236 =>
  bif x233 then
   some [T.i .i64 0, T.i .i64 (-1), T.i .i64 10, T.i .i64 x232, T.b x233, T.i .i64 n0_4, T.sl x234, T.sl x235]
  else
   bif iLt (asI (nth r236 0)) 0 then
    some [T.i .i64 0, T.i .i64 (-1), T.i .i64 9, T.i .i64 x232, T.b x233, T.i .i64 n0_4, T.sl x234, T.sl x235]
   else
    (c 155 [T.st [T.sl x234], T.i .i64 (asI (nth r236 0))]).bind fun r237 =>
    (c 156 [T.st [T.sl x234, T.i .i64 x232, T.sl x235, T.b x233], T.i .i64 (asI (nth r236 0)), T.sl (asL (nth r227 0))]).bind fun r238 =>
    bif (asI (nth r238 1)) == 0 then
     some [T.i .i64 0, T.i .i64 (IntKind.wrap .i64 ((IntKind.wrap .i64 ((asI (nth r236 0)) * 8)) + (asI (nth r237 0)))), T.i .i64 0, T.i .i64 (asI (T.cell (nth r238 0) 1)), T.b (asB (T.cell (nth r238 0) 3)), T.i .i64 (IntKind.wrap .i64 (n0_4 + 1)), T.sl (asL (T.cell (nth r238 0) 0)), T.sl (asL (T.cell (nth r238 0) 2))]
    else
     bif (asI (nth r238 1)) != 2 then
      bif asB (T.cell (nth r238 0) 3) then
       some [T.i .i64 0, T.i .i64 (-1), T.i .i64 10, T.i .i64 (asI (T.cell (nth r238 0) 1)), T.b (asB (T.cell (nth r238 0) 3)), T.i .i64 (IntKind.wrap .i64 (n0_4 + 1)), T.sl (asL (T.cell (nth r238 0) 0)), T.sl (asL (T.cell (nth r238 0) 2))]
      else
       some [T.i .i64 0, T.i .i64 (-1), T.i .i64 10, T.i .i64 (asI (T.cell (nth r238 0) 1)), T.b (asB (T.cell (nth r238 0) 3)), T.i .i64 n0_4, T.sl (asL (T.cell (nth r238 0) 0)), T.sl (asL (T.cell (nth r238 0) 2))]
     else
      L (IntKind.wrap .i64 (x231 + 1)) (asI (T.cell (nth r238 0) 1)) (asB (T.cell (nth r238 0) 3)) (asL (T.cell (nth r238 0) 0)) (asL (T.cell (nth r238 0) 2))
 else
  some [T.i .i64 1, T.i .i64 x232, T.b x233, T.i .i64 n0_4, T.sl x234, T.sl x235, T.i .i64 0, T.b false, T.i .i64 0, T.sl ([] : List T), T.sl ([] : List T)]
def f104_0_c (n3 : Int) (n0_4 : Int) (r227 : List T) (x231 : Int) (x232 : Int) (x233 : Bool) (x234 : List T) (x235 : List T) : CSt := ⟨[.i .i64 n3, .bp 8 0, .bp 11 0, .rf 14 [] 0 none, .i .i64 x231], [.dead, .dead, .dead, .dead, .dead, .dead, .dead, .dead, .box [.rf 9 [] 0 none, .i .i64 x232, .rf 10 [] 0 none, .b x233, .i .i64 n0_4], .row true [.sl true [.b, .sl false [.i .u8]], .i .i64, .b] x234 0 false, .row true [.i .i64, .i .i64, .i .i64] x235 0 false, .box [.rf 12 [] 0 none, .i .i64 0, .rf 13 [] 0 none, .b false, .i .i64 0], .row true [.sl true [.b, .sl false [.i .u8]], .i .i64, .b] ([] : List T) 0 false, .row true [.i .i64, .i .i64, .i .i64] ([] : List T) 0 false, .row false [.i .u8] (asL (nth r227 0)) 0 false]⟩
theorem f104_0_round (c : Orc) (lf : Nat) (n3 : Int) (n0_4 : Int) (r227 : List T) (L : CSt → Option (List T)) (x231 : Int) (x232 : Int) (x233 : Bool) (x234 : List T) (x235 : List T) :
  roundK c env lf 6 fi104 8 3 [] [3, 4, 8, 11, 12] (x104_3_0) L (f104_0_c n3 n0_4 r227 x231 x232 x233 x234 x235) = f104_0_s c lf n3 n0_4 r227 (fun x231 x232 x233 x234 x235 => L (f104_0_c n3 n0_4 r227 x231 x232 x233 x234 x235)) x231 x232 x233 x234 x235 := by kernel_rfl
def f104_0 (c : Orc) (lf : Nat) (n3 : Int) (n0_4 : Int) (r227 : List T) : Nat → Int → Int → Bool → List T → List T → Option (List T)
 | 0 => fun _ _ _ _ _ => none
 | n + 1 => fun x231 x232 x233 x234 x235 => f104_0_s c lf n3 n0_4 r227 (f104_0 c lf n3 n0_4 r227 n) x231 x232 x233 x234 x235
theorem f104_0_u (c : Orc) (lf : Nat) (n3 : Int) (n0_4 : Int) (r227 : List T) (n : Nat) (x231 : Int) (x232 : Int) (x233 : Bool) (x234 : List T) (x235 : List T) : f104_0 c lf n3 n0_4 r227 (n + 1) x231 x232 x233 x234 x235 = f104_0_s c lf n3 n0_4 r227 (f104_0 c lf n3 n0_4 r227 n) x231 x232 x233 x234 x235 := rfl
theorem f104_0_eq (c : Orc) (lf : Nat) (n3 : Int) (n0_4 : Int) (r227 : List T) (n : Nat) (x231 : Int) (x232 : Int) (x233 : Bool) (x234 : List T) (x235 : List T) :
  lpK c env lf 6 fi104 8 3 [] [3, 4, 8, 11, 12] (x104_3_0) n (f104_0_c n3 n0_4 r227 x231 x232 x233 x234 x235) = f104_0 c lf n3 n0_4 r227 n x231 x232 x233 x234 x235 := by
 induction n generalizing x231 x232 x233 x234 x235 with
 | zero => rfl
 | succ n ih =>
  refine (f104_0_round c lf n3 n0_4 r227 _ x231 x232 x233 x234 x235).trans ?_
  have e : (fun x231 x232 x233 x234 x235 => lpK c env lf 6 fi104 8 3 [] [3, 4, 8, 11, 12] (x104_3_0) n (f104_0_c n3 n0_4 r227 x231 x232 x233 x234 x235)) = f104_0 c lf n3 n0_4 r227 n := by funext x231 x232 x233 x234 x235; exact ih x231 x232 x233 x234 x235
  show f104_0_s c lf n3 n0_4 r227 (fun x231 x232 x233 x234 x235 => lpK c env lf 6 fi104 8 3 [] [3, 4, 8, 11, 12] (x104_3_0) n (f104_0_c n3 n0_4 r227 x231 x232 x233 x234 x235)) x231 x232 x233 x234 x235 = _
  rw [e]; rfl
def f104_t (c : Orc) (lf : Nat) (lp0 : Int → Int → List T → Int → Int → Bool → List T → List T → Option (List T)) (l0_0 : List T) (n0_1 : Int) (l0_2 : List T) (b0_3 : Bool) (n0_4 : Int) (n1 : Int) (l2 : List T) (n3 : Int) : Option (List T) :=
 (c 153 [T.st [T.i .i64 n1, T.i .i64 n0_4, T.sl l2]]).bind fun r227 =>
 (lp0 n3 n0_4 r227 0 n0_1 b0_3 l0_0 l0_2).bind fun r239 =>
 bif asI (nth r239 0) == 0 then
  some [T.st [T.sl (asL (nth r239 6)), T.i .i64 (asI (nth r239 3)), T.sl (asL (nth r239 7)), T.b (asB (nth r239 4)), T.i .i64 (asI (nth r239 5))], T.i .i64 (asI (nth r239 1)), T.i .i64 (asI (nth r239 2))]
 else
  some [T.st [T.sl (asL (nth r239 4)), T.i .i64 (asI (nth r239 1)), T.sl (asL (nth r239 5)), T.b (asB (nth r239 2)), T.i .i64 (asI (nth r239 3))], T.i .i64 (-1), T.i .i64 9]
def f104 (c : Orc) (lf : Nat) (l0_0 : List T) (n0_1 : Int) (l0_2 : List T) (b0_3 : Bool) (n0_4 : Int) (n1 : Int) (l2 : List T) (n3 : Int) : Option (List T) := f104_t c lf (fun (n3 : Int) (n0_4 : Int) (r227 : List T) (x231 : Int) (x232 : Int) (x233 : Bool) (x234 : List T) (x235 : List T) => f104_0 c lf n3 n0_4 r227 lf x231 x232 x233 x234 x235) l0_0 n0_1 l0_2 b0_3 n0_4 n1 l2 n3
theorem f104_raw (c : Orc) (lf : Nat) (l0_0 : List T) (n0_1 : Int) (l0_2 : List T) (b0_3 : Bool) (n0_4 : Int) (n1 : Int) (l2 : List T) (n3 : Int) : funK c env lf 6 fi104 [.st [.sl l0_0, .i .i64 n0_1, .sl l0_2, .b b0_3, .i .i64 n0_4], .i .i64 n1, .sl l2, .i .i64 n3] = f104_t c lf (fun (n3 : Int) (n0_4 : Int) (r227 : List T) (x231 : Int) (x232 : Int) (x233 : Bool) (x234 : List T) (x235 : List T) => lpK c env lf 6 fi104 8 3 [] [3, 4, 8, 11, 12] (x104_3_0) lf (f104_0_c n3 n0_4 r227 x231 x232 x233 x234 x235)) l0_0 n0_1 l0_2 b0_3 n0_4 n1 l2 n3 := by kernel_rfl
theorem f104_eq (c : Orc) (lf : Nat) (l0_0 : List T) (n0_1 : Int) (l0_2 : List T) (b0_3 : Bool) (n0_4 : Int) (n1 : Int) (l2 : List T) (n3 : Int) : funK c env lf 6 fi104 [.st [.sl l0_0, .i .i64 n0_1, .sl l0_2, .b b0_3, .i .i64 n0_4], .i .i64 n1, .sl l2, .i .i64 n3] = f104 c lf l0_0 n0_1 l0_2 b0_3 n0_4 n1 l2 n3 := by
 refine (f104_raw c lf l0_0 n0_1 l0_2 b0_3 n0_4 n1 l2 n3).trans ?_
 have e0 : (fun (n3 : Int) (n0_4 : Int) (r227 : List T) (x231 : Int) (x232 : Int) (x233 : Bool) (x234 : List T) (x235 : List T) => lpK c env lf 6 fi104 8 3 [] [3, 4, 8, 11, 12] (x104_3_0) lf (f104_0_c n3 n0_4 r227 x231 x232 x233 x234 x235)) = (fun (n3 : Int) (n0_4 : Int) (r227 : List T) (x231 : Int) (x232 : Int) (x233 : Bool) (x234 : List T) (x235 : List T) => f104_0 c lf n3 n0_4 r227 lf x231 x232 x233 x234 x235) := by funext n3 n0_4 r227 x231 x232 x233 x234 x235; exact f104_0_eq c lf n3 n0_4 r227 lf x231 x232 x233 x234 x235
 rw [e0]; rfl
def f46_t (c : Orc) (lf : Nat) (l0_0 : List T) (n0_1 : Int) (l0_2 : List T) (b0_3 : Bool) (n0_4 : Int) (n1 : Int) (l2 : List T) (n3 : Int) : Option (List T) :=
 (c 102 [T.st [T.sl l0_0, T.i .i64 n0_1, T.sl l0_2, T.b b0_3, T.i .i64 n0_4]]).bind fun r240 =>
 (c 70 [T.st [T.sl l0_0, T.i .i64 n0_1, T.sl l0_2, T.b b0_3]]).bind fun r241 =>
 bif !(asB (nth r241 0)) then
  some [T.st [T.sl (asL (T.cell (nth r240 0) 0)), T.i .i64 (asI (T.cell (nth r240 0) 1)), T.sl (asL (T.cell (nth r240 0) 2)), T.b (asB (T.cell (nth r240 0) 3)), T.i .i64 (asI (T.cell (nth r240 0) 4))], T.i .i64 (-1), T.i .i64 1]
 else
  (c 103 [T.st [T.i .i64 n1, T.i .i64 n0_4, T.sl l2]]).bind fun r242 =>
  bif !(asB (nth r242 0)) then
   some [T.st [T.sl (asL (T.cell (nth r240 0) 0)), T.i .i64 (asI (T.cell (nth r240 0) 1)), T.sl (asL (T.cell (nth r240 0) 2)), T.b (asB (T.cell (nth r240 0) 3)), T.i .i64 (asI (T.cell (nth r240 0) 4))], T.i .i64 (-1), T.i .i64 1]
  else
   bif iLe 1000000 n0_4 then
    some [T.st [T.sl (asL (T.cell (nth r240 0) 0)), T.i .i64 (asI (T.cell (nth r240 0) 1)), T.sl (asL (T.cell (nth r240 0) 2)), T.b (asB (T.cell (nth r240 0) 3)), T.i .i64 (asI (T.cell (nth r240 0) 4))], T.i .i64 (-1), T.i .i64 1]
   else
    (c 104 [T.st [T.sl (asL (T.cell (nth r240 0) 0)), T.i .i64 (asI (T.cell (nth r240 0) 1)), T.sl (asL (T.cell (nth r240 0) 2)), T.b (asB (T.cell (nth r240 0) 3)), T.i .i64 (asI (T.cell (nth r240 0) 4))], T.i .i64 n1, T.sl l2, T.i .i64 n3]).bind fun r243 =>
    some [T.st [T.sl (asL (T.cell (nth r243 0) 0)), T.i .i64 (asI (T.cell (nth r243 0) 1)), T.sl (asL (T.cell (nth r243 0) 2)), T.b (asB (T.cell (nth r243 0) 3)), T.i .i64 (asI (T.cell (nth r243 0) 4))], T.i .i64 (asI (nth r243 1)), T.i .i64 (asI (nth r243 2))]
def f46 (c : Orc) (lf : Nat) (l0_0 : List T) (n0_1 : Int) (l0_2 : List T) (b0_3 : Bool) (n0_4 : Int) (n1 : Int) (l2 : List T) (n3 : Int) : Option (List T) := f46_t c lf l0_0 n0_1 l0_2 b0_3 n0_4 n1 l2 n3
theorem f46_raw (c : Orc) (lf : Nat) (l0_0 : List T) (n0_1 : Int) (l0_2 : List T) (b0_3 : Bool) (n0_4 : Int) (n1 : Int) (l2 : List T) (n3 : Int) : funK c env lf 6 fi46 [.st [.sl l0_0, .i .i64 n0_1, .sl l0_2, .b b0_3, .i .i64 n0_4], .i .i64 n1, .sl l2, .i .i64 n3] = f46_t c lf l0_0 n0_1 l0_2 b0_3 n0_4 n1 l2 n3 := by kernel_rfl
theorem f46_eq (c : Orc) (lf : Nat) (l0_0 : List T) (n0_1 : Int) (l0_2 : List T) (b0_3 : Bool) (n0_4 : Int) (n1 : Int) (l2 : List T) (n3 : Int) : funK c env lf 6 fi46 [.st [.sl l0_0, .i .i64 n0_1, .sl l0_2, .b b0_3, .i .i64 n0_4], .i .i64 n1, .sl l2, .i .i64 n3] = f46 c lf l0_0 n0_1 l0_2 b0_3 n0_4 n1 l2 n3 := by
 refine (f46_raw c lf l0_0 n0_1 l0_2 b0_3 n0_4 n1 l2 n3).trans ?_
 rfl
def f106_t (c : Orc) (lf : Nat) (l0_0 : List T) (n0_1 : Int) (n0_2 : Int) (n1 : Int) : Option (List T) :=
 (c 97 [T.st [T.sl l0_0, T.i .i64 n0_1, T.i .i64 n0_2], T.i .i64 n1]).bind fun r244 =>
 some [T.b ((asI (nth r244 0)) == 0), T.st [T.sl l0_0, T.i .i64 (asI (T.cell (nth r244 1) 1)), T.i .i64 (asI (T.cell (nth r244 1) 2))]]
def f106 (c : Orc) (lf : Nat) (l0_0 : List T) (n0_1 : Int) (n0_2 : Int) (n1 : Int) : Option (List T) := f106_t c lf l0_0 n0_1 n0_2 n1
theorem f106_raw (c : Orc) (lf : Nat) (l0_0 : List T) (n0_1 : Int) (n0_2 : Int) (n1 : Int) : funK c env lf 6 fi106 [.st [.sl l0_0, .i .i64 n0_1, .i .i64 n0_2], .i .i64 n1] = f106_t c lf l0_0 n0_1 n0_2 n1 := by kernel_rfl
theorem f106_eq (c : Orc) (lf : Nat) (l0_0 : List T) (n0_1 : Int) (n0_2 : Int) (n1 : Int) : funK c env lf 6 fi106 [.st [.sl l0_0, .i .i64 n0_1, .i .i64 n0_2], .i .i64 n1] = f106 c lf l0_0 n0_1 n0_2 n1 := by
 refine (f106_raw c lf l0_0 n0_1 n0_2 n1).trans ?_
 rfl
def f85_0_s (c : Orc) (lf : Nat) (l0_0 : List T) (L : Int → Int → Int → Int → Bool → Int → List T → List T → Option (List T)) (x277 : Int) (x278 : Int) (x279 : Int) (x280 : Int) (x281 : Bool) (x282 : Int) (x283 : List T) (x284 : List T) : Option (List T) :=
 bif iLt 0 x277 then
  (c 97 [T.st [T.sl l0_0, T.i .i64 x278, T.i .i64 x279], T.i .i64 4]).bind fun r285 =>
  (c 86 [T.st [T.sl l0_0, T.i .i64 (asI (T.cell (nth r285 1) 1)), T.i .i64 (asI (T.cell (nth r285 1) 2))]]).bind fun r286 =>
  (c 97 [T.st [T.sl l0_0, T.i .i64 (asI (T.cell (nth r286 1) 1)), T.i .i64 (asI (T.cell (nth r286 1) 2))], T.i .i64 2]).bind fun r287 =>
  (c 46 [T.st [T.sl x283, T.i .i64 x280, T.sl x284, T.b x281, T.i .i64 x282], T.i .i64 (IntKind.wrap .i64 (1 + (asI (nth r285 0)))), T.sl (asL (nth r286 0)), T.i .i64 (asI (nth r287 0))]).bind fun r288 =>
  bif asB (T.cell (nth r288 0) 3) then
   (c 106 [T.st [T.sl l0_0, T.i .i64 (asI (T.cell (nth r287 1) 1)), T.i .i64 (asI (T.cell (nth r287 1) 2))], T.i .i64 3]).bind fun r289 =>
   bif asB (nth r289 0) then
    L (IntKind.wrap .i64 (x277 - 1)) (asI (T.cell (nth r289 1) 1)) (asI (T.cell (nth r289 1) 2)) (asI (T.cell (nth r288 0) 1)) false (asI (T.cell (nth r288 0) 4)) (asL (T.cell (nth r288 0) 0)) (asL (T.cell (nth r288 0) 2))
   else
    L (IntKind.wrap .i64 (x277 - 1)) (asI (T.cell (nth r289 1) 1)) (asI (T.cell (nth r289 1) 2)) (asI (T.cell (nth r288 0) 1)) (asB (T.cell (nth r288 0) 3)) (asI (T.cell (nth r288 0) 4)) (asL (T.cell (nth r288 0) 0)) (asL (T.cell (nth r288 0) 2))
  else
   L (IntKind.wrap .i64 (x277 - 1)) (asI (T.cell (nth r287 1) 1)) (asI (T.cell (nth r287 1) 2)) (asI (T.cell (nth r288 0) 1)) (asB (T.cell (nth r288 0) 3)) (asI (T.cell (nth r288 0) 4)) (asL (T.cell (nth r288 0) 0)) (asL (T.cell (nth r288 0) 2))
 else
  some [T.i .i64 0, T.sl l0_0, T.i .i64 x278, T.i .i64 x279, T.i .i64 0, T.b false, T.i .i64 0, T.sl ([] : List T), T.sl ([] : List T), T.i .i64 x280, T.b x281, T.i .i64 x282, T.sl x283, T.sl x284]
def f85_0_c (l0_0 : List T) (x277 : Int) (x278 : Int) (x279 : Int) (x280 : Int) (x281 : Bool) (x282 : Int) (x283 : List T) (x284 : List T) : CSt := ⟨[.bp 0 0, .bp 4 0, .bp 7 0, .i .i64 x277], [.box [.ro 1 false [.i .u8] l0_0, .i .i64 x278, .i .i64 x279], .dead, .dead, .dead, .box [.rf 5 [] 0 none, .i .i64 0, .rf 6 [] 0 none, .b false, .i .i64 0], .row true [.sl true [.b, .sl false [.i .u8]], .i .i64, .b] ([] : List T) 0 false, .row true [.i .i64, .i .i64, .i .i64] ([] : List T) 0 false, .box [.rf 8 [] 0 none, .i .i64 x280, .rf 9 [] 0 none, .b x281, .i .i64 x282], .row true [.sl true [.b, .sl false [.i .u8]], .i .i64, .b] x283 0 false, .row true [.i .i64, .i .i64, .i .i64] x284 0 false]⟩
theorem f85_0_round (c : Orc) (lf : Nat) (l0_0 : List T) (L : CSt → Option (List T)) (x277 : Int) (x278 : Int) (x279 : Int) (x280 : Int) (x281 : Bool) (x282 : Int) (x283 : List T) (x284 : List T) :
  roundK c env lf 6 fi85 4 3 [] [0, 2, 3, 4] (x85_3_0) L (f85_0_c l0_0 x277 x278 x279 x280 x281 x282 x283 x284) = f85_0_s c lf l0_0 (fun x277 x278 x279 x280 x281 x282 x283 x284 => L (f85_0_c l0_0 x277 x278 x279 x280 x281 x282 x283 x284)) x277 x278 x279 x280 x281 x282 x283 x284 := by kernel_rfl
def f85_0 (c : Orc) (lf : Nat) (l0_0 : List T) : Nat → Int → Int → Int → Int → Bool → Int → List T → List T → Option (List T)
 | 0 => fun _ _ _ _ _ _ _ _ => none
 | n + 1 => fun x277 x278 x279 x280 x281 x282 x283 x284 => f85_0_s c lf l0_0 (f85_0 c lf l0_0 n) x277 x278 x279 x280 x281 x282 x283 x284
theorem f85_0_u (c : Orc) (lf : Nat) (l0_0 : List T) (n : Nat) (x277 : Int) (x278 : Int) (x279 : Int) (x280 : Int) (x281 : Bool) (x282 : Int) (x283 : List T) (x284 : List T) : f85_0 c lf l0_0 (n + 1) x277 x278 x279 x280 x281 x282 x283 x284 = f85_0_s c lf l0_0 (f85_0 c lf l0_0 n) x277 x278 x279 x280 x281 x282 x283 x284 := rfl
theorem f85_0_eq (c : Orc) (lf : Nat) (l0_0 : List T) (n : Nat) (x277 : Int) (x278 : Int) (x279 : Int) (x280 : Int) (x281 : Bool) (x282 : Int) (x283 : List T) (x284 : List T) :
  lpK c env lf 6 fi85 4 3 [] [0, 2, 3, 4] (x85_3_0) n (f85_0_c l0_0 x277 x278 x279 x280 x281 x282 x283 x284) = f85_0 c lf l0_0 n x277 x278 x279 x280 x281 x282 x283 x284 := by
 induction n generalizing x277 x278 x279 x280 x281 x282 x283 x284 with
 | zero => rfl
 | succ n ih =>
  refine (f85_0_round c lf l0_0 _ x277 x278 x279 x280 x281 x282 x283 x284).trans ?_
  have e : (fun x277 x278 x279 x280 x281 x282 x283 x284 => lpK c env lf 6 fi85 4 3 [] [0, 2, 3, 4] (x85_3_0) n (f85_0_c l0_0 x277 x278 x279 x280 x281 x282 x283 x284)) = f85_0 c lf l0_0 n := by funext x277 x278 x279 x280 x281 x282 x283 x284; exact ih x277 x278 x279 x280 x281 x282 x283 x284
  show f85_0_s c lf l0_0 (fun x277 x278 x279 x280 x281 x282 x283 x284 => lpK c env lf 6 fi85 4 3 [] [0, 2, 3, 4] (x85_3_0) n (f85_0_c l0_0 x277 x278 x279 x280 x281 x282 x283 x284)) x277 x278 x279 x280 x281 x282 x283 x284 = _
  rw [e]; rfl
def f85_t (c : Orc) (lf : Nat) (lp0 : List T → Int → Int → Int → Int → Bool → Int → List T → List T → Option (List T)) (l0_0 : List T) (n0_1 : Int) (n0_2 : Int) : Option (List T) :=
 (c 97 [T.st [T.sl l0_0, T.i .i64 n0_1, T.i .i64 n0_2], T.i .i64 3]).bind fun r268 =>
 (c 139 [T.st [T.sl l0_0, T.i .i64 (asI (T.cell (nth r268 1) 1)), T.i .i64 (asI (T.cell (nth r268 1) 2))]]).bind fun r269 =>
 (c 138 [T.i .i64 (IntKind.wrap .i64 (3 + (asI (nth r268 0)))), T.sl (asL (nth r269 0))]).bind fun r270 =>
 (c 97 [T.st [T.sl l0_0, T.i .i64 (asI (T.cell (nth r269 1) 1)), T.i .i64 (asI (T.cell (nth r269 1) 2))], T.i .i64 20]).bind fun r271 =>
 (lp0 l0_0 (asI (nth r271 0)) (asI (T.cell (nth r271 1) 1)) (asI (T.cell (nth r271 1) 2)) (asI (T.cell (nth r270 0) 1)) (asB (T.cell (nth r270 0) 3)) 0 (asL (T.cell (nth r270 0) 0)) (asL (T.cell (nth r270 0) 2))).bind fun r290 =>
 some [T.st [T.sl (asL (nth r290 12)), T.i .i64 (asI (nth r290 9)), T.sl (asL (nth r290 13)), T.b (asB (nth r290 10)), T.i .i64 (asI (nth r290 11))], T.st [T.sl (asL (nth r290 1)), T.i .i64 (asI (nth r290 2)), T.i .i64 (asI (nth r290 3))]]
def f85 (c : Orc) (lf : Nat) (l0_0 : List T) (n0_1 : Int) (n0_2 : Int) : Option (List T) := f85_t c lf (fun (l0_0 : List T) (x277 : Int) (x278 : Int) (x279 : Int) (x280 : Int) (x281 : Bool) (x282 : Int) (x283 : List T) (x284 : List T) => f85_0 c lf l0_0 lf x277 x278 x279 x280 x281 x282 x283 x284) l0_0 n0_1 n0_2
theorem f85_raw (c : Orc) (lf : Nat) (l0_0 : List T) (n0_1 : Int) (n0_2 : Int) : funK c env lf 6 fi85 [.st [.sl l0_0, .i .i64 n0_1, .i .i64 n0_2]] = f85_t c lf (fun (l0_0 : List T) (x277 : Int) (x278 : Int) (x279 : Int) (x280 : Int) (x281 : Bool) (x282 : Int) (x283 : List T) (x284 : List T) => lpK c env lf 6 fi85 4 3 [] [0, 2, 3, 4] (x85_3_0) lf (f85_0_c l0_0 x277 x278 x279 x280 x281 x282 x283 x284)) l0_0 n0_1 n0_2 := by kernel_rfl
theorem f85_eq (c : Orc) (lf : Nat) (l0_0 : List T) (n0_1 : Int) (n0_2 : Int) : funK c env lf 6 fi85 [.st [.sl l0_0, .i .i64 n0_1, .i .i64 n0_2]] = f85 c lf l0_0 n0_1 n0_2 := by
 refine (f85_raw c lf l0_0 n0_1 n0_2).trans ?_
 have e0 : (fun (l0_0 : List T) (x277 : Int) (x278 : Int) (x279 : Int) (x280 : Int) (x281 : Bool) (x282 : Int) (x283 : List T) (x284 : List T) => lpK c env lf 6 fi85 4 3 [] [0, 2, 3, 4] (x85_3_0) lf (f85_0_c l0_0 x277 x278 x279 x280 x281 x282 x283 x284)) = (fun (l0_0 : List T) (x277 : Int) (x278 : Int) (x279 : Int) (x280 : Int) (x281 : Bool) (x282 : Int) (x283 : List T) (x284 : List T) => f85_0 c lf l0_0 lf x277 x278 x279 x280 x281 x282 x283 x284) := by funext l0_0 x277 x278 x279 x280 x281 x282 x283 x284; exact f85_0_eq c lf l0_0 lf x277 x278 x279 x280 x281 x282 x283 x284
 rw [e0]; rfl
def f30_t (c : Orc) (lf : Nat) (l0 : List T) : Option (List T) :=
 (c 84 [T.sl l0]).bind fun r291 =>
 (c 85 [T.st [T.sl (asL (T.cell (nth r291 0) 0)), T.i .i64 (asI (T.cell (nth r291 0) 1)), T.i .i64 (asI (T.cell (nth r291 0) 2))]]).bind fun r292 =>
 (c 86 [T.st [T.sl (asL (T.cell (nth r291 0) 0)), T.i .i64 (asI (T.cell (nth r292 1) 1)), T.i .i64 (asI (T.cell (nth r292 1) 2))]]).bind fun r293 =>
 some [T.st [T.sl (asL (T.cell (nth r292 0) 0)), T.i .i64 (asI (T.cell (nth r292 0) 1)), T.sl (asL (T.cell (nth r292 0) 2)), T.b (asB (T.cell (nth r292 0) 3)), T.i .i64 (asI (T.cell (nth r292 0) 4))], T.sl (asL (nth r293 0))]
def f30 (c : Orc) (lf : Nat) (l0 : List T) : Option (List T) := f30_t c lf l0
theorem f30_raw (c : Orc) (lf : Nat) (l0 : List T) : funK c env lf 6 fi30 [.sl l0] = f30_t c lf l0 := by kernel_rfl
theorem f30_eq (c : Orc) (lf : Nat) (l0 : List T) : funK c env lf 6 fi30 [.sl l0] = f30 c lf l0 := by
 refine (f30_raw c lf l0).trans ?_
 rfl
def f245_t (c : Orc) (lf : Nat) (l0_0 : List T) (n1 : Int) : Option (List T) :=
 bif iLe 0 n1 then
  bif iLt n1 (l0_0.length : Int) then
   bif inR n1 l0_0.length then
   (c 229 [T.st [T.sl l0_0], T.i .i64 n1, T.b (iLe 100000 (asI (T.cell (l0_0.getD n1.toNat T.u) 1)))]).bind fun r294 =>
   some [T.i .i64 (asI (nth r294 0))]
   else none
  else
   (c 229 [T.st [T.sl l0_0], T.i .i64 n1, T.b false]).bind fun r295 =>
   some [T.i .i64 (asI (nth r295 0))]
 else
  (c 229 [T.st [T.sl l0_0], T.i .i64 n1, T.b false]).bind fun r296 =>
  some [T.i .i64 (asI (nth r296 0))]
def f245 (c : Orc) (lf : Nat) (l0_0 : List T) (n1 : Int) : Option (List T) := f245_t c lf l0_0 n1
theorem f245_raw (c : Orc) (lf : Nat) (l0_0 : List T) (n1 : Int) : funK c env lf 6 fi245 [.st [.sl l0_0], .i .i64 n1] = f245_t c lf l0_0 n1 := by kernel_rfl
theorem f245_eq (c : Orc) (lf : Nat) (l0_0 : List T) (n1 : Int) : funK c env lf 6 fi245 [.st [.sl l0_0], .i .i64 n1] = f245 c lf l0_0 n1 := by
 refine (f245_raw c lf l0_0 n1).trans ?_
 rfl
def f246_t (c : Orc) (lf : Nat) (l0_0 : List T) (n1 : Int) : Option (List T) :=
 (c 194 [T.st [T.sl l0_0]]).bind fun r297 =>
 (c 245 [T.st [T.sl l0_0], T.i .i64 n1]).bind fun r298 =>
 bif (asI (nth r298 0)) == 0 then
  bif inR n1 ((asL (T.cell (nth r297 0) 0)).length) then
  bif inR n1 l0_0.length then
  bif inR n1 (((asL (T.cell (nth r297 0) 0)).set n1.toNat (T.setc ((asL (T.cell (nth r297 0) 0)).getD n1.toNat T.u) 0 (T.sl ([T.st [T.b false, T.sl []], T.st [T.b false, T.sl []], T.st [T.b false, T.sl []], T.st [T.b false, T.sl []], T.st [T.b false, T.sl []], T.st [T.b false, T.sl []], T.st [T.b false, T.sl []], T.st [T.b false, T.sl []]] : List T)))).length) then
  some [T.st [T.sl (((asL (T.cell (nth r297 0) 0)).set n1.toNat (T.setc ((asL (T.cell (nth r297 0) 0)).getD n1.toNat T.u) 0 (T.sl ([T.st [T.b false, T.sl []], T.st [T.b false, T.sl []], T.st [T.b false, T.sl []], T.st [T.b false, T.sl []], T.st [T.b false, T.sl []], T.st [T.b false, T.sl []], T.st [T.b false, T.sl []], T.st [T.b false, T.sl []]] : List T)))).set n1.toNat (T.setc (((asL (T.cell (nth r297 0) 0)).set n1.toNat (T.setc ((asL (T.cell (nth r297 0) 0)).getD n1.toNat T.u) 0 (T.sl ([T.st [T.b false, T.sl []], T.st [T.b false, T.sl []], T.st [T.b false, T.sl []], T.st [T.b false, T.sl []], T.st [T.b false, T.sl []], T.st [T.b false, T.sl []], T.st [T.b false, T.sl []], T.st [T.b false, T.sl []]] : List T)))).getD n1.toNat T.u) 1 (T.i .i64 (IntKind.wrap .i64 ((asI (T.cell (l0_0.getD n1.toNat T.u) 1)) + 1)))))], T.i .i64 (asI (nth r298 0))]
  else none
  else none
  else none
 else
  some [T.st [T.sl (asL (T.cell (nth r297 0) 0))], T.i .i64 (asI (nth r298 0))]
def f246 (c : Orc) (lf : Nat) (l0_0 : List T) (n1 : Int) : Option (List T) := f246_t c lf l0_0 n1
theorem f246_raw (c : Orc) (lf : Nat) (l0_0 : List T) (n1 : Int) : funK c env lf 6 fi246 [.st [.sl l0_0], .i .i64 n1] = f246_t c lf l0_0 n1 := by kernel_rfl
theorem f246_eq (c : Orc) (lf : Nat) (l0_0 : List T) (n1 : Int) : funK c env lf 6 fi246 [.st [.sl l0_0], .i .i64 n1] = f246 c lf l0_0 n1 := by
 refine (f246_raw c lf l0_0 n1).trans ?_
 rfl
def f225_0_s (c : Orc) (lf : Nat) (n1 : Int) (n0_1 : Int) (r311 : List T) (r314 : List T) (L : Int → List T → Option (List T)) (x316 : Int) (x317 : List T) : Option (List T) :=
 bif iLt x316 8 then
  bif iLt x316 (asI (T.cell (nth r314 0) 2)) then
   bif inR n1 x317.length then
   bif inR x316 ((asL (T.cell (x317.getD n1.toNat T.u) 0)).length) then
   L (IntKind.wrap .i64 (x316 + 1)) (x317.set n1.toNat (T.setc (x317.getD n1.toNat T.u) 0 (T.sl ((asL (T.cell (x317.getD n1.toNat T.u) 0)).set x316.toNat (T.st [T.b true, T.sl ([] : List T)])))))
   else none
   else none
  else
   some [T.i .i64 0, T.i .i64 0, T.b false, T.sl ([] : List T), T.sl ([] : List T), T.i .i64 (IntKind.wrap .i64 (n0_1 + 1)), T.b (asB (T.cell (nth r311 0) 3)), T.sl x317, T.sl (asL (T.cell (nth r311 0) 2))]
 else
  some [T.i .i64 0, T.i .i64 0, T.b false, T.sl ([] : List T), T.sl ([] : List T), T.i .i64 (IntKind.wrap .i64 (n0_1 + 1)), T.b (asB (T.cell (nth r311 0) 3)), T.sl x317, T.sl (asL (T.cell (nth r311 0) 2))]
def f225_0_c (n1 : Int) (n0_1 : Int) (r311 : List T) (r314 : List T) (x316 : Int) (x317 : List T) : CSt := ⟨[.i .i64 n1, .bp 5 0, .bp 8 0, .bp 11 0, .i .i64 x316], [.dead, .dead, .dead, .dead, .dead, .box [.rf 6 [] 0 none, .i .i64 0, .rf 7 [] 0 none, .b false], .row true [.sl true [.b, .sl false [.i .u8]], .i .i64, .b] ([] : List T) 0 false, .row true [.i .i64, .i .i64, .i .i64] ([] : List T) 0 false, .box [.rf 9 [] 0 none, .i .i64 (IntKind.wrap .i64 (n0_1 + 1)), .rf 10 [] 0 none, .b (asB (T.cell (nth r311 0) 3))], .row true [.sl true [.b, .sl false [.i .u8]], .i .i64, .b] x317 0 false, .row true [.i .i64, .i .i64, .i .i64] (asL (T.cell (nth r311 0) 2)) 0 false, .box [.i .i64 (asI (T.cell (nth r314 0) 0)), .i .i64 (asI (T.cell (nth r314 0) 1)), .i .i64 (asI (T.cell (nth r314 0) 2))]]⟩
theorem f225_0_round (c : Orc) (lf : Nat) (n1 : Int) (n0_1 : Int) (r311 : List T) (r314 : List T) (L : CSt → Option (List T)) (x316 : Int) (x317 : List T) :
  roundK c env lf 6 fi225 5 14 [] [1, 4, 6, 8, 10] (x225_14_0) L (f225_0_c n1 n0_1 r311 r314 x316 x317) = f225_0_s c lf n1 n0_1 r311 r314 (fun x316 x317 => L (f225_0_c n1 n0_1 r311 r314 x316 x317)) x316 x317 := by kernel_rfl
def f225_0 (c : Orc) (lf : Nat) (n1 : Int) (n0_1 : Int) (r311 : List T) (r314 : List T) : Nat → Int → List T → Option (List T)
 | 0 => fun _ _ => none
 | n + 1 => fun x316 x317 => f225_0_s c lf n1 n0_1 r311 r314 (f225_0 c lf n1 n0_1 r311 r314 n) x316 x317
theorem f225_0_u (c : Orc) (lf : Nat) (n1 : Int) (n0_1 : Int) (r311 : List T) (r314 : List T) (n : Nat) (x316 : Int) (x317 : List T) : f225_0 c lf n1 n0_1 r311 r314 (n + 1) x316 x317 = f225_0_s c lf n1 n0_1 r311 r314 (f225_0 c lf n1 n0_1 r311 r314 n) x316 x317 := rfl
theorem f225_0_eq (c : Orc) (lf : Nat) (n1 : Int) (n0_1 : Int) (r311 : List T) (r314 : List T) (n : Nat) (x316 : Int) (x317 : List T) :
  lpK c env lf 6 fi225 5 14 [] [1, 4, 6, 8, 10] (x225_14_0) n (f225_0_c n1 n0_1 r311 r314 x316 x317) = f225_0 c lf n1 n0_1 r311 r314 n x316 x317 := by
 induction n generalizing x316 x317 with
 | zero => rfl
 | succ n ih =>
  refine (f225_0_round c lf n1 n0_1 r311 r314 _ x316 x317).trans ?_
  have e : (fun x316 x317 => lpK c env lf 6 fi225 5 14 [] [1, 4, 6, 8, 10] (x225_14_0) n (f225_0_c n1 n0_1 r311 r314 x316 x317)) = f225_0 c lf n1 n0_1 r311 r314 n := by funext x316 x317; exact ih x316 x317
  show f225_0_s c lf n1 n0_1 r311 r314 (fun x316 x317 => lpK c env lf 6 fi225 5 14 [] [1, 4, 6, 8, 10] (x225_14_0) n (f225_0_c n1 n0_1 r311 r314 x316 x317)) x316 x317 = _
  rw [e]; rfl
def f225_1_s (c : Orc) (lf : Nat) (n1 : Int) (n0_1 : Int) (r311 : List T) (r314 : List T) (L : Int → List T → Option (List T)) (x320 : Int) (x321 : List T) : Option (List T) :=
 bif iLt x320 8 then
  bif iLt x320 (asI (T.cell (nth r314 0) 2)) then
   bif inR n1 x321.length then
   bif inR x320 ((asL (T.cell (x321.getD n1.toNat T.u) 0)).length) then
   L (IntKind.wrap .i64 (x320 + 1)) (x321.set n1.toNat (T.setc (x321.getD n1.toNat T.u) 0 (T.sl ((asL (T.cell (x321.getD n1.toNat T.u) 0)).set x320.toNat (T.st [T.b true, T.sl ([] : List T)])))))
   else none
   else none
  else
   some [T.i .i64 0, T.i .i64 0, T.b false, T.sl ([] : List T), T.sl ([] : List T), T.i .i64 (IntKind.wrap .i64 (n0_1 + 1)), T.b (asB (T.cell (nth r311 0) 3)), T.sl x321, T.sl (asL (T.cell (nth r311 0) 2))]
 else
  some [T.i .i64 0, T.i .i64 0, T.b false, T.sl ([] : List T), T.sl ([] : List T), T.i .i64 (IntKind.wrap .i64 (n0_1 + 1)), T.b (asB (T.cell (nth r311 0) 3)), T.sl x321, T.sl (asL (T.cell (nth r311 0) 2))]
def f225_1_c (n1 : Int) (n0_1 : Int) (r311 : List T) (r314 : List T) (x320 : Int) (x321 : List T) : CSt := ⟨[.i .i64 n1, .bp 5 0, .bp 8 0, .bp 11 0, .i .i64 x320], [.dead, .dead, .dead, .dead, .dead, .box [.rf 6 [] 0 none, .i .i64 0, .rf 7 [] 0 none, .b false], .row true [.sl true [.b, .sl false [.i .u8]], .i .i64, .b] ([] : List T) 0 false, .row true [.i .i64, .i .i64, .i .i64] ([] : List T) 0 false, .box [.rf 9 [] 0 none, .i .i64 (IntKind.wrap .i64 (n0_1 + 1)), .rf 10 [] 0 none, .b (asB (T.cell (nth r311 0) 3))], .row true [.sl true [.b, .sl false [.i .u8]], .i .i64, .b] x321 0 false, .row true [.i .i64, .i .i64, .i .i64] (asL (T.cell (nth r311 0) 2)) 0 false, .box [.i .i64 (asI (T.cell (nth r314 0) 0)), .i .i64 (asI (T.cell (nth r314 0) 1)), .i .i64 (asI (T.cell (nth r314 0) 2))]]⟩
theorem f225_1_round (c : Orc) (lf : Nat) (n1 : Int) (n0_1 : Int) (r311 : List T) (r314 : List T) (L : CSt → Option (List T)) (x320 : Int) (x321 : List T) :
  roundK c env lf 6 fi225 5 14 [] [1, 4, 6, 8, 10] (x225_14_0) L (f225_1_c n1 n0_1 r311 r314 x320 x321) = f225_1_s c lf n1 n0_1 r311 r314 (fun x320 x321 => L (f225_1_c n1 n0_1 r311 r314 x320 x321)) x320 x321 := by kernel_rfl
def f225_1 (c : Orc) (lf : Nat) (n1 : Int) (n0_1 : Int) (r311 : List T) (r314 : List T) : Nat → Int → List T → Option (List T)
 | 0 => fun _ _ => none
 | n + 1 => fun x320 x321 => f225_1_s c lf n1 n0_1 r311 r314 (f225_1 c lf n1 n0_1 r311 r314 n) x320 x321
theorem f225_1_eq (c : Orc) (lf : Nat) (n1 : Int) (n0_1 : Int) (r311 : List T) (r314 : List T) (n : Nat) (x320 : Int) (x321 : List T) :
  lpK c env lf 6 fi225 5 14 [] [1, 4, 6, 8, 10] (x225_14_0) n (f225_1_c n1 n0_1 r311 r314 x320 x321) = f225_1 c lf n1 n0_1 r311 r314 n x320 x321 := by
 induction n generalizing x320 x321 with
 | zero => rfl
 | succ n ih =>
  refine (f225_1_round c lf n1 n0_1 r311 r314 _ x320 x321).trans ?_
  have e : (fun x320 x321 => lpK c env lf 6 fi225 5 14 [] [1, 4, 6, 8, 10] (x225_14_0) n (f225_1_c n1 n0_1 r311 r314 x320 x321)) = f225_1 c lf n1 n0_1 r311 r314 n := by funext x320 x321; exact ih x320 x321
  show f225_1_s c lf n1 n0_1 r311 r314 (fun x320 x321 => lpK c env lf 6 fi225 5 14 [] [1, 4, 6, 8, 10] (x225_14_0) n (f225_1_c n1 n0_1 r311 r314 x320 x321)) x320 x321 = _
  rw [e]; rfl
def f225_t (c : Orc) (lf : Nat) (lp0 : Int → Int → List T → List T → Int → List T → Option (List T)) (lp1 : Int → Int → List T → List T → Int → List T → Option (List T)) (l0_0 : List T) (n0_1 : Int) (l0_2 : List T) (b0_3 : Bool) (n1 : Int) : Option (List T) :=
 (c 152 [T.st [T.sl l0_0, T.i .i64 n0_1, T.sl l0_2, T.b b0_3]]).bind fun r311 =>
 (c 245 [T.st [T.sl l0_0], T.i .i64 n1]).bind fun r312 =>
 (c 199 [T.st [T.sl l0_0, T.i .i64 n0_1, T.sl l0_2, T.b b0_3], T.i .i64 (asI (nth r312 0))]).bind fun r313 =>
 bif (asI (nth r313 0)) != 0 then
  some [T.st [T.sl (asL (T.cell (nth r311 0) 0)), T.i .i64 (asI (T.cell (nth r311 0) 1)), T.sl (asL (T.cell (nth r311 0) 2)), T.b (asB (T.cell (nth r311 0) 3))], T.i .i64 (asI (nth r313 0))]
 else
  (c 201 [T.st [T.sl l0_0, T.i .i64 n0_1, T.sl l0_2, T.b b0_3]]).bind fun r314 =>
  bif asB (nth r314 1) then
   bif (asI (T.cell (nth r314 0) 1)) == 1 then
    bif inR n1 ((asL (T.cell (nth r311 0) 0)).length) then
    some [T.st [T.sl ((asL (T.cell (nth r311 0) 0)).set n1.toNat (T.setc ((asL (T.cell (nth r311 0) 0)).getD n1.toNat T.u) 2 (T.b true))), T.i .i64 (IntKind.wrap .i64 (n0_1 + 1)), T.sl (asL (T.cell (nth r311 0) 2)), T.b (asB (T.cell (nth r311 0) 3))], T.i .i64 2]
    else none
   else
    (c 246 [T.st [T.sl l0_0], T.i .i64 n1]).bind fun r315 =>
    bif !(asB (nth r314 1)) then
     some [T.st [T.sl (asL (T.cell (nth r315 0) 0)), T.i .i64 (IntKind.wrap .i64 (n0_1 + 1)), T.sl (asL (T.cell (nth r311 0) 2)), T.b (asB (T.cell (nth r311 0) 3))], T.i .i64 0]
    else
     (lp0 n1 n0_1 r311 r314 0 (asL (T.cell (nth r315 0) 0))).bind fun r318 =>
     some [T.st [T.sl (asL (nth r318 7)), T.i .i64 (asI (nth r318 5)), T.sl (asL (nth r318 8)), T.b true], T.i .i64 10]
  else
   (c 246 [T.st [T.sl l0_0], T.i .i64 n1]).bind fun r319 =>
   bif !(asB (nth r314 1)) then
    some [T.st [T.sl (asL (T.cell (nth r319 0) 0)), T.i .i64 (IntKind.wrap .i64 (n0_1 + 1)), T.sl (asL (T.cell (nth r311 0) 2)), T.b (asB (T.cell (nth r311 0) 3))], T.i .i64 0]
   else
    (lp1 n1 n0_1 r311 r314 0 (asL (T.cell (nth r319 0) 0))).bind fun r322 =>
    some [T.st [T.sl (asL (nth r322 7)), T.i .i64 (asI (nth r322 5)), T.sl (asL (nth r322 8)), T.b true], T.i .i64 10]
def f225 (c : Orc) (lf : Nat) (l0_0 : List T) (n0_1 : Int) (l0_2 : List T) (b0_3 : Bool) (n1 : Int) : Option (List T) := f225_t c lf (fun (n1 : Int) (n0_1 : Int) (r311 : List T) (r314 : List T) (x316 : Int) (x317 : List T) => f225_0 c lf n1 n0_1 r311 r314 lf x316 x317) (fun (n1 : Int) (n0_1 : Int) (r311 : List T) (r314 : List T) (x320 : Int) (x321 : List T) => f225_1 c lf n1 n0_1 r311 r314 lf x320 x321) l0_0 n0_1 l0_2 b0_3 n1
theorem f225_raw (c : Orc) (lf : Nat) (l0_0 : List T) (n0_1 : Int) (l0_2 : List T) (b0_3 : Bool) (n1 : Int) : funK c env lf 6 fi225 [.st [.sl l0_0, .i .i64 n0_1, .sl l0_2, .b b0_3], .i .i64 n1] = f225_t c lf (fun (n1 : Int) (n0_1 : Int) (r311 : List T) (r314 : List T) (x316 : Int) (x317 : List T) => lpK c env lf 6 fi225 5 14 [] [1, 4, 6, 8, 10] (x225_14_0) lf (f225_0_c n1 n0_1 r311 r314 x316 x317)) (fun (n1 : Int) (n0_1 : Int) (r311 : List T) (r314 : List T) (x320 : Int) (x321 : List T) => lpK c env lf 6 fi225 5 14 [] [1, 4, 6, 8, 10] (x225_14_0) lf (f225_1_c n1 n0_1 r311 r314 x320 x321)) l0_0 n0_1 l0_2 b0_3 n1 := by kernel_rfl
theorem f225_eq (c : Orc) (lf : Nat) (l0_0 : List T) (n0_1 : Int) (l0_2 : List T) (b0_3 : Bool) (n1 : Int) : funK c env lf 6 fi225 [.st [.sl l0_0, .i .i64 n0_1, .sl l0_2, .b b0_3], .i .i64 n1] = f225 c lf l0_0 n0_1 l0_2 b0_3 n1 := by
 refine (f225_raw c lf l0_0 n0_1 l0_2 b0_3 n1).trans ?_
 have e0 : (fun (n1 : Int) (n0_1 : Int) (r311 : List T) (r314 : List T) (x316 : Int) (x317 : List T) => lpK c env lf 6 fi225 5 14 [] [1, 4, 6, 8, 10] (x225_14_0) lf (f225_0_c n1 n0_1 r311 r314 x316 x317)) = (fun (n1 : Int) (n0_1 : Int) (r311 : List T) (r314 : List T) (x316 : Int) (x317 : List T) => f225_0 c lf n1 n0_1 r311 r314 lf x316 x317) := by funext n1 n0_1 r311 r314 x316 x317; exact f225_0_eq c lf n1 n0_1 r311 r314 lf x316 x317
 have e1 : (fun (n1 : Int) (n0_1 : Int) (r311 : List T) (r314 : List T) (x320 : Int) (x321 : List T) => lpK c env lf 6 fi225 5 14 [] [1, 4, 6, 8, 10] (x225_14_0) lf (f225_1_c n1 n0_1 r311 r314 x320 x321)) = (fun (n1 : Int) (n0_1 : Int) (r311 : List T) (r314 : List T) (x320 : Int) (x321 : List T) => f225_1 c lf n1 n0_1 r311 r314 lf x320 x321) := by funext n1 n0_1 r311 r314 x320 x321; exact f225_1_eq c lf n1 n0_1 r311 r314 lf x320 x321
 rw [e0, e1]; rfl
def f190_0_s (c : Orc) (lf : Nat) (l0_0 : List T) (L : Int → Int → Int → Int → Bool → List T → List T → Option (List T)) (x354 : Int) (x355 : Int) (x356 : Int) (x357 : Int) (x358 : Bool) (x359 : List T) (x360 : List T) : Option (List T) :=
 bif iLt 0 x354 then
  (c 97 [T.st [T.sl l0_0, T.i .i64 x355, T.i .i64 x356], T.i .i64 (x359.length : Int)]).bind fun r361 =>
  (c 97 [T.st [T.sl l0_0, T.i .i64 (asI (T.cell (nth r361 1) 1)), T.i .i64 (asI (T.cell (nth r361 1) 2))], T.i .i64 8]).bind fun r362 =>
  bif (asI (nth r362 0)) == 0 then
   (c 225 [T.st [T.sl x359, T.i .i64 x357, T.sl x360, T.b x358], T.i .i64 (asI (nth r361 0))]).bind fun r363 =>
   L (IntKind.wrap .i64 (x354 - 1)) (asI (T.cell (nth r362 1) 1)) (asI (T.cell (nth r362 1) 2)) (asI (T.cell (nth r363 0) 1)) (asB (T.cell (nth r363 0) 3)) (asL (T.cell (nth r363 0) 0)) (asL (T.cell (nth r363 0) 2))
  else
   bif (asI (nth r362 0)) == 1 then
    L (IntKind.wrap .i64 (x354 - 1)) (asI (T.cell (nth r362 1) 1)) (asI (T.cell (nth r362 1) 2)) x357 false x359 x360
   else
    (c 86 [T.st [T.sl l0_0, T.i .i64 (asI (T.cell (nth r362 1) 1)), T.i .i64 (asI (T.cell (nth r362 1) 2))]]).bind fun r364 =>
    (c 156 [T.st [T.sl x359, T.i .i64 x357, T.sl x360, T.b x358], T.i .i64 (asI (nth r361 0)), T.sl (asL (nth r364 0))]).bind fun r365 =>
    L (IntKind.wrap .i64 (x354 - 1)) (asI (T.cell (nth r364 1) 1)) (asI (T.cell (nth r364 1) 2)) (asI (T.cell (nth r365 0) 1)) (asB (T.cell (nth r365 0) 3)) (asL (T.cell (nth r365 0) 0)) (asL (T.cell (nth r365 0) 2))
 else
  some [T.i .i64 0, T.sl l0_0, T.i .i64 x355, T.i .i64 x356, T.i .i64 0, T.b false, T.sl ([] : List T), T.sl ([] : List T), T.i .i64 x357, T.b x358, T.sl x359, T.sl x360]
def f190_0_c (l0_0 : List T) (x354 : Int) (x355 : Int) (x356 : Int) (x357 : Int) (x358 : Bool) (x359 : List T) (x360 : List T) : CSt := ⟨[.bp 0 0, .bp 4 0, .bp 7 0, .i .i64 x354], [.box [.ro 1 false [.i .u8] l0_0, .i .i64 x355, .i .i64 x356], .dead, .dead, .dead, .box [.rf 5 [] 0 none, .i .i64 0, .rf 6 [] 0 none, .b false], .row true [.sl true [.b, .sl false [.i .u8]], .i .i64, .b] ([] : List T) 0 false, .row true [.i .i64, .i .i64, .i .i64] ([] : List T) 0 false, .box [.rf 8 [] 0 none, .i .i64 x357, .rf 9 [] 0 none, .b x358], .row true [.sl true [.b, .sl false [.i .u8]], .i .i64, .b] x359 0 false, .row true [.i .i64, .i .i64, .i .i64] x360 0 false]⟩
theorem f190_0_round (c : Orc) (lf : Nat) (l0_0 : List T) (L : CSt → Option (List T)) (x354 : Int) (x355 : Int) (x356 : Int) (x357 : Int) (x358 : Bool) (x359 : List T) (x360 : List T) :
  roundK c env lf 6 fi190 4 3 [] [0, 2, 3, 4] (x190_3_0) L (f190_0_c l0_0 x354 x355 x356 x357 x358 x359 x360) = f190_0_s c lf l0_0 (fun x354 x355 x356 x357 x358 x359 x360 => L (f190_0_c l0_0 x354 x355 x356 x357 x358 x359 x360)) x354 x355 x356 x357 x358 x359 x360 := by kernel_rfl
def f190_0 (c : Orc) (lf : Nat) (l0_0 : List T) : Nat → Int → Int → Int → Int → Bool → List T → List T → Option (List T)
 | 0 => fun _ _ _ _ _ _ _ => none
 | n + 1 => fun x354 x355 x356 x357 x358 x359 x360 => f190_0_s c lf l0_0 (f190_0 c lf l0_0 n) x354 x355 x356 x357 x358 x359 x360
theorem f190_0_u (c : Orc) (lf : Nat) (l0_0 : List T) (n : Nat) (x354 : Int) (x355 : Int) (x356 : Int) (x357 : Int) (x358 : Bool) (x359 : List T) (x360 : List T) : f190_0 c lf l0_0 (n + 1) x354 x355 x356 x357 x358 x359 x360 = f190_0_s c lf l0_0 (f190_0 c lf l0_0 n) x354 x355 x356 x357 x358 x359 x360 := rfl
theorem f190_0_eq (c : Orc) (lf : Nat) (l0_0 : List T) (n : Nat) (x354 : Int) (x355 : Int) (x356 : Int) (x357 : Int) (x358 : Bool) (x359 : List T) (x360 : List T) :
  lpK c env lf 6 fi190 4 3 [] [0, 2, 3, 4] (x190_3_0) n (f190_0_c l0_0 x354 x355 x356 x357 x358 x359 x360) = f190_0 c lf l0_0 n x354 x355 x356 x357 x358 x359 x360 := by
 induction n generalizing x354 x355 x356 x357 x358 x359 x360 with
 | zero => rfl
 | succ n ih =>
  refine (f190_0_round c lf l0_0 _ x354 x355 x356 x357 x358 x359 x360).trans ?_
  have e : (fun x354 x355 x356 x357 x358 x359 x360 => lpK c env lf 6 fi190 4 3 [] [0, 2, 3, 4] (x190_3_0) n (f190_0_c l0_0 x354 x355 x356 x357 x358 x359 x360)) = f190_0 c lf l0_0 n := by funext x354 x355 x356 x357 x358 x359 x360; exact ih x354 x355 x356 x357 x358 x359 x360
  show f190_0_s c lf l0_0 (fun x354 x355 x356 x357 x358 x359 x360 => lpK c env lf 6 fi190 4 3 [] [0, 2, 3, 4] (x190_3_0) n (f190_0_c l0_0 x354 x355 x356 x357 x358 x359 x360)) x354 x355 x356 x357 x358 x359 x360 = _
  rw [e]; rfl
def f190_t (c : Orc) (lf : Nat) (lp0 : List T → Int → Int → Int → Int → Bool → List T → List T → Option (List T)) (l0_0 : List T) (n0_1 : Int) (n0_2 : Int) : Option (List T) :=
 (c 97 [T.st [T.sl l0_0, T.i .i64 n0_1, T.i .i64 n0_2], T.i .i64 3]).bind fun r345 =>
 (c 139 [T.st [T.sl l0_0, T.i .i64 (asI (T.cell (nth r345 1) 1)), T.i .i64 (asI (T.cell (nth r345 1) 2))]]).bind fun r346 =>
 (c 138 [T.i .i64 (IntKind.wrap .i64 (3 + (asI (nth r345 0)))), T.sl (asL (nth r346 0))]).bind fun r347 =>
 (c 97 [T.st [T.sl l0_0, T.i .i64 (asI (T.cell (nth r346 1) 1)), T.i .i64 (asI (T.cell (nth r346 1) 2))], T.i .i64 16]).bind fun r348 =>
 (lp0 l0_0 (asI (nth r348 0)) (asI (T.cell (nth r348 1) 1)) (asI (T.cell (nth r348 1) 2)) (asI (T.cell (nth r347 0) 1)) (asB (T.cell (nth r347 0) 3)) (asL (T.cell (nth r347 0) 0)) (asL (T.cell (nth r347 0) 2))).bind fun r366 =>
 some [T.st [T.sl (asL (nth r366 10)), T.i .i64 (asI (nth r366 8)), T.sl (asL (nth r366 11)), T.b (asB (nth r366 9))], T.st [T.sl (asL (nth r366 1)), T.i .i64 (asI (nth r366 2)), T.i .i64 (asI (nth r366 3))]]
def f190 (c : Orc) (lf : Nat) (l0_0 : List T) (n0_1 : Int) (n0_2 : Int) : Option (List T) := f190_t c lf (fun (l0_0 : List T) (x354 : Int) (x355 : Int) (x356 : Int) (x357 : Int) (x358 : Bool) (x359 : List T) (x360 : List T) => f190_0 c lf l0_0 lf x354 x355 x356 x357 x358 x359 x360) l0_0 n0_1 n0_2
theorem f190_raw (c : Orc) (lf : Nat) (l0_0 : List T) (n0_1 : Int) (n0_2 : Int) : funK c env lf 6 fi190 [.st [.sl l0_0, .i .i64 n0_1, .i .i64 n0_2]] = f190_t c lf (fun (l0_0 : List T) (x354 : Int) (x355 : Int) (x356 : Int) (x357 : Int) (x358 : Bool) (x359 : List T) (x360 : List T) => lpK c env lf 6 fi190 4 3 [] [0, 2, 3, 4] (x190_3_0) lf (f190_0_c l0_0 x354 x355 x356 x357 x358 x359 x360)) l0_0 n0_1 n0_2 := by kernel_rfl
theorem f190_eq (c : Orc) (lf : Nat) (l0_0 : List T) (n0_1 : Int) (n0_2 : Int) : funK c env lf 6 fi190 [.st [.sl l0_0, .i .i64 n0_1, .i .i64 n0_2]] = f190 c lf l0_0 n0_1 n0_2 := by
 refine (f190_raw c lf l0_0 n0_1 n0_2).trans ?_
 have e0 : (fun (l0_0 : List T) (x354 : Int) (x355 : Int) (x356 : Int) (x357 : Int) (x358 : Bool) (x359 : List T) (x360 : List T) => lpK c env lf 6 fi190 4 3 [] [0, 2, 3, 4] (x190_3_0) lf (f190_0_c l0_0 x354 x355 x356 x357 x358 x359 x360)) = (fun (l0_0 : List T) (x354 : Int) (x355 : Int) (x356 : Int) (x357 : Int) (x358 : Bool) (x359 : List T) (x360 : List T) => f190_0 c lf l0_0 lf x354 x355 x356 x357 x358 x359 x360) := by funext l0_0 x354 x355 x356 x357 x358 x359 x360; exact f190_0_eq c lf l0_0 lf x354 x355 x356 x357 x358 x359 x360
 rw [e0]; rfl
def f226_0_s (c : Orc) (lf : Nat) (l0_0 : List T) (L : Int → Int → Int → List T → Option (List T)) (x395 : Int) (x396 : Int) (x397 : Int) (x398 : List T) : Option (List T) :=
 bif iLt 0 x395 then
  (c 97 [T.st [T.sl l0_0, T.i .i64 x396, T.i .i64 x397], T.i .i64 (x398.length : Int)]).bind fun r399 =>
  (c 106 [T.st [T.sl l0_0, T.i .i64 (asI (T.cell (nth r399 1) 1)), T.i .i64 (asI (T.cell (nth r399 1) 2))], T.i .i64 6]).bind fun r400 =>
  bif asB (nth r400 0) then
   (c 246 [T.st [T.sl x398], T.i .i64 (asI (nth r399 0))]).bind fun r401 =>
   L (IntKind.wrap .i64 (x395 - 1)) (asI (T.cell (nth r400 1) 1)) (asI (T.cell (nth r400 1) 2)) (asL (T.cell (nth r401 0) 0))
  else
   (c 86 [T.st [T.sl l0_0, T.i .i64 (asI (T.cell (nth r400 1) 1)), T.i .i64 (asI (T.cell (nth r400 1) 2))]]).bind fun r402 =>
   (c 202 [T.st [T.sl x398], T.i .i64 (asI (nth r399 0)), T.sl (asL (nth r402 0))]).bind fun r403 =>
   L (IntKind.wrap .i64 (x395 - 1)) (asI (T.cell (nth r402 1) 1)) (asI (T.cell (nth r402 1) 2)) (asL (T.cell (nth r403 0) 0))
 else
  some [T.i .i64 0, T.sl l0_0, T.i .i64 x396, T.i .i64 x397, T.sl ([] : List T), T.sl x398]
def f226_0_c (l0_0 : List T) (x395 : Int) (x396 : Int) (x397 : Int) (x398 : List T) : CSt := ⟨[.bp 0 0, .bp 4 0, .bp 6 0, .i .i64 x395], [.box [.ro 1 false [.i .u8] l0_0, .i .i64 x396, .i .i64 x397], .dead, .dead, .dead, .box [.rf 5 [] 0 none], .row true [.sl true [.b, .sl false [.i .u8]], .i .i64, .b] ([] : List T) 0 false, .box [.rf 7 [] 0 none], .row true [.sl true [.b, .sl false [.i .u8]], .i .i64, .b] x398 0 false]⟩
theorem f226_0_round (c : Orc) (lf : Nat) (l0_0 : List T) (L : CSt → Option (List T)) (x395 : Int) (x396 : Int) (x397 : Int) (x398 : List T) :
  roundK c env lf 6 fi226 4 3 [] [0, 2, 3, 4] (x226_3_0) L (f226_0_c l0_0 x395 x396 x397 x398) = f226_0_s c lf l0_0 (fun x395 x396 x397 x398 => L (f226_0_c l0_0 x395 x396 x397 x398)) x395 x396 x397 x398 := by kernel_rfl
def f226_0 (c : Orc) (lf : Nat) (l0_0 : List T) : Nat → Int → Int → Int → List T → Option (List T)
 | 0 => fun _ _ _ _ => none
 | n + 1 => fun x395 x396 x397 x398 => f226_0_s c lf l0_0 (f226_0 c lf l0_0 n) x395 x396 x397 x398
theorem f226_0_u (c : Orc) (lf : Nat) (l0_0 : List T) (n : Nat) (x395 : Int) (x396 : Int) (x397 : Int) (x398 : List T) : f226_0 c lf l0_0 (n + 1) x395 x396 x397 x398 = f226_0_s c lf l0_0 (f226_0 c lf l0_0 n) x395 x396 x397 x398 := rfl
theorem f226_0_eq (c : Orc) (lf : Nat) (l0_0 : List T) (n : Nat) (x395 : Int) (x396 : Int) (x397 : Int) (x398 : List T) :
  lpK c env lf 6 fi226 4 3 [] [0, 2, 3, 4] (x226_3_0) n (f226_0_c l0_0 x395 x396 x397 x398) = f226_0 c lf l0_0 n x395 x396 x397 x398 := by
 induction n generalizing x395 x396 x397 x398 with
 | zero => rfl
 | succ n ih =>
  refine (f226_0_round c lf l0_0 _ x395 x396 x397 x398).trans ?_
  have e : (fun x395 x396 x397 x398 => lpK c env lf 6 fi226 4 3 [] [0, 2, 3, 4] (x226_3_0) n (f226_0_c l0_0 x395 x396 x397 x398)) = f226_0 c lf l0_0 n := by funext x395 x396 x397 x398; exact ih x395 x396 x397 x398
  show f226_0_s c lf l0_0 (fun x395 x396 x397 x398 => lpK c env lf 6 fi226 4 3 [] [0, 2, 3, 4] (x226_3_0) n (f226_0_c l0_0 x395 x396 x397 x398)) x395 x396 x397 x398 = _
  rw [e]; rfl
def f226_t (c : Orc) (lf : Nat) (lp0 : List T → Int → Int → Int → List T → Option (List T)) (l0_0 : List T) (n0_1 : Int) (n0_2 : Int) : Option (List T) :=
 (c 97 [T.st [T.sl l0_0, T.i .i64 n0_1, T.i .i64 n0_2], T.i .i64 3]).bind fun r387 =>
 (c 188 [T.i .i64 (IntKind.wrap .i64 (3 + (asI (nth r387 0))))]).bind fun r388 =>
 (c 97 [T.st [T.sl l0_0, T.i .i64 (asI (T.cell (nth r387 1) 1)), T.i .i64 (asI (T.cell (nth r387 1) 2))], T.i .i64 20]).bind fun r389 =>
 (lp0 l0_0 (asI (nth r389 0)) (asI (T.cell (nth r389 1) 1)) (asI (T.cell (nth r389 1) 2)) (asL (T.cell (nth r388 0) 0))).bind fun r404 =>
 (c 106 [T.st [T.sl (asL (nth r404 1)), T.i .i64 (asI (nth r404 2)), T.i .i64 (asI (nth r404 3))], T.i .i64 3]).bind fun r405 =>
 bif asB (nth r405 0) then
  (c 97 [T.st [T.sl (asL (nth r404 1)), T.i .i64 (asI (T.cell (nth r405 1) 1)), T.i .i64 (asI (T.cell (nth r405 1) 2))], T.i .i64 ((asL (nth r404 5)).length : Int)]).bind fun r406 =>
  bif inR (asI (nth r406 0)) ((asL (nth r404 5)).length) then
  some [T.st [T.sl ((asL (nth r404 5)).set ((asI (nth r406 0)).toNat) (T.setc ((asL (nth r404 5)).getD ((asI (nth r406 0)).toNat) T.u) 2 (T.b true)))], T.st [T.sl (asL (nth r404 1)), T.i .i64 (asI (T.cell (nth r406 1) 1)), T.i .i64 (asI (T.cell (nth r406 1) 2))]]
  else none
 else
  some [T.st [T.sl (asL (nth r404 5))], T.st [T.sl (asL (nth r404 1)), T.i .i64 (asI (T.cell (nth r405 1) 1)), T.i .i64 (asI (T.cell (nth r405 1) 2))]]
def f226 (c : Orc) (lf : Nat) (l0_0 : List T) (n0_1 : Int) (n0_2 : Int) : Option (List T) := f226_t c lf (fun (l0_0 : List T) (x395 : Int) (x396 : Int) (x397 : Int) (x398 : List T) => f226_0 c lf l0_0 lf x395 x396 x397 x398) l0_0 n0_1 n0_2
theorem f226_raw (c : Orc) (lf : Nat) (l0_0 : List T) (n0_1 : Int) (n0_2 : Int) : funK c env lf 6 fi226 [.st [.sl l0_0, .i .i64 n0_1, .i .i64 n0_2]] = f226_t c lf (fun (l0_0 : List T) (x395 : Int) (x396 : Int) (x397 : Int) (x398 : List T) => lpK c env lf 6 fi226 4 3 [] [0, 2, 3, 4] (x226_3_0) lf (f226_0_c l0_0 x395 x396 x397 x398)) l0_0 n0_1 n0_2 := by kernel_rfl
theorem f226_eq (c : Orc) (lf : Nat) (l0_0 : List T) (n0_1 : Int) (n0_2 : Int) : funK c env lf 6 fi226 [.st [.sl l0_0, .i .i64 n0_1, .i .i64 n0_2]] = f226 c lf l0_0 n0_1 n0_2 := by
 refine (f226_raw c lf l0_0 n0_1 n0_2).trans ?_
 have e0 : (fun (l0_0 : List T) (x395 : Int) (x396 : Int) (x397 : Int) (x398 : List T) => lpK c env lf 6 fi226 4 3 [] [0, 2, 3, 4] (x226_3_0) lf (f226_0_c l0_0 x395 x396 x397 x398)) = (fun (l0_0 : List T) (x395 : Int) (x396 : Int) (x397 : Int) (x398 : List T) => f226_0 c lf l0_0 lf x395 x396 x397 x398) := by funext l0_0 x395 x396 x397 x398; exact f226_0_eq c lf l0_0 lf x395 x396 x397 x398
 rw [e0]; rfl
def f191_t (c : Orc) (lf : Nat) (l0_0 : List T) (n0_1 : Int) (n0_2 : Int) : Option (List T) :=
 (c 226 [T.st [T.sl l0_0, T.i .i64 n0_1, T.i .i64 n0_2]]).bind fun r407 =>
 (c 97 [T.st [T.sl l0_0, T.i .i64 (asI (T.cell (nth r407 1) 1)), T.i .i64 (asI (T.cell (nth r407 1) 2))], T.i .i64 ((asL (T.cell (nth r407 0) 0)).length : Int)]).bind fun r408 =>
 (c 97 [T.st [T.sl l0_0, T.i .i64 (asI (T.cell (nth r408 1) 1)), T.i .i64 (asI (T.cell (nth r408 1) 2))], T.i .i64 16]).bind fun r409 =>
 bif (asI (nth r409 0)) == 0 then
  (c 96 [T.st [T.sl l0_0, T.i .i64 (asI (T.cell (nth r409 1) 1)), T.i .i64 (asI (T.cell (nth r409 1) 2))], T.sl ([T.i .i64 (-1), T.i .i64 100000, T.i .i64 100001] : List T)]).bind fun r410 =>
  bif inR (asI (nth r408 0)) ((asL (T.cell (nth r407 0) 0)).length) then
  some [T.st [T.sl ((asL (T.cell (nth r407 0) 0)).set ((asI (nth r408 0)).toNat) (T.setc ((asL (T.cell (nth r407 0) 0)).getD ((asI (nth r408 0)).toNat) T.u) 1 (T.i .i64 (asI (nth r410 0)))))], T.st [T.sl l0_0, T.i .i64 (asI (T.cell (nth r410 1) 1)), T.i .i64 (asI (T.cell (nth r410 1) 2))]]
  else none
 else
  bif (asI (nth r409 0)) == 1 then
   bif inR (asI (nth r408 0)) ((asL (T.cell (nth r407 0) 0)).length) then
   bif inR 7 ((asL (T.cell ((asL (T.cell (nth r407 0) 0)).getD ((asI (nth r408 0)).toNat) T.u) 0)).length) then
   some [T.st [T.sl ((asL (T.cell (nth r407 0) 0)).set ((asI (nth r408 0)).toNat) (T.setc ((asL (T.cell (nth r407 0) 0)).getD ((asI (nth r408 0)).toNat) T.u) 0 (T.sl ((asL (T.cell ((asL (T.cell (nth r407 0) 0)).getD ((asI (nth r408 0)).toNat) T.u) 0)).set 7 (T.setc ((asL (T.cell ((asL (T.cell (nth r407 0) 0)).getD ((asI (nth r408 0)).toNat) T.u) 0)).getD 7 T.u) 0 (T.b true))))))], T.st [T.sl l0_0, T.i .i64 (asI (T.cell (nth r409 1) 1)), T.i .i64 (asI (T.cell (nth r409 1) 2))]]
   else none
   else none
  else
   bif (asI (nth r409 0)) == 2 then
    bif inR (asI (nth r408 0)) ((asL (T.cell (nth r407 0) 0)).length) then
    bif inR 7 ((asL (T.cell ((asL (T.cell (nth r407 0) 0)).getD ((asI (nth r408 0)).toNat) T.u) 0)).length) then
    some [T.st [T.sl ((asL (T.cell (nth r407 0) 0)).set ((asI (nth r408 0)).toNat) (T.setc ((asL (T.cell (nth r407 0) 0)).getD ((asI (nth r408 0)).toNat) T.u) 0 (T.sl ((asL (T.cell ((asL (T.cell (nth r407 0) 0)).getD ((asI (nth r408 0)).toNat) T.u) 0)).set 7 (T.setc ((asL (T.cell ((asL (T.cell (nth r407 0) 0)).getD ((asI (nth r408 0)).toNat) T.u) 0)).getD 7 T.u) 1 (T.sl ([T.i .u8 1] : List T)))))))], T.st [T.sl l0_0, T.i .i64 (asI (T.cell (nth r409 1) 1)), T.i .i64 (asI (T.cell (nth r409 1) 2))]]
    else none
    else none
   else
    bif (asI (nth r409 0)) == 3 then
     bif inR (asI (nth r408 0)) ((asL (T.cell (nth r407 0) 0)).length) then
     bif iLe 0 1 && iLe 1 ((asL (T.cell ((asL (T.cell (nth r407 0) 0)).getD ((asI (nth r408 0)).toNat) T.u) 0)).length : Int) && iLe ((asL (T.cell ((asL (T.cell (nth r407 0) 0)).getD ((asI (nth r408 0)).toNat) T.u) 0)).length : Int) ((asL (T.cell ((asL (T.cell (nth r407 0) 0)).getD ((asI (nth r408 0)).toNat) T.u) 0)).length : Int) then
     bif inR (asI (nth r408 0)) ((asL (T.cell (nth r407 0) 0)).length) then
     bif (((okL true [.sl true [.b, .sl false [.i .u8]], .i .i64, .b] (((asL (T.cell (nth r407 0) 0)).set ((asI (nth r408 0)).toNat) (T.setc ((asL (T.cell (nth r407 0) 0)).getD ((asI (nth r408 0)).toNat) T.u) 0 T.u)).set ((asI (nth r408 0)).toNat) (T.setc (((asL (T.cell (nth r407 0) 0)).set ((asI (nth r408 0)).toNat) (T.setc ((asL (T.cell (nth r407 0) 0)).getD ((asI (nth r408 0)).toNat) T.u) 0 T.u)).getD ((asI (nth r408 0)).toNat) T.u) 0 (T.sl (((asL (T.cell ((asL (T.cell (nth r407 0) 0)).getD ((asI (nth r408 0)).toNat) T.u) 0)).drop 1).take ((((asL (T.cell ((asL (T.cell (nth r407 0) 0)).getD ((asI (nth r408 0)).toNat) T.u) 0)).length : Int).toNat) - 1)))))) && true) && true) && true then
     some [T.st [T.sl (((asL (T.cell (nth r407 0) 0)).set ((asI (nth r408 0)).toNat) (T.setc ((asL (T.cell (nth r407 0) 0)).getD ((asI (nth r408 0)).toNat) T.u) 0 T.u)).set ((asI (nth r408 0)).toNat) (T.setc (((asL (T.cell (nth r407 0) 0)).set ((asI (nth r408 0)).toNat) (T.setc ((asL (T.cell (nth r407 0) 0)).getD ((asI (nth r408 0)).toNat) T.u) 0 T.u)).getD ((asI (nth r408 0)).toNat) T.u) 0 (T.sl (((asL (T.cell ((asL (T.cell (nth r407 0) 0)).getD ((asI (nth r408 0)).toNat) T.u) 0)).drop 1).take ((((asL (T.cell ((asL (T.cell (nth r407 0) 0)).getD ((asI (nth r408 0)).toNat) T.u) 0)).length : Int).toNat) - 1)))))], T.st [T.sl l0_0, T.i .i64 (asI (T.cell (nth r409 1) 1)), T.i .i64 (asI (T.cell (nth r409 1) 2))]]
     else none
     else none
     else none
     else none
    else
     bif (asI (nth r409 0)) == 4 then
      bif iLe 0 0 && iLe 0 2 && iLe 2 ((asL (T.cell (nth r407 0) 0)).length : Int) then
      some [T.st [T.sl (((asL (T.cell (nth r407 0) 0)).drop 0).take (2 - 0))], T.st [T.sl l0_0, T.i .i64 (asI (T.cell (nth r409 1) 1)), T.i .i64 (asI (T.cell (nth r409 1) 2))]]
      else none
     else
      some [T.st [T.sl (asL (T.cell (nth r407 0) 0))], T.st [T.sl l0_0, T.i .i64 (asI (T.cell (nth r409 1) 1)), T.i .i64 (asI (T.cell (nth r409 1) 2))]]
def f191 (c : Orc) (lf : Nat) (l0_0 : List T) (n0_1 : Int) (n0_2 : Int) : Option (List T) := f191_t c lf l0_0 n0_1 n0_2
theorem f191_raw (c : Orc) (lf : Nat) (l0_0 : List T) (n0_1 : Int) (n0_2 : Int) : funK c env lf 6 fi191 [.st [.sl l0_0, .i .i64 n0_1, .i .i64 n0_2]] = f191_t c lf l0_0 n0_1 n0_2 := by kernel_rfl
theorem f191_eq (c : Orc) (lf : Nat) (l0_0 : List T) (n0_1 : Int) (n0_2 : Int) : funK c env lf 6 fi191 [.st [.sl l0_0, .i .i64 n0_1, .i .i64 n0_2]] = f191 c lf l0_0 n0_1 n0_2 := by
 refine (f191_raw c lf l0_0 n0_1 n0_2).trans ?_
 rfl
def f148_t (c : Orc) (lf : Nat) (l0_0 : List T) (n0_1 : Int) (n0_2 : Int) : Option (List T) :=
 (c 190 [T.st [T.sl l0_0, T.i .i64 n0_1, T.i .i64 n0_2]]).bind fun r411 =>
 (c 97 [T.st [T.sl l0_0, T.i .i64 (asI (T.cell (nth r411 1) 1)), T.i .i64 (asI (T.cell (nth r411 1) 2))], T.i .i64 16]).bind fun r412 =>
 bif (asI (nth r412 0)) == 0 then
  (c 96 [T.st [T.sl l0_0, T.i .i64 (asI (T.cell (nth r412 1) 1)), T.i .i64 (asI (T.cell (nth r412 1) 2))], T.sl ([T.i .i64 (-1), T.i .i64 100000, T.i .i64 100001] : List T)]).bind fun r413 =>
  some [T.st [T.sl (asL (T.cell (nth r411 0) 0)), T.i .i64 (asI (nth r413 0)), T.sl (asL (T.cell (nth r411 0) 2)), T.b (asB (T.cell (nth r411 0) 3))], T.st [T.sl l0_0, T.i .i64 (asI (T.cell (nth r413 1) 1)), T.i .i64 (asI (T.cell (nth r413 1) 2))]]
 else
  bif (asI (nth r412 0)) == 1 then
   (c 96 [T.st [T.sl l0_0, T.i .i64 (asI (T.cell (nth r412 1) 1)), T.i .i64 (asI (T.cell (nth r412 1) 2))], T.sl ([T.i .i64 0, T.i .i64 100000, T.i .i64 100001] : List T)]).bind fun r414 =>
   (c 97 [T.st [T.sl l0_0, T.i .i64 (asI (T.cell (nth r414 1) 1)), T.i .i64 (asI (T.cell (nth r414 1) 2))], T.i .i64 4]).bind fun r415 =>
   (c 96 [T.st [T.sl l0_0, T.i .i64 (asI (T.cell (nth r415 1) 1)), T.i .i64 (asI (T.cell (nth r415 1) 2))], T.sl ([T.i .i64 (-1), T.i .i64 0, T.i .i64 401] : List T)]).bind fun r416 =>
   bif nLe ((asL (T.cell (nth r411 0) 2)).length + ([T.st [T.i .i64 (asI (nth r414 0)), T.i .i64 (asI (nth r415 0)), T.i .i64 (asI (nth r416 0))]] : List T).length) LIM then
   some [T.st [T.sl (asL (T.cell (nth r411 0) 0)), T.i .i64 (asI (T.cell (nth r411 0) 1)), T.sl ((asL (T.cell (nth r411 0) 2)) ++ ([T.st [T.i .i64 (asI (nth r414 0)), T.i .i64 (asI (nth r415 0)), T.i .i64 (asI (nth r416 0))]] : List T)), T.b (asB (T.cell (nth r411 0) 3))], T.st [T.sl l0_0, T.i .i64 (asI (T.cell (nth r416 1) 1)), T.i .i64 (asI (T.cell (nth r416 1) 2))]]
   else none
  else
   bif (asI (nth r412 0)) == 2 then
    (c 191 [T.st [T.sl l0_0, T.i .i64 (asI (T.cell (nth r412 1) 1)), T.i .i64 (asI (T.cell (nth r412 1) 2))]]).bind fun r417 =>
    some [T.st [T.sl (asL (T.cell (nth r417 0) 0)), T.i .i64 (asI (T.cell (nth r411 0) 1)), T.sl (asL (T.cell (nth r411 0) 2)), T.b (asB (T.cell (nth r411 0) 3))], T.st [T.sl l0_0, T.i .i64 (asI (T.cell (nth r417 1) 1)), T.i .i64 (asI (T.cell (nth r417 1) 2))]]
   else
    some [T.st [T.sl (asL (T.cell (nth r411 0) 0)), T.i .i64 (asI (T.cell (nth r411 0) 1)), T.sl (asL (T.cell (nth r411 0) 2)), T.b (asB (T.cell (nth r411 0) 3))], T.st [T.sl l0_0, T.i .i64 (asI (T.cell (nth r412 1) 1)), T.i .i64 (asI (T.cell (nth r412 1) 2))]]
def f148 (c : Orc) (lf : Nat) (l0_0 : List T) (n0_1 : Int) (n0_2 : Int) : Option (List T) := f148_t c lf l0_0 n0_1 n0_2
theorem f148_raw (c : Orc) (lf : Nat) (l0_0 : List T) (n0_1 : Int) (n0_2 : Int) : funK c env lf 6 fi148 [.st [.sl l0_0, .i .i64 n0_1, .i .i64 n0_2]] = f148_t c lf l0_0 n0_1 n0_2 := by kernel_rfl
theorem f148_eq (c : Orc) (lf : Nat) (l0_0 : List T) (n0_1 : Int) (n0_2 : Int) : funK c env lf 6 fi148 [.st [.sl l0_0, .i .i64 n0_1, .i .i64 n0_2]] = f148 c lf l0_0 n0_1 n0_2 := by
 refine (f148_raw c lf l0_0 n0_1 n0_2).trans ?_
 rfl
def f95_t (c : Orc) (lf : Nat) (l0_0 : List T) (n0_1 : Int) (n0_2 : Int) : Option (List T) :=
 (c 85 [T.st [T.sl l0_0, T.i .i64 n0_1, T.i .i64 n0_2]]).bind fun r418 =>
 (c 97 [T.st [T.sl l0_0, T.i .i64 (asI (T.cell (nth r418 1) 1)), T.i .i64 (asI (T.cell (nth r418 1) 2))], T.i .i64 12]).bind fun r419 =>
 bif (asI (nth r419 0)) == 0 then
  (c 96 [T.st [T.sl l0_0, T.i .i64 (asI (T.cell (nth r419 1) 1)), T.i .i64 (asI (T.cell (nth r419 1) 2))], T.sl ([T.i .i64 (-1), T.i .i64 0, T.i .i64 1000000, T.i .i64 1000001] : List T)]).bind fun r420 =>
  some [T.st [T.sl (asL (T.cell (nth r418 0) 0)), T.i .i64 (asI (T.cell (nth r418 0) 1)), T.sl (asL (T.cell (nth r418 0) 2)), T.b (asB (T.cell (nth r418 0) 3)), T.i .i64 (asI (nth r420 0))], T.st [T.sl l0_0, T.i .i64 (asI (T.cell (nth r420 1) 1)), T.i .i64 (asI (T.cell (nth r420 1) 2))]]
 else
  bif (asI (nth r419 0)) == 1 then
   (c 148 [T.st [T.sl l0_0, T.i .i64 (asI (T.cell (nth r419 1) 1)), T.i .i64 (asI (T.cell (nth r419 1) 2))]]).bind fun r421 =>
   some [T.st [T.sl (asL (T.cell (nth r421 0) 0)), T.i .i64 (asI (T.cell (nth r421 0) 1)), T.sl (asL (T.cell (nth r421 0) 2)), T.b (asB (T.cell (nth r421 0) 3)), T.i .i64 (asI (T.cell (nth r418 0) 4))], T.st [T.sl l0_0, T.i .i64 (asI (T.cell (nth r421 1) 1)), T.i .i64 (asI (T.cell (nth r421 1) 2))]]
  else
   some [T.st [T.sl (asL (T.cell (nth r418 0) 0)), T.i .i64 (asI (T.cell (nth r418 0) 1)), T.sl (asL (T.cell (nth r418 0) 2)), T.b (asB (T.cell (nth r418 0) 3)), T.i .i64 (asI (T.cell (nth r418 0) 4))], T.st [T.sl l0_0, T.i .i64 (asI (T.cell (nth r419 1) 1)), T.i .i64 (asI (T.cell (nth r419 1) 2))]]
def f95 (c : Orc) (lf : Nat) (l0_0 : List T) (n0_1 : Int) (n0_2 : Int) : Option (List T) := f95_t c lf l0_0 n0_1 n0_2
theorem f95_raw (c : Orc) (lf : Nat) (l0_0 : List T) (n0_1 : Int) (n0_2 : Int) : funK c env lf 6 fi95 [.st [.sl l0_0, .i .i64 n0_1, .i .i64 n0_2]] = f95_t c lf l0_0 n0_1 n0_2 := by kernel_rfl
theorem f95_eq (c : Orc) (lf : Nat) (l0_0 : List T) (n0_1 : Int) (n0_2 : Int) : funK c env lf 6 fi95 [.st [.sl l0_0, .i .i64 n0_1, .i .i64 n0_2]] = f95 c lf l0_0 n0_1 n0_2 := by
 refine (f95_raw c lf l0_0 n0_1 n0_2).trans ?_
 rfl
def f39_t (c : Orc) (lf : Nat) (l0 : List T) : Option (List T) :=
 (c 84 [T.sl l0]).bind fun r422 =>
 (c 95 [T.st [T.sl (asL (T.cell (nth r422 0) 0)), T.i .i64 (asI (T.cell (nth r422 0) 1)), T.i .i64 (asI (T.cell (nth r422 0) 2))]]).bind fun r423 =>
 some [T.st [T.sl (asL (T.cell (nth r423 0) 0)), T.i .i64 (asI (T.cell (nth r423 0) 1)), T.sl (asL (T.cell (nth r423 0) 2)), T.b (asB (T.cell (nth r423 0) 3)), T.i .i64 (asI (T.cell (nth r423 0) 4))]]
def f39 (c : Orc) (lf : Nat) (l0 : List T) : Option (List T) := f39_t c lf l0
theorem f39_raw (c : Orc) (lf : Nat) (l0 : List T) : funK c env lf 6 fi39 [.sl l0] = f39_t c lf l0 := by kernel_rfl
theorem f39_eq (c : Orc) (lf : Nat) (l0 : List T) : funK c env lf 6 fi39 [.sl l0] = f39 c lf l0 := by
 refine (f39_raw c lf l0).trans ?_
 rfl
def f40_t (c : Orc) (lf : Nat) (l0 : List T) : Option (List T) :=
 (c 84 [T.sl l0]).bind fun r424 =>
 (c 95 [T.st [T.sl (asL (T.cell (nth r424 0) 0)), T.i .i64 (asI (T.cell (nth r424 0) 1)), T.i .i64 (asI (T.cell (nth r424 0) 2))]]).bind fun r425 =>
 (c 96 [T.st [T.sl (asL (T.cell (nth r424 0) 0)), T.i .i64 (asI (T.cell (nth r425 1) 1)), T.i .i64 (asI (T.cell (nth r425 1) 2))], T.sl ([T.i .i64 0, T.i .i64 1, T.i .i64 2, T.i .i64 8, T.i .i64 9, T.i .i64 16, T.i .i64 (-1), T.i .i64 200] : List T)]).bind fun r426 =>
 (c 97 [T.st [T.sl (asL (T.cell (nth r424 0) 0)), T.i .i64 (asI (T.cell (nth r426 1) 1)), T.i .i64 (asI (T.cell (nth r426 1) 2))], T.i .i64 4]).bind fun r427 =>
 some [T.st [T.sl (asL (T.cell (nth r425 0) 0)), T.i .i64 (asI (T.cell (nth r425 0) 1)), T.sl (asL (T.cell (nth r425 0) 2)), T.b (asB (T.cell (nth r425 0) 3)), T.i .i64 (asI (T.cell (nth r425 0) 4))], T.i .i64 (asI (nth r426 0)), T.i .i64 (IntKind.wrap .i64 (1 + (asI (nth r427 0))))]
def f40 (c : Orc) (lf : Nat) (l0 : List T) : Option (List T) := f40_t c lf l0
theorem f40_raw (c : Orc) (lf : Nat) (l0 : List T) : funK c env lf 6 fi40 [.sl l0] = f40_t c lf l0 := by kernel_rfl
theorem f40_eq (c : Orc) (lf : Nat) (l0 : List T) : funK c env lf 6 fi40 [.sl l0] = f40 c lf l0 := by
 refine (f40_raw c lf l0).trans ?_
 rfl
def f75_t (c : Orc) (lf : Nat) (n0 : Int) (n1 : Int) (n2 : Int) : Option (List T) :=
 bif iLe n1 n0 then
  some [T.b (iLe n0 n2)]
 else
  some [T.b false]
def f75 (c : Orc) (lf : Nat) (n0 : Int) (n1 : Int) (n2 : Int) : Option (List T) := f75_t c lf n0 n1 n2
theorem f75_raw (c : Orc) (lf : Nat) (n0 : Int) (n1 : Int) (n2 : Int) : funK c env lf 6 fi75 [.i .i64 n0, .i .i64 n1, .i .i64 n2] = f75_t c lf n0 n1 n2 := by kernel_rfl
theorem f75_eq (c : Orc) (lf : Nat) (n0 : Int) (n1 : Int) (n2 : Int) : funK c env lf 6 fi75 [.i .i64 n0, .i .i64 n1, .i .i64 n2] = f75 c lf n0 n1 n2 := by
 refine (f75_raw c lf n0 n1 n2).trans ?_
 rfl
def f94_t (c : Orc) (lf : Nat) (l0_0 : List T) (n1 : Int) : Option (List T) :=
 (c 75 [T.i .i64 n1, T.i .i64 0, T.i .i64 (IntKind.wrap .i64 ((l0_0.length : Int) - 1))]).bind fun r428 =>
 some [T.b (asB (nth r428 0))]
def f94 (c : Orc) (lf : Nat) (l0_0 : List T) (n1 : Int) : Option (List T) := f94_t c lf l0_0 n1
theorem f94_raw (c : Orc) (lf : Nat) (l0_0 : List T) (n1 : Int) : funK c env lf 6 fi94 [.st [.sl l0_0], .i .i64 n1] = f94_t c lf l0_0 n1 := by kernel_rfl
theorem f94_eq (c : Orc) (lf : Nat) (l0_0 : List T) (n1 : Int) : funK c env lf 6 fi94 [.st [.sl l0_0], .i .i64 n1] = f94 c lf l0_0 n1 := by
 refine (f94_raw c lf l0_0 n1).trans ?_
 rfl
def f134_t (c : Orc) (lf : Nat) (l0_0 : List T) (n1 : Int) (n2 : Int) : Option (List T) :=
 (c 94 [T.st [T.sl l0_0], T.i .i64 n1]).bind fun r429 =>
 bif !(asB (nth r429 0)) then
  some [T.sl [], T.b false]
 else
  bif inR n1 l0_0.length then
  (c 75 [T.i .i64 n2, T.i .i64 0, T.i .i64 (IntKind.wrap .i64 (((asL (T.cell (l0_0.getD n1.toNat T.u) 0)).length : Int) - 1))]).bind fun r430 =>
  bif !(asB (nth r430 0)) then
   some [T.sl [], T.b false]
  else
   bif inR n1 l0_0.length then
   bif inR n2 ((asL (T.cell (l0_0.getD n1.toNat T.u) 0)).length) then
   bif !(asB (T.cell ((asL (T.cell (l0_0.getD n1.toNat T.u) 0)).getD n2.toNat T.u) 0)) then
    some [T.sl [], T.b false]
   else
    bif inR n1 l0_0.length then
    bif inR n2 ((asL (T.cell (l0_0.getD n1.toNat T.u) 0)).length) then
    (c 147 [T.sl (asL (T.cell ((asL (T.cell (l0_0.getD n1.toNat T.u) 0)).getD n2.toNat T.u) 1))]).bind fun r431 =>
    some [T.sl (asL (nth r431 0)), T.b true]
    else none
    else none
   else none
   else none
  else none
def f134 (c : Orc) (lf : Nat) (l0_0 : List T) (n1 : Int) (n2 : Int) : Option (List T) := f134_t c lf l0_0 n1 n2
theorem f134_raw (c : Orc) (lf : Nat) (l0_0 : List T) (n1 : Int) (n2 : Int) : funK c env lf 6 fi134 [.st [.sl l0_0], .i .i64 n1, .i .i64 n2] = f134_t c lf l0_0 n1 n2 := by kernel_rfl
theorem f134_eq (c : Orc) (lf : Nat) (l0_0 : List T) (n1 : Int) (n2 : Int) : funK c env lf 6 fi134 [.st [.sl l0_0], .i .i64 n1, .i .i64 n2] = f134 c lf l0_0 n1 n2 := by
 refine (f134_raw c lf l0_0 n1 n2).trans ?_
 rfl
def f146_1_s (c : Orc) (lf : Nat) (x447 : List T) (x448 : Int) (x449 : Int) (L : Int → Int → Option (List T)) (x450 : Int) (x451 : Int) : Option (List T) :=
 bif iLt x451 8 then
  bif (intBits .and .u32 x450 1) == 1 then
   L (intBits .xor .u32 (shiftI .shr .u32 x450 1) 2197175160) (IntKind.wrap .i64 (x451 + 1))
  else
   L (shiftI .shr .u32 x450 1) (IntKind.wrap .i64 (x451 + 1))
 else
  some [T.i .i64 0, T.i .u32 x450, T.sl x447, T.i .i64 x448, T.i .i64 x449]
def f146_1_c (x447 : List T) (x448 : Int) (x449 : Int) (x450 : Int) (x451 : Int) : CSt := ⟨[.i .u32 x450, .ro 0 false [.i .u8] x447, .i .i64 x448, .i .i64 x449, .i .i64 x451], [.dead]⟩
theorem f146_1_round (c : Orc) (lf : Nat) (x447 : List T) (x448 : Int) (x449 : Int) (L : CSt → Option (List T)) (x450 : Int) (x451 : Int) :
  roundK c env lf 6 fi146 1 7 [] [3, 7, 8, 9, 17] (x146_7_0) L (f146_1_c x447 x448 x449 x450 x451) = f146_1_s c lf x447 x448 x449 (fun x450 x451 => L (f146_1_c x447 x448 x449 x450 x451)) x450 x451 := by kernel_rfl
def f146_1 (c : Orc) (lf : Nat) (x447 : List T) (x448 : Int) (x449 : Int) : Nat → Int → Int → Option (List T)
 | 0 => fun _ _ => none
 | n + 1 => fun x450 x451 => f146_1_s c lf x447 x448 x449 (f146_1 c lf x447 x448 x449 n) x450 x451
theorem f146_1_u (c : Orc) (lf : Nat) (x447 : List T) (x448 : Int) (x449 : Int) (n : Nat) (x450 : Int) (x451 : Int) : f146_1 c lf x447 x448 x449 (n + 1) x450 x451 = f146_1_s c lf x447 x448 x449 (f146_1 c lf x447 x448 x449 n) x450 x451 := rfl
theorem f146_1_eq (c : Orc) (lf : Nat) (x447 : List T) (x448 : Int) (x449 : Int) (n : Nat) (x450 : Int) (x451 : Int) :
  lpK c env lf 6 fi146 1 7 [] [3, 7, 8, 9, 17] (x146_7_0) n (f146_1_c x447 x448 x449 x450 x451) = f146_1 c lf x447 x448 x449 n x450 x451 := by
 induction n generalizing x450 x451 with
 | zero => rfl
 | succ n ih =>
  refine (f146_1_round c lf x447 x448 x449 _ x450 x451).trans ?_
  have e : (fun x450 x451 => lpK c env lf 6 fi146 1 7 [] [3, 7, 8, 9, 17] (x146_7_0) n (f146_1_c x447 x448 x449 x450 x451)) = f146_1 c lf x447 x448 x449 n := by funext x450 x451; exact ih x450 x451
  show f146_1_s c lf x447 x448 x449 (fun x450 x451 => lpK c env lf 6 fi146 1 7 [] [3, 7, 8, 9, 17] (x146_7_0) n (f146_1_c x447 x448 x449 x450 x451)) x450 x451 = _
  rw [e]; rfl
def f146_0_s (c : Orc) (lf : Nat) (L : Int → List T → Int → Int → Option (List T)) (lp0 : List T → Int → Int → Int → Int → Option (List T)) (x446 : Int) (x447 : List T) (x448 : Int) (x449 : Int) : Option (List T) :=
 bif iLt x449 x448 then
  bif inR x449 x447.length then
  (lp0 x447 x448 x449 (intBits .xor .u32 x446 (IntKind.wrap .u32 (asI (x447.getD x449.toNat T.u)))) 0).bind fun r452 =>
  L (asI (nth r452 1)) (asL (nth r452 2)) (asI (nth r452 3)) (IntKind.wrap .i64 ((asI (nth r452 4)) + 1))
  else none
 else
  some [T.i .i64 0, T.i .u32 x446]
def f146_0_c (x446 : Int) (x447 : List T) (x448 : Int) (x449 : Int) : CSt := ⟨[.i .u32 x446, .ro 0 false [.i .u8] x447, .i .i64 x448, .i .i64 x449], [.dead]⟩
theorem f146_0_round (c : Orc) (lf : Nat) (L : CSt → Option (List T)) (x446 : Int) (x447 : List T) (x448 : Int) (x449 : Int) :
  roundK c env lf 6 fi146 1 3 [] [3, 7, 8, 9] (x146_3_0) L (f146_0_c x446 x447 x448 x449) = f146_0_s c lf (fun x446 x447 x448 x449 => L (f146_0_c x446 x447 x448 x449)) (fun (x447 : List T) (x448 : Int) (x449 : Int) (x450 : Int) (x451 : Int) => lpK c env lf 6 fi146 1 7 [] [3, 7, 8, 9, 17] (x146_7_0) lf (f146_1_c x447 x448 x449 x450 x451)) x446 x447 x448 x449 := by kernel_rfl
def f146_0 (c : Orc) (lf : Nat) : Nat → Int → List T → Int → Int → Option (List T)
 | 0 => fun _ _ _ _ => none
 | n + 1 => fun x446 x447 x448 x449 => f146_0_s c lf (f146_0 c lf n) (fun (x447 : List T) (x448 : Int) (x449 : Int) (x450 : Int) (x451 : Int) => f146_1 c lf x447 x448 x449 lf x450 x451) x446 x447 x448 x449
theorem f146_0_u (c : Orc) (lf : Nat) (n : Nat) (x446 : Int) (x447 : List T) (x448 : Int) (x449 : Int) : f146_0 c lf (n + 1) x446 x447 x448 x449 = f146_0_s c lf (f146_0 c lf n) (fun (x447 : List T) (x448 : Int) (x449 : Int) (x450 : Int) (x451 : Int) => f146_1 c lf x447 x448 x449 lf x450 x451) x446 x447 x448 x449 := rfl
theorem f146_0_eq (c : Orc) (lf : Nat) (n : Nat) (x446 : Int) (x447 : List T) (x448 : Int) (x449 : Int) :
  lpK c env lf 6 fi146 1 3 [] [3, 7, 8, 9] (x146_3_0) n (f146_0_c x446 x447 x448 x449) = f146_0 c lf n x446 x447 x448 x449 := by
 induction n generalizing x446 x447 x448 x449 with
 | zero => rfl
 | succ n ih =>
  refine (f146_0_round c lf _ x446 x447 x448 x449).trans ?_
  have e : (fun x446 x447 x448 x449 => lpK c env lf 6 fi146 1 3 [] [3, 7, 8, 9] (x146_3_0) n (f146_0_c x446 x447 x448 x449)) = f146_0 c lf n := by funext x446 x447 x448 x449; exact ih x446 x447 x448 x449
  have e0 : (fun (x447 : List T) (x448 : Int) (x449 : Int) (x450 : Int) (x451 : Int) => lpK c env lf 6 fi146 1 7 [] [3, 7, 8, 9, 17] (x146_7_0) lf (f146_1_c x447 x448 x449 x450 x451)) = (fun (x447 : List T) (x448 : Int) (x449 : Int) (x450 : Int) (x451 : Int) => f146_1 c lf x447 x448 x449 lf x450 x451) := by funext x447 x448 x449 x450 x451; exact f146_1_eq c lf x447 x448 x449 lf x450 x451
  show f146_0_s c lf (fun x446 x447 x448 x449 => lpK c env lf 6 fi146 1 3 [] [3, 7, 8, 9] (x146_3_0) n (f146_0_c x446 x447 x448 x449)) (fun (x447 : List T) (x448 : Int) (x449 : Int) (x450 : Int) (x451 : Int) => lpK c env lf 6 fi146 1 7 [] [3, 7, 8, 9, 17] (x146_7_0) lf (f146_1_c x447 x448 x449 x450 x451)) x446 x447 x448 x449 = _
  rw [e, e0]; rfl
def f146_t (c : Orc) (lf : Nat) (lp0 : Int → List T → Int → Int → Option (List T)) (l0 : List T) : Option (List T) :=
 (lp0 4294967295 l0 (l0.length : Int) 0).bind fun r453 =>
 some [T.i .i64 (IntKind.wrap .i64 (intBits .xor .u32 4294967295 (asI (nth r453 1))))]
def f146 (c : Orc) (lf : Nat) (l0 : List T) : Option (List T) := f146_t c lf (fun (x446 : Int) (x447 : List T) (x448 : Int) (x449 : Int) => f146_0 c lf lf x446 x447 x448 x449) l0
theorem f146_raw (c : Orc) (lf : Nat) (l0 : List T) : funK c env lf 6 fi146 [.sl l0] = f146_t c lf (fun (x446 : Int) (x447 : List T) (x448 : Int) (x449 : Int) => lpK c env lf 6 fi146 1 3 [] [3, 7, 8, 9] (x146_3_0) lf (f146_0_c x446 x447 x448 x449)) l0 := by kernel_rfl
theorem f146_eq (c : Orc) (lf : Nat) (l0 : List T) : funK c env lf 6 fi146 [.sl l0] = f146 c lf l0 := by
 refine (f146_raw c lf l0).trans ?_
 have e0 : (fun (x446 : Int) (x447 : List T) (x448 : Int) (x449 : Int) => lpK c env lf 6 fi146 1 3 [] [3, 7, 8, 9] (x146_3_0) lf (f146_0_c x446 x447 x448 x449)) = (fun (x446 : Int) (x447 : List T) (x448 : Int) (x449 : Int) => f146_0 c lf lf x446 x447 x448 x449) := by funext x446 x447 x448 x449; exact f146_0_eq c lf lf x446 x447 x448 x449
 rw [e0]; rfl
def f91_t (c : Orc) (lf : Nat) (l0 : List T) : Option (List T) :=
 (c 146 [T.sl l0]).bind fun r454 =>
 (c 147 [T.sl l0]).bind fun r455 =>
 bif nLe ((asL (nth r455 0)).length + ([T.i .u8 (IntKind.wrap .u8 (shiftI .shr .i64 (asI (nth r454 0)) 24)), T.i .u8 (IntKind.wrap .u8 (shiftI .shr .i64 (asI (nth r454 0)) 16)), T.i .u8 (IntKind.wrap .u8 (shiftI .shr .i64 (asI (nth r454 0)) 8)), T.i .u8 (IntKind.wrap .u8 (asI (nth r454 0)))] : List T).length) LIM then
 some [T.sl ((asL (nth r455 0)) ++ ([T.i .u8 (IntKind.wrap .u8 (shiftI .shr .i64 (asI (nth r454 0)) 24)), T.i .u8 (IntKind.wrap .u8 (shiftI .shr .i64 (asI (nth r454 0)) 16)), T.i .u8 (IntKind.wrap .u8 (shiftI .shr .i64 (asI (nth r454 0)) 8)), T.i .u8 (IntKind.wrap .u8 (asI (nth r454 0)))] : List T))]
 else none
def f91 (c : Orc) (lf : Nat) (l0 : List T) : Option (List T) := f91_t c lf l0
theorem f91_raw (c : Orc) (lf : Nat) (l0 : List T) : funK c env lf 6 fi91 [.sl l0] = f91_t c lf l0 := by kernel_rfl
theorem f91_eq (c : Orc) (lf : Nat) (l0 : List T) : funK c env lf 6 fi91 [.sl l0] = f91 c lf l0 := by
 refine (f91_raw c lf l0).trans ?_
 rfl
def f183_t (c : Orc) (lf : Nat) (l0 : List T) : Option (List T) :=
 bif iLt (IntKind.wrap .i64 ((l0.length : Int) - 4)) 0 then
  some [T.sl [], T.b false]
 else
  bif iLe 0 (IntKind.wrap .i64 ((l0.length : Int) - 4)) && iLe (IntKind.wrap .i64 ((l0.length : Int) - 4)) (l0.length : Int) then
  (c 91 [T.sl (l0.take ((IntKind.wrap .i64 ((l0.length : Int) - 4)).toNat))]).bind fun r457 =>
  bif !((bytesOf (asL (nth r457 0))).toList == (bytesOf l0).toList) then
   some [T.sl [], T.b false]
  else
   bif iLe 0 (IntKind.wrap .i64 ((l0.length : Int) - 4)) && iLe (IntKind.wrap .i64 ((l0.length : Int) - 4)) (l0.length : Int) then
   some [T.sl (l0.take ((IntKind.wrap .i64 ((l0.length : Int) - 4)).toNat)), T.b true]
   else none
  else none
def f183 (c : Orc) (lf : Nat) (l0 : List T) : Option (List T) := f183_t c lf l0
theorem f183_raw (c : Orc) (lf : Nat) (l0 : List T) : funK c env lf 6 fi183 [.sl l0] = f183_t c lf l0 := by kernel_rfl
theorem f183_eq (c : Orc) (lf : Nat) (l0 : List T) : funK c env lf 6 fi183 [.sl l0] = f183 c lf l0 := by
 refine (f183_raw c lf l0).trans ?_
 rfl
def f222_0_s (c : Orc) (lf : Nat) (l0 : List T) (n1 : Int) (L : Int → Int → Int → Option (List T)) (x462 : Int) (x463 : Int) (x464 : Int) : Option (List T) :=
 bif iLt x464 3 then
  bif iLt n1 (IntKind.wrap .i64 ((l0.length : Int) - x464)) then
   bif inR (IntKind.wrap .i64 (n1 + x464)) l0.length then
   bif iLe 128 (IntKind.wrap .i64 (asI (l0.getD ((IntKind.wrap .i64 (n1 + x464)).toNat) T.u))) then
    L (IntKind.wrap .i64 (x462 + (IntKind.wrap .i64 (((IntKind.wrap .i64 (asI (l0.getD ((IntKind.wrap .i64 (n1 + x464)).toNat) T.u))).tmod 128) * x463)))) (IntKind.wrap .i64 (x463 * 128)) (IntKind.wrap .i64 (x464 + 1))
   else
    bif iLt 1000000 (IntKind.wrap .i64 (x462 + (IntKind.wrap .i64 (((IntKind.wrap .i64 (asI (l0.getD ((IntKind.wrap .i64 (n1 + x464)).toNat) T.u))).tmod 128) * x463)))) then
     some [T.i .i64 0]
    else
     bif (IntKind.wrap .i64 (asI (l0.getD ((IntKind.wrap .i64 (n1 + x464)).toNat) T.u))) == 0 then
      bif iLt 0 x464 then
       some [T.i .i64 0]
      else
       some [T.i .i64 1, T.i .i64 (IntKind.wrap .i64 (x462 + (IntKind.wrap .i64 (((IntKind.wrap .i64 (asI (l0.getD ((IntKind.wrap .i64 (n1 + x464)).toNat) T.u))).tmod 128) * x463)))), T.i .i64 (IntKind.wrap .i64 ((IntKind.wrap .i64 (n1 + x464)) + 1)), T.b true]
     else
      some [T.i .i64 1, T.i .i64 (IntKind.wrap .i64 (x462 + (IntKind.wrap .i64 (((IntKind.wrap .i64 (asI (l0.getD ((IntKind.wrap .i64 (n1 + x464)).toNat) T.u))).tmod 128) * x463)))), T.i .i64 (IntKind.wrap .i64 ((IntKind.wrap .i64 (n1 + x464)) + 1)), T.b true]
   else none
  else
   some [T.i .i64 0]
 else
  some [T.i .i64 0]
def f222_0_c (l0 : List T) (n1 : Int) (x462 : Int) (x463 : Int) (x464 : Int) : CSt := ⟨[.ro 0 false [.i .u8] l0, .i .i64 n1, .i .i64 x462, .i .i64 x463, .i .i64 x464], [.dead, .dead]⟩
theorem f222_0_round (c : Orc) (lf : Nat) (l0 : List T) (n1 : Int) (L : CSt → Option (List T)) (x462 : Int) (x463 : Int) (x464 : Int) :
  roundK c env lf 6 fi222 2 6 [] [0, 1, 7, 8, 9] (x222_6_0) L (f222_0_c l0 n1 x462 x463 x464) = f222_0_s c lf l0 n1 (fun x462 x463 x464 => L (f222_0_c l0 n1 x462 x463 x464)) x462 x463 x464 := by kernel_rfl
def f222_0 (c : Orc) (lf : Nat) (l0 : List T) (n1 : Int) : Nat → Int → Int → Int → Option (List T)
 | 0 => fun _ _ _ => none
 | n + 1 => fun x462 x463 x464 => f222_0_s c lf l0 n1 (f222_0 c lf l0 n1 n) x462 x463 x464
theorem f222_0_u (c : Orc) (lf : Nat) (l0 : List T) (n1 : Int) (n : Nat) (x462 : Int) (x463 : Int) (x464 : Int) : f222_0 c lf l0 n1 (n + 1) x462 x463 x464 = f222_0_s c lf l0 n1 (f222_0 c lf l0 n1 n) x462 x463 x464 := rfl
theorem f222_0_eq (c : Orc) (lf : Nat) (l0 : List T) (n1 : Int) (n : Nat) (x462 : Int) (x463 : Int) (x464 : Int) :
  lpK c env lf 6 fi222 2 6 [] [0, 1, 7, 8, 9] (x222_6_0) n (f222_0_c l0 n1 x462 x463 x464) = f222_0 c lf l0 n1 n x462 x463 x464 := by
 induction n generalizing x462 x463 x464 with
 | zero => rfl
 | succ n ih =>
  refine (f222_0_round c lf l0 n1 _ x462 x463 x464).trans ?_
  have e : (fun x462 x463 x464 => lpK c env lf 6 fi222 2 6 [] [0, 1, 7, 8, 9] (x222_6_0) n (f222_0_c l0 n1 x462 x463 x464)) = f222_0 c lf l0 n1 n := by funext x462 x463 x464; exact ih x462 x463 x464
  show f222_0_s c lf l0 n1 (fun x462 x463 x464 => lpK c env lf 6 fi222 2 6 [] [0, 1, 7, 8, 9] (x222_6_0) n (f222_0_c l0 n1 x462 x463 x464)) x462 x463 x464 = _
  rw [e]; rfl
def f222_t (c : Orc) (lf : Nat) (lp0 : List T → Int → Int → Int → Int → Option (List T)) (l0 : List T) (n1 : Int) : Option (List T) :=
 bif iLt n1 0 then
  some [T.i .i64 0, T.i .i64 0, T.b false]
 else
  (lp0 l0 n1 0 1 0).bind fun r465 =>
  bif asI (nth r465 0) == 0 then
   some [T.i .i64 0, T.i .i64 0, T.b false]
  else
   some [T.i .i64 (asI (nth r465 1)), T.i .i64 (asI (nth r465 2)), T.b (asB (nth r465 3))]
def f222 (c : Orc) (lf : Nat) (l0 : List T) (n1 : Int) : Option (List T) := f222_t c lf (fun (l0 : List T) (n1 : Int) (x462 : Int) (x463 : Int) (x464 : Int) => f222_0 c lf l0 n1 lf x462 x463 x464) l0 n1
theorem f222_raw (c : Orc) (lf : Nat) (l0 : List T) (n1 : Int) : funK c env lf 6 fi222 [.sl l0, .i .i64 n1] = f222_t c lf (fun (l0 : List T) (n1 : Int) (x462 : Int) (x463 : Int) (x464 : Int) => lpK c env lf 6 fi222 2 6 [] [0, 1, 7, 8, 9] (x222_6_0) lf (f222_0_c l0 n1 x462 x463 x464)) l0 n1 := by kernel_rfl
theorem f222_eq (c : Orc) (lf : Nat) (l0 : List T) (n1 : Int) : funK c env lf 6 fi222 [.sl l0, .i .i64 n1] = f222 c lf l0 n1 := by
 refine (f222_raw c lf l0 n1).trans ?_
 have e0 : (fun (l0 : List T) (n1 : Int) (x462 : Int) (x463 : Int) (x464 : Int) => lpK c env lf 6 fi222 2 6 [] [0, 1, 7, 8, 9] (x222_6_0) lf (f222_0_c l0 n1 x462 x463 x464)) = (fun (l0 : List T) (n1 : Int) (x462 : Int) (x463 : Int) (x464 : Int) => f222_0 c lf l0 n1 lf x462 x463 x464) := by funext l0 n1 x462 x463 x464; exact f222_0_eq c lf l0 n1 lf x462 x463 x464
 rw [e0]; rfl
def f184_t (c : Orc) (lf : Nat) (l0_0 : List T) (n0_1 : Int) (b0_2 : Bool) : Option (List T) :=
 bif !b0_2 then
  some [T.i .i64 0, T.st [T.sl l0_0, T.i .i64 n0_1, T.b b0_2]]
 else
  (c 222 [T.sl l0_0, T.i .i64 n0_1]).bind fun r466 =>
  some [T.i .i64 (asI (nth r466 0)), T.st [T.sl l0_0, T.i .i64 (asI (nth r466 1)), T.b (asB (nth r466 2))]]
def f184 (c : Orc) (lf : Nat) (l0_0 : List T) (n0_1 : Int) (b0_2 : Bool) : Option (List T) := f184_t c lf l0_0 n0_1 b0_2
theorem f184_raw (c : Orc) (lf : Nat) (l0_0 : List T) (n0_1 : Int) (b0_2 : Bool) : funK c env lf 6 fi184 [.st [.sl l0_0, .i .i64 n0_1, .b b0_2]] = f184_t c lf l0_0 n0_1 b0_2 := by kernel_rfl
theorem f184_eq (c : Orc) (lf : Nat) (l0_0 : List T) (n0_1 : Int) (b0_2 : Bool) : funK c env lf 6 fi184 [.st [.sl l0_0, .i .i64 n0_1, .b b0_2]] = f184 c lf l0_0 n0_1 b0_2 := by
 refine (f184_raw c lf l0_0 n0_1 b0_2).trans ?_
 rfl
def f223_t (c : Orc) (lf : Nat) (l0 : List T) (n1 : Int) : Option (List T) :=
 (c 222 [T.sl l0, T.i .i64 n1]).bind fun r467 =>
 bif !(asB (nth r467 2)) then
  some [T.s (⟨#[]⟩ : ByteArray), T.i .i64 0, T.b false]
 else
  bif iLt (IntKind.wrap .i64 ((l0.length : Int) - (asI (nth r467 1)))) (asI (nth r467 0)) then
   some [T.s (⟨#[]⟩ : ByteArray), T.i .i64 0, T.b false]
  else
   bif iLe 0 (asI (nth r467 1)) && iLe (asI (nth r467 1)) (IntKind.wrap .i64 ((asI (nth r467 1)) + (asI (nth r467 0)))) && iLe (IntKind.wrap .i64 ((asI (nth r467 1)) + (asI (nth r467 0)))) (l0.length : Int) then
   some [T.s (bytesOf ((l0.drop ((asI (nth r467 1)).toNat)).take (((IntKind.wrap .i64 ((asI (nth r467 1)) + (asI (nth r467 0)))).toNat) - ((asI (nth r467 1)).toNat)))), T.i .i64 (IntKind.wrap .i64 ((asI (nth r467 1)) + (asI (nth r467 0)))), T.b true]
   else none
def f223 (c : Orc) (lf : Nat) (l0 : List T) (n1 : Int) : Option (List T) := f223_t c lf l0 n1
theorem f223_raw (c : Orc) (lf : Nat) (l0 : List T) (n1 : Int) : funK c env lf 6 fi223 [.sl l0, .i .i64 n1] = f223_t c lf l0 n1 := by kernel_rfl
theorem f223_eq (c : Orc) (lf : Nat) (l0 : List T) (n1 : Int) : funK c env lf 6 fi223 [.sl l0, .i .i64 n1] = f223 c lf l0 n1 := by
 refine (f223_raw c lf l0 n1).trans ?_
 rfl
def f185_t (c : Orc) (lf : Nat) (l0_0 : List T) (n0_1 : Int) (b0_2 : Bool) : Option (List T) :=
 bif !b0_2 then
  some [T.s (⟨#[]⟩ : ByteArray), T.st [T.sl l0_0, T.i .i64 n0_1, T.b b0_2]]
 else
  (c 223 [T.sl l0_0, T.i .i64 n0_1]).bind fun r468 =>
  some [T.s (asS (nth r468 0)), T.st [T.sl l0_0, T.i .i64 (asI (nth r468 1)), T.b (asB (nth r468 2))]]
def f185 (c : Orc) (lf : Nat) (l0_0 : List T) (n0_1 : Int) (b0_2 : Bool) : Option (List T) := f185_t c lf l0_0 n0_1 b0_2
theorem f185_raw (c : Orc) (lf : Nat) (l0_0 : List T) (n0_1 : Int) (b0_2 : Bool) : funK c env lf 6 fi185 [.st [.sl l0_0, .i .i64 n0_1, .b b0_2]] = f185_t c lf l0_0 n0_1 b0_2 := by kernel_rfl
theorem f185_eq (c : Orc) (lf : Nat) (l0_0 : List T) (n0_1 : Int) (b0_2 : Bool) : funK c env lf 6 fi185 [.st [.sl l0_0, .i .i64 n0_1, .b b0_2]] = f185 c lf l0_0 n0_1 b0_2 := by
 refine (f185_raw c lf l0_0 n0_1 b0_2).trans ?_
 rfl
def f186_t (c : Orc) (lf : Nat) (l0_0 : List T) (n0_1 : Int) (b0_2 : Bool) : Option (List T) :=
 bif b0_2 then
  some [T.b (n0_1 == (l0_0.length : Int)), T.st [T.sl l0_0, T.i .i64 n0_1, T.b b0_2]]
 else
  some [T.b false, T.st [T.sl l0_0, T.i .i64 n0_1, T.b b0_2]]
def f186 (c : Orc) (lf : Nat) (l0_0 : List T) (n0_1 : Int) (b0_2 : Bool) : Option (List T) := f186_t c lf l0_0 n0_1 b0_2
theorem f186_raw (c : Orc) (lf : Nat) (l0_0 : List T) (n0_1 : Int) (b0_2 : Bool) : funK c env lf 6 fi186 [.st [.sl l0_0, .i .i64 n0_1, .b b0_2]] = f186_t c lf l0_0 n0_1 b0_2 := by kernel_rfl
theorem f186_eq (c : Orc) (lf : Nat) (l0_0 : List T) (n0_1 : Int) (b0_2 : Bool) : funK c env lf 6 fi186 [.st [.sl l0_0, .i .i64 n0_1, .b b0_2]] = f186 c lf l0_0 n0_1 b0_2 := by
 refine (f186_raw c lf l0_0 n0_1 b0_2).trans ?_
 rfl
def f89_t (c : Orc) (lf : Nat) (n0_0 : Int) (n0_1 : Int) (l0_2 : List T) : Option (List T) :=
 (c 75 [T.i .i64 n0_0, T.i .i64 1, T.i .i64 4]).bind fun r469 =>
 bif asB (nth r469 0) then
  (c 75 [T.i .i64 n0_1, T.i .i64 0, T.i .i64 1000000]).bind fun r470 =>
  bif asB (nth r470 0) then
   some [T.b (iLe (l0_2.length : Int) 380)]
  else
   some [T.b false]
 else
  some [T.b false]
def f89 (c : Orc) (lf : Nat) (n0_0 : Int) (n0_1 : Int) (l0_2 : List T) : Option (List T) := f89_t c lf n0_0 n0_1 l0_2
theorem f89_raw (c : Orc) (lf : Nat) (n0_0 : Int) (n0_1 : Int) (l0_2 : List T) : funK c env lf 6 fi89 [.st [.i .i64 n0_0, .i .i64 n0_1, .sl l0_2]] = f89_t c lf n0_0 n0_1 l0_2 := by kernel_rfl
theorem f89_eq (c : Orc) (lf : Nat) (n0_0 : Int) (n0_1 : Int) (l0_2 : List T) : funK c env lf 6 fi89 [.st [.i .i64 n0_0, .i .i64 n0_1, .sl l0_2]] = f89 c lf n0_0 n0_1 l0_2 := by
 refine (f89_raw c lf n0_0 n0_1 l0_2).trans ?_
 rfl
def f135_t (c : Orc) (lf : Nat) (l0 : List T) : Option (List T) :=
 (c 183 [T.sl l0]).bind fun r471 =>
 (c 184 [T.st [T.sl (asL (nth r471 0)), T.i .i64 0, T.b (asB (nth r471 1))]]).bind fun r472 =>
 (c 184 [T.st [T.sl (asL (nth r471 0)), T.i .i64 (asI (T.cell (nth r472 1) 1)), T.b (asB (T.cell (nth r472 1) 2))]]).bind fun r473 =>
 (c 185 [T.st [T.sl (asL (nth r471 0)), T.i .i64 (asI (T.cell (nth r473 1) 1)), T.b (asB (T.cell (nth r473 1) 2))]]).bind fun r474 =>
 bif nLe (asS (nth r474 0)).size LIM then
 (c 186 [T.st [T.sl (asL (nth r471 0)), T.i .i64 (asI (T.cell (nth r474 1) 1)), T.b (asB (T.cell (nth r474 1) 2))]]).bind fun r475 =>
 bif !(asB (nth r475 0)) then
  some [T.st [T.i .i64 0, T.i .i64 0, T.sl []], T.b false]
 else
  (c 89 [T.st [T.i .i64 (asI (nth r472 0)), T.i .i64 (asI (nth r473 0)), T.sl (listOf (asS (nth r474 0)))]]).bind fun r476 =>
  bif !(asB (nth r476 0)) then
   some [T.st [T.i .i64 0, T.i .i64 0, T.sl []], T.b false]
  else
   some [T.st [T.i .i64 (asI (nth r472 0)), T.i .i64 (asI (nth r473 0)), T.sl (listOf (asS (nth r474 0)))], T.b true]
 else none
def f135 (c : Orc) (lf : Nat) (l0 : List T) : Option (List T) := f135_t c lf l0
theorem f135_raw (c : Orc) (lf : Nat) (l0 : List T) : funK c env lf 6 fi135 [.sl l0] = f135_t c lf l0 := by kernel_rfl
theorem f135_eq (c : Orc) (lf : Nat) (l0 : List T) : funK c env lf 6 fi135 [.sl l0] = f135 c lf l0 := by
 refine (f135_raw c lf l0).trans ?_
 rfl
def f81_t (c : Orc) (lf : Nat) (l0_0 : List T) (n0_1 : Int) (l0_2 : List T) (b0_3 : Bool) (n0_4 : Int) (n1 : Int) : Option (List T) :=
 bif iLt n1 0 then
  some [T.st [T.i .i64 0, T.i .i64 0, T.sl []], T.b false]
 else
  (c 134 [T.st [T.sl l0_0], T.i .i64 (IntKind.wrap .i64 (n1.tdiv 8)), T.i .i64 (n1.tmod 8)]).bind fun r477 =>
  bif !(asB (nth r477 1)) then
   some [T.st [T.i .i64 0, T.i .i64 0, T.sl []], T.b false]
  else
   (c 135 [T.sl (asL (nth r477 0))]).bind fun r478 =>
   some [T.st [T.i .i64 (asI (T.cell (nth r478 0) 0)), T.i .i64 (asI (T.cell (nth r478 0) 1)), T.sl (asL (T.cell (nth r478 0) 2))], T.b (asB (nth r478 1))]
def f81 (c : Orc) (lf : Nat) (l0_0 : List T) (n0_1 : Int) (l0_2 : List T) (b0_3 : Bool) (n0_4 : Int) (n1 : Int) : Option (List T) := f81_t c lf l0_0 n0_1 l0_2 b0_3 n0_4 n1
theorem f81_raw (c : Orc) (lf : Nat) (l0_0 : List T) (n0_1 : Int) (l0_2 : List T) (b0_3 : Bool) (n0_4 : Int) (n1 : Int) : funK c env lf 6 fi81 [.st [.sl l0_0, .i .i64 n0_1, .sl l0_2, .b b0_3, .i .i64 n0_4], .i .i64 n1] = f81_t c lf l0_0 n0_1 l0_2 b0_3 n0_4 n1 := by kernel_rfl
theorem f81_eq (c : Orc) (lf : Nat) (l0_0 : List T) (n0_1 : Int) (l0_2 : List T) (b0_3 : Bool) (n0_4 : Int) (n1 : Int) : funK c env lf 6 fi81 [.st [.sl l0_0, .i .i64 n0_1, .sl l0_2, .b b0_3, .i .i64 n0_4], .i .i64 n1] = f81 c lf l0_0 n0_1 l0_2 b0_3 n0_4 n1 := by
 refine (f81_raw c lf l0_0 n0_1 l0_2 b0_3 n0_4 n1).trans ?_
 rfl
def f24_t (c : Orc) (lf : Nat) (l0_0 : List T) (n0_1 : Int) (l0_2 : List T) (b0_3 : Bool) (n0_4 : Int) (n1 : Int) (n2 : Int) : Option (List T) :=
 (c 81 [T.st [T.sl l0_0, T.i .i64 n0_1, T.sl l0_2, T.b b0_3, T.i .i64 n0_4], T.i .i64 n1]).bind fun r479 =>
 bif !(asB (nth r479 1)) then
  some [T.st [T.i .i64 0, T.i .i64 0, T.sl []], T.b false]
 else
  bif (asI (T.cell (nth r479 0) 0)) != n2 then
   some [T.st [T.i .i64 0, T.i .i64 0, T.sl []], T.b false]
  else
   some [T.st [T.i .i64 (asI (T.cell (nth r479 0) 0)), T.i .i64 (asI (T.cell (nth r479 0) 1)), T.sl (asL (T.cell (nth r479 0) 2))], T.b true]
def f24 (c : Orc) (lf : Nat) (l0_0 : List T) (n0_1 : Int) (l0_2 : List T) (b0_3 : Bool) (n0_4 : Int) (n1 : Int) (n2 : Int) : Option (List T) := f24_t c lf l0_0 n0_1 l0_2 b0_3 n0_4 n1 n2
theorem f24_raw (c : Orc) (lf : Nat) (l0_0 : List T) (n0_1 : Int) (l0_2 : List T) (b0_3 : Bool) (n0_4 : Int) (n1 : Int) (n2 : Int) : funK c env lf 6 fi24 [.st [.sl l0_0, .i .i64 n0_1, .sl l0_2, .b b0_3, .i .i64 n0_4], .i .i64 n1, .i .i64 n2] = f24_t c lf l0_0 n0_1 l0_2 b0_3 n0_4 n1 n2 := by kernel_rfl
theorem f24_eq (c : Orc) (lf : Nat) (l0_0 : List T) (n0_1 : Int) (l0_2 : List T) (b0_3 : Bool) (n0_4 : Int) (n1 : Int) (n2 : Int) : funK c env lf 6 fi24 [.st [.sl l0_0, .i .i64 n0_1, .sl l0_2, .b b0_3, .i .i64 n0_4], .i .i64 n1, .i .i64 n2] = f24 c lf l0_0 n0_1 l0_2 b0_3 n0_4 n1 n2 := by
 refine (f24_raw c lf l0_0 n0_1 l0_2 b0_3 n0_4 n1 n2).trans ?_
 rfl
def f79_t (c : Orc) (lf : Nat) (l0_0 : List T) (n1 : Int) (n2 : Int) : Option (List T) :=
 bif iLt n1 0 then
  some [T.sl ([] : List T), T.b false]
 else
  bif iLe (l0_0.length : Int) n1 then
   some [T.sl ([] : List T), T.b false]
  else
   bif iLt n2 0 then
    some [T.sl ([] : List T), T.b false]
   else
    bif inR n1 l0_0.length then
    bif iLe ((asL (T.cell (l0_0.getD n1.toNat T.u) 0)).length : Int) n2 then
     some [T.sl ([] : List T), T.b false]
    else
     bif inR n1 l0_0.length then
     bif inR n2 ((asL (T.cell (l0_0.getD n1.toNat T.u) 0)).length) then
     bif !(asB (T.cell ((asL (T.cell (l0_0.getD n1.toNat T.u) 0)).getD n2.toNat T.u) 0)) then
      some [T.sl ([] : List T), T.b false]
     else
      bif inR n1 l0_0.length then
      bif inR n2 ((asL (T.cell (l0_0.getD n1.toNat T.u) 0)).length) then
      bif nLe (([] : List T).length + (asL (T.cell ((asL (T.cell (l0_0.getD n1.toNat T.u) 0)).getD n2.toNat T.u) 1)).length) LIM then
      some [T.sl (([] : List T) ++ (asL (T.cell ((asL (T.cell (l0_0.getD n1.toNat T.u) 0)).getD n2.toNat T.u) 1))), T.b true]
      else none
      else none
      else none
     else none
     else none
    else none
def f79 (c : Orc) (lf : Nat) (l0_0 : List T) (n1 : Int) (n2 : Int) : Option (List T) := f79_t c lf l0_0 n1 n2
theorem f79_raw (c : Orc) (lf : Nat) (l0_0 : List T) (n1 : Int) (n2 : Int) : funK c env lf 6 fi79 [.st [.sl l0_0], .i .i64 n1, .i .i64 n2] = f79_t c lf l0_0 n1 n2 := by kernel_rfl
theorem f79_eq (c : Orc) (lf : Nat) (l0_0 : List T) (n1 : Int) (n2 : Int) : funK c env lf 6 fi79 [.st [.sl l0_0], .i .i64 n1, .i .i64 n2] = f79 c lf l0_0 n1 n2 := by
 refine (f79_raw c lf l0_0 n1 n2).trans ?_
 rfl
def f181_0_s (c : Orc) (lf : Nat) (l0 : List T) (n1 : Int) (L : Int → Int → Option (List T)) (x483 : Int) (x484 : Int) : Option (List T) :=
 bif iLt x484 3 then
  bif iLe 0 n1 then
   bif iLt n1 (l0.length : Int) then
    bif iLt (IntKind.wrap .i64 (n1 + x484)) (l0.length : Int) then
     bif inR (IntKind.wrap .i64 (n1 + x484)) l0.length then
     bif iLe 0 (IntKind.wrap .u64 (IntKind.wrap .i64 (7 * x484))) then
     bif iLt 127 (IntKind.wrap .i64 (asI (l0.getD ((IntKind.wrap .i64 (n1 + x484)).toNat) T.u))) then
      L (intBits .or .i64 x483 (shiftI .shl .i64 (intBits .and .i64 (IntKind.wrap .i64 (asI (l0.getD ((IntKind.wrap .i64 (n1 + x484)).toNat) T.u))) 127) (IntKind.wrap .u64 (IntKind.wrap .i64 (7 * x484))))) (IntKind.wrap .i64 (x484 + 1))
     else
      bif iLt 0 x484 then
       bif (IntKind.wrap .i64 (asI (l0.getD ((IntKind.wrap .i64 (n1 + x484)).toNat) T.u))) == 0 then
        some [T.i .i64 0, T.i .i64 0, T.i .i64 0, T.b false]
       else
        bif iLt 1000000 (intBits .or .i64 x483 (shiftI .shl .i64 (intBits .and .i64 (IntKind.wrap .i64 (asI (l0.getD ((IntKind.wrap .i64 (n1 + x484)).toNat) T.u))) 127) (IntKind.wrap .u64 (IntKind.wrap .i64 (7 * x484))))) then
         some [T.i .i64 0, T.i .i64 0, T.i .i64 0, T.b false]
        else
         some [T.i .i64 0, T.i .i64 (intBits .or .i64 x483 (shiftI .shl .i64 (intBits .and .i64 (IntKind.wrap .i64 (asI (l0.getD ((IntKind.wrap .i64 (n1 + x484)).toNat) T.u))) 127) (IntKind.wrap .u64 (IntKind.wrap .i64 (7 * x484))))), T.i .i64 (IntKind.wrap .i64 ((IntKind.wrap .i64 (n1 + x484)) + 1)), T.b true]
      else
       bif iLt 1000000 (intBits .or .i64 x483 (shiftI .shl .i64 (intBits .and .i64 (IntKind.wrap .i64 (asI (l0.getD ((IntKind.wrap .i64 (n1 + x484)).toNat) T.u))) 127) (IntKind.wrap .u64 (IntKind.wrap .i64 (7 * x484))))) then
        some [T.i .i64 0, T.i .i64 0, T.i .i64 0, T.b false]
       else
        some [T.i .i64 0, T.i .i64 (intBits .or .i64 x483 (shiftI .shl .i64 (intBits .and .i64 (IntKind.wrap .i64 (asI (l0.getD ((IntKind.wrap .i64 (n1 + x484)).toNat) T.u))) 127) (IntKind.wrap .u64 (IntKind.wrap .i64 (7 * x484))))), T.i .i64 (IntKind.wrap .i64 ((IntKind.wrap .i64 (n1 + x484)) + 1)), T.b true]
     else none
     else none
    else
     some [T.i .i64 1]
   else
    some [T.i .i64 1]
  else
   some [T.i .i64 1]
 else
  some [T.i .i64 1]
def f181_0_c (l0 : List T) (n1 : Int) (x483 : Int) (x484 : Int) : CSt := ⟨[.ro 0 false [.i .u8] l0, .i .i64 n1, .i .i64 x483, .i .i64 x484], [.dead, .dead]⟩
theorem f181_0_round (c : Orc) (lf : Nat) (l0 : List T) (n1 : Int) (L : CSt → Option (List T)) (x483 : Int) (x484 : Int) :
  roundK c env lf 6 fi181 2 3 [] [0, 1, 7, 8] (x181_3_0) L (f181_0_c l0 n1 x483 x484) = f181_0_s c lf l0 n1 (fun x483 x484 => L (f181_0_c l0 n1 x483 x484)) x483 x484 := by kernel_rfl
def f181_0 (c : Orc) (lf : Nat) (l0 : List T) (n1 : Int) : Nat → Int → Int → Option (List T)
 | 0 => fun _ _ => none
 | n + 1 => fun x483 x484 => f181_0_s c lf l0 n1 (f181_0 c lf l0 n1 n) x483 x484
theorem f181_0_u (c : Orc) (lf : Nat) (l0 : List T) (n1 : Int) (n : Nat) (x483 : Int) (x484 : Int) : f181_0 c lf l0 n1 (n + 1) x483 x484 = f181_0_s c lf l0 n1 (f181_0 c lf l0 n1 n) x483 x484 := rfl
theorem f181_0_eq (c : Orc) (lf : Nat) (l0 : List T) (n1 : Int) (n : Nat) (x483 : Int) (x484 : Int) :
  lpK c env lf 6 fi181 2 3 [] [0, 1, 7, 8] (x181_3_0) n (f181_0_c l0 n1 x483 x484) = f181_0 c lf l0 n1 n x483 x484 := by
 induction n generalizing x483 x484 with
 | zero => rfl
 | succ n ih =>
  refine (f181_0_round c lf l0 n1 _ x483 x484).trans ?_
  have e : (fun x483 x484 => lpK c env lf 6 fi181 2 3 [] [0, 1, 7, 8] (x181_3_0) n (f181_0_c l0 n1 x483 x484)) = f181_0 c lf l0 n1 n := by funext x483 x484; exact ih x483 x484
  show f181_0_s c lf l0 n1 (fun x483 x484 => lpK c env lf 6 fi181 2 3 [] [0, 1, 7, 8] (x181_3_0) n (f181_0_c l0 n1 x483 x484)) x483 x484 = _
  rw [e]; rfl
def f181_t (c : Orc) (lf : Nat) (lp0 : List T → Int → Int → Int → Option (List T)) (l0 : List T) (n1 : Int) : Option (List T) :=
 (lp0 l0 n1 0 0).bind fun r485 =>
 bif asI (nth r485 0) == 0 then
  some [T.i .i64 (asI (nth r485 1)), T.i .i64 (asI (nth r485 2)), T.b (asB (nth r485 3))]
 else
  some [T.i .i64 0, T.i .i64 0, T.b false]
def f181 (c : Orc) (lf : Nat) (l0 : List T) (n1 : Int) : Option (List T) := f181_t c lf (fun (l0 : List T) (n1 : Int) (x483 : Int) (x484 : Int) => f181_0 c lf l0 n1 lf x483 x484) l0 n1
theorem f181_raw (c : Orc) (lf : Nat) (l0 : List T) (n1 : Int) : funK c env lf 6 fi181 [.sl l0, .i .i64 n1] = f181_t c lf (fun (l0 : List T) (n1 : Int) (x483 : Int) (x484 : Int) => lpK c env lf 6 fi181 2 3 [] [0, 1, 7, 8] (x181_3_0) lf (f181_0_c l0 n1 x483 x484)) l0 n1 := by kernel_rfl
theorem f181_eq (c : Orc) (lf : Nat) (l0 : List T) (n1 : Int) : funK c env lf 6 fi181 [.sl l0, .i .i64 n1] = f181 c lf l0 n1 := by
 refine (f181_raw c lf l0 n1).trans ?_
 have e0 : (fun (l0 : List T) (n1 : Int) (x483 : Int) (x484 : Int) => lpK c env lf 6 fi181 2 3 [] [0, 1, 7, 8] (x181_3_0) lf (f181_0_c l0 n1 x483 x484)) = (fun (l0 : List T) (n1 : Int) (x483 : Int) (x484 : Int) => f181_0 c lf l0 n1 lf x483 x484) := by funext l0 n1 x483 x484; exact f181_0_eq c lf l0 n1 lf x483 x484
 rw [e0]; rfl
def f131_t (c : Orc) (lf : Nat) (l0_0 : List T) (n0_1 : Int) (b0_2 : Bool) : Option (List T) :=
 (c 181 [T.sl l0_0, T.i .i64 n0_1]).bind fun r486 =>
 bif b0_2 then
  some [T.i .i64 0, T.st [T.sl l0_0, T.i .i64 n0_1, T.b true]]
 else
  bif !(asB (nth r486 2)) then
   some [T.i .i64 0, T.st [T.sl l0_0, T.i .i64 n0_1, T.b true]]
  else
   some [T.i .i64 (asI (nth r486 0)), T.st [T.sl l0_0, T.i .i64 (asI (nth r486 1)), T.b b0_2]]
def f131 (c : Orc) (lf : Nat) (l0_0 : List T) (n0_1 : Int) (b0_2 : Bool) : Option (List T) := f131_t c lf l0_0 n0_1 b0_2
theorem f131_raw (c : Orc) (lf : Nat) (l0_0 : List T) (n0_1 : Int) (b0_2 : Bool) : funK c env lf 6 fi131 [.st [.sl l0_0, .i .i64 n0_1, .b b0_2]] = f131_t c lf l0_0 n0_1 b0_2 := by kernel_rfl
theorem f131_eq (c : Orc) (lf : Nat) (l0_0 : List T) (n0_1 : Int) (b0_2 : Bool) : funK c env lf 6 fi131 [.st [.sl l0_0, .i .i64 n0_1, .b b0_2]] = f131 c lf l0_0 n0_1 b0_2 := by
 refine (f131_raw c lf l0_0 n0_1 b0_2).trans ?_
 rfl
def f182_t (c : Orc) (lf : Nat) (l0 : List T) (n1 : Int) : Option (List T) :=
 (c 181 [T.sl l0, T.i .i64 n1]).bind fun r487 =>
 bif !(asB (nth r487 2)) then
  some [T.s (⟨#[]⟩ : ByteArray), T.i .i64 0, T.b false]
 else
  bif iLt (IntKind.wrap .i64 ((l0.length : Int) - (asI (nth r487 1)))) (asI (nth r487 0)) then
   some [T.s (⟨#[]⟩ : ByteArray), T.i .i64 0, T.b false]
  else
   bif iLe 0 (asI (nth r487 1)) && iLe (asI (nth r487 1)) (IntKind.wrap .i64 ((asI (nth r487 1)) + (asI (nth r487 0)))) && iLe (IntKind.wrap .i64 ((asI (nth r487 1)) + (asI (nth r487 0)))) (l0.length : Int) then
   some [T.s (bytesOf ((l0.drop ((asI (nth r487 1)).toNat)).take (((IntKind.wrap .i64 ((asI (nth r487 1)) + (asI (nth r487 0)))).toNat) - ((asI (nth r487 1)).toNat)))), T.i .i64 (IntKind.wrap .i64 ((asI (nth r487 1)) + (asI (nth r487 0)))), T.b true]
   else none
def f182 (c : Orc) (lf : Nat) (l0 : List T) (n1 : Int) : Option (List T) := f182_t c lf l0 n1
theorem f182_raw (c : Orc) (lf : Nat) (l0 : List T) (n1 : Int) : funK c env lf 6 fi182 [.sl l0, .i .i64 n1] = f182_t c lf l0 n1 := by kernel_rfl
theorem f182_eq (c : Orc) (lf : Nat) (l0 : List T) (n1 : Int) : funK c env lf 6 fi182 [.sl l0, .i .i64 n1] = f182 c lf l0 n1 := by
 refine (f182_raw c lf l0 n1).trans ?_
 rfl
def f132_t (c : Orc) (lf : Nat) (l0_0 : List T) (n0_1 : Int) (b0_2 : Bool) : Option (List T) :=
 (c 182 [T.sl l0_0, T.i .i64 n0_1]).bind fun r488 =>
 bif b0_2 then
  some [T.s (⟨#[]⟩ : ByteArray), T.st [T.sl l0_0, T.i .i64 n0_1, T.b true]]
 else
  bif !(asB (nth r488 2)) then
   some [T.s (⟨#[]⟩ : ByteArray), T.st [T.sl l0_0, T.i .i64 n0_1, T.b true]]
  else
   some [T.s (asS (nth r488 0)), T.st [T.sl l0_0, T.i .i64 (asI (nth r488 1)), T.b b0_2]]
def f132 (c : Orc) (lf : Nat) (l0_0 : List T) (n0_1 : Int) (b0_2 : Bool) : Option (List T) := f132_t c lf l0_0 n0_1 b0_2
theorem f132_raw (c : Orc) (lf : Nat) (l0_0 : List T) (n0_1 : Int) (b0_2 : Bool) : funK c env lf 6 fi132 [.st [.sl l0_0, .i .i64 n0_1, .b b0_2]] = f132_t c lf l0_0 n0_1 b0_2 := by kernel_rfl
theorem f132_eq (c : Orc) (lf : Nat) (l0_0 : List T) (n0_1 : Int) (b0_2 : Bool) : funK c env lf 6 fi132 [.st [.sl l0_0, .i .i64 n0_1, .b b0_2]] = f132 c lf l0_0 n0_1 b0_2 := by
 refine (f132_raw c lf l0_0 n0_1 b0_2).trans ?_
 rfl
def f80_0_s (c : Orc) (lf : Nat) (l0 : List T) (L : Int → Int → Option (List T)) (x497 : Int) (x498 : Int) : Option (List T) :=
 bif iLt x498 (l0.length : Int) then
  bif inR x498 l0.length then
  L (intBits .or .i64 (shiftI .shl .i64 x497 8) (IntKind.wrap .i64 (asI (l0.getD x498.toNat T.u)))) (IntKind.wrap .i64 (x498 + 1))
  else none
 else
  some [T.i .i64 0, T.sl l0, T.i .i64 (IntKind.wrap .i64 ((l0.length : Int) - 4)), T.i .i64 x497, T.i .i64 0, T.i .i64 0, T.sl ([] : List T)]
def f80_0_c (l0 : List T) (x497 : Int) (x498 : Int) : CSt := ⟨[.ro 0 false [.i .u8] l0, .bp 1 0, .i .i64 (IntKind.wrap .i64 ((l0.length : Int) - 4)), .i .i64 x497, .i .i64 x498], [.dead, .box [.i .i64 0, .i .i64 0, .rf 2 [] 0 none], .row false [.i .u8] ([] : List T) 0 false]⟩
theorem f80_0_round (c : Orc) (lf : Nat) (l0 : List T) (L : CSt → Option (List T)) (x497 : Int) (x498 : Int) :
  roundK c env lf 6 fi80 1 6 [] [0, 2, 4, 5, 6] (x80_6_0) L (f80_0_c l0 x497 x498) = f80_0_s c lf l0 (fun x497 x498 => L (f80_0_c l0 x497 x498)) x497 x498 := by kernel_rfl
def f80_0 (c : Orc) (lf : Nat) (l0 : List T) : Nat → Int → Int → Option (List T)
 | 0 => fun _ _ => none
 | n + 1 => fun x497 x498 => f80_0_s c lf l0 (f80_0 c lf l0 n) x497 x498
theorem f80_0_u (c : Orc) (lf : Nat) (l0 : List T) (n : Nat) (x497 : Int) (x498 : Int) : f80_0 c lf l0 (n + 1) x497 x498 = f80_0_s c lf l0 (f80_0 c lf l0 n) x497 x498 := rfl
theorem f80_0_eq (c : Orc) (lf : Nat) (l0 : List T) (n : Nat) (x497 : Int) (x498 : Int) :
  lpK c env lf 6 fi80 1 6 [] [0, 2, 4, 5, 6] (x80_6_0) n (f80_0_c l0 x497 x498) = f80_0 c lf l0 n x497 x498 := by
 induction n generalizing x497 x498 with
 | zero => rfl
 | succ n ih =>
  refine (f80_0_round c lf l0 _ x497 x498).trans ?_
  have e : (fun x497 x498 => lpK c env lf 6 fi80 1 6 [] [0, 2, 4, 5, 6] (x80_6_0) n (f80_0_c l0 x497 x498)) = f80_0 c lf l0 n := by funext x497 x498; exact ih x497 x498
  show f80_0_s c lf l0 (fun x497 x498 => lpK c env lf 6 fi80 1 6 [] [0, 2, 4, 5, 6] (x80_6_0) n (f80_0_c l0 x497 x498)) x497 x498 = _
  rw [e]; rfl
def f80_t (c : Orc) (lf : Nat) (lp0 : List T → Int → Int → Option (List T)) (l0 : List T) : Option (List T) :=
 bif iLt (IntKind.wrap .i64 ((l0.length : Int) - 4)) 0 then
  some [T.st [T.i .i64 0, T.i .i64 0, T.sl []], T.b false]
 else
  (lp0 l0 0 (IntKind.wrap .i64 ((l0.length : Int) - 4))).bind fun r499 =>
  bif iLe 0 (asI (nth r499 2)) && iLe (asI (nth r499 2)) ((asL (nth r499 1)).length : Int) then
  (c 131 [T.st [T.sl ((asL (nth r499 1)).take ((asI (nth r499 2)).toNat)), T.i .i64 0, T.b false]]).bind fun r500 =>
  (c 131 [T.st [T.sl ((asL (nth r499 1)).take ((asI (nth r499 2)).toNat)), T.i .i64 (asI (T.cell (nth r500 1) 1)), T.b (asB (T.cell (nth r500 1) 2))]]).bind fun r501 =>
  (c 132 [T.st [T.sl ((asL (nth r499 1)).take ((asI (nth r499 2)).toNat)), T.i .i64 (asI (T.cell (nth r501 1) 1)), T.b (asB (T.cell (nth r501 1) 2))]]).bind fun r502 =>
  bif nLe (asS (nth r502 0)).size LIM then
  bif asB (T.cell (nth r502 1) 2) then
   some [T.st [T.i .i64 0, T.i .i64 0, T.sl []], T.b false]
  else
   bif (asI (T.cell (nth r502 1) 1)) != (asI (nth r499 2)) then
    some [T.st [T.i .i64 0, T.i .i64 0, T.sl []], T.b false]
   else
    bif iLe 0 (asI (nth r499 2)) && iLe (asI (nth r499 2)) ((asL (nth r499 1)).length : Int) then
    (c 133 [T.sl ((asL (nth r499 1)).take ((asI (nth r499 2)).toNat))]).bind fun r503 =>
    bif (asI (nth r499 3)) != (asI (nth r503 0)) then
     some [T.st [T.i .i64 0, T.i .i64 0, T.sl []], T.b false]
    else
     (c 103 [T.st [T.i .i64 (asI (nth r500 0)), T.i .i64 (asI (nth r501 0)), T.sl (listOf (asS (nth r502 0)))]]).bind fun r504 =>
     bif !(asB (nth r504 0)) then
      some [T.st [T.i .i64 0, T.i .i64 0, T.sl []], T.b false]
     else
      some [T.st [T.i .i64 (asI (nth r500 0)), T.i .i64 (asI (nth r501 0)), T.sl (listOf (asS (nth r502 0)))], T.b true]
    else none
  else none
  else none
def f80 (c : Orc) (lf : Nat) (l0 : List T) : Option (List T) := f80_t c lf (fun (l0 : List T) (x497 : Int) (x498 : Int) => f80_0 c lf l0 lf x497 x498) l0
theorem f80_raw (c : Orc) (lf : Nat) (l0 : List T) : funK c env lf 6 fi80 [.sl l0] = f80_t c lf (fun (l0 : List T) (x497 : Int) (x498 : Int) => lpK c env lf 6 fi80 1 6 [] [0, 2, 4, 5, 6] (x80_6_0) lf (f80_0_c l0 x497 x498)) l0 := by kernel_rfl
theorem f80_eq (c : Orc) (lf : Nat) (l0 : List T) : funK c env lf 6 fi80 [.sl l0] = f80 c lf l0 := by
 refine (f80_raw c lf l0).trans ?_
 have e0 : (fun (l0 : List T) (x497 : Int) (x498 : Int) => lpK c env lf 6 fi80 1 6 [] [0, 2, 4, 5, 6] (x80_6_0) lf (f80_0_c l0 x497 x498)) = (fun (l0 : List T) (x497 : Int) (x498 : Int) => f80_0 c lf l0 lf x497 x498) := by funext l0 x497 x498; exact f80_0_eq c lf l0 lf x497 x498
 rw [e0]; rfl
def f23_t (c : Orc) (lf : Nat) (l0_0 : List T) (n0_1 : Int) (l0_2 : List T) (b0_3 : Bool) (n0_4 : Int) (n1 : Int) (n2 : Int) : Option (List T) :=
 bif iLt n1 0 then
  some [T.st [T.i .i64 0, T.i .i64 0, T.sl []], T.b false]
 else
  (c 79 [T.st [T.sl l0_0], T.i .i64 (IntKind.wrap .i64 (n1.tdiv 8)), T.i .i64 (n1.tmod 8)]).bind fun r505 =>
  (c 80 [T.sl (asL (nth r505 0))]).bind fun r506 =>
  bif !(asB (nth r505 1)) then
   some [T.st [T.i .i64 0, T.i .i64 0, T.sl []], T.b false]
  else
   bif !(asB (nth r506 1)) then
    some [T.st [T.i .i64 0, T.i .i64 0, T.sl []], T.b false]
   else
    bif (asI (T.cell (nth r506 0) 0)) != n2 then
     some [T.st [T.i .i64 0, T.i .i64 0, T.sl []], T.b false]
    else
     some [T.st [T.i .i64 (asI (T.cell (nth r506 0) 0)), T.i .i64 (asI (T.cell (nth r506 0) 1)), T.sl (asL (T.cell (nth r506 0) 2))], T.b true]
def f23 (c : Orc) (lf : Nat) (l0_0 : List T) (n0_1 : Int) (l0_2 : List T) (b0_3 : Bool) (n0_4 : Int) (n1 : Int) (n2 : Int) : Option (List T) := f23_t c lf l0_0 n0_1 l0_2 b0_3 n0_4 n1 n2
theorem f23_raw (c : Orc) (lf : Nat) (l0_0 : List T) (n0_1 : Int) (l0_2 : List T) (b0_3 : Bool) (n0_4 : Int) (n1 : Int) (n2 : Int) : funK c env lf 6 fi23 [.st [.sl l0_0, .i .i64 n0_1, .sl l0_2, .b b0_3, .i .i64 n0_4], .i .i64 n1, .i .i64 n2] = f23_t c lf l0_0 n0_1 l0_2 b0_3 n0_4 n1 n2 := by kernel_rfl
theorem f23_eq (c : Orc) (lf : Nat) (l0_0 : List T) (n0_1 : Int) (l0_2 : List T) (b0_3 : Bool) (n0_4 : Int) (n1 : Int) (n2 : Int) : funK c env lf 6 fi23 [.st [.sl l0_0, .i .i64 n0_1, .sl l0_2, .b b0_3, .i .i64 n0_4], .i .i64 n1, .i .i64 n2] = f23 c lf l0_0 n0_1 l0_2 b0_3 n0_4 n1 n2 := by
 refine (f23_raw c lf l0_0 n0_1 l0_2 b0_3 n0_4 n1 n2).trans ?_
 rfl
def f128_1_s (c : Orc) (lf : Nat) (x522 : List T) (x523 : Int) (x524 : Int) (x525 : List T) (L : Int → Option (List T)) (x527 : Int) : Option (List T) :=
 bif iLt x527 ((asL (T.cell (x522.getD x524.toNat T.u) 0)).length : Int) then
  bif inR x527 ((asL (T.cell (x522.getD x524.toNat T.u) 0)).length) then
  bif iLt 400 ((asL (T.cell ((asL (T.cell (x522.getD x524.toNat T.u) 0)).getD x527.toNat T.u) 1)).length : Int) then
   some [T.i .i64 0, T.b false]
  else
   bif !(asB (T.cell ((asL (T.cell (x522.getD x524.toNat T.u) 0)).getD x527.toNat T.u) 0)) then
    bif iLt 0 ((asL (T.cell ((asL (T.cell (x522.getD x524.toNat T.u) 0)).getD x527.toNat T.u) 1)).length : Int) then
     some [T.i .i64 0, T.b false]
    else
     bif iLt 0 x527 then
      bif asB (T.cell ((asL (T.cell (x522.getD x524.toNat T.u) 0)).getD x527.toNat T.u) 0) then
       bif inR (IntKind.wrap .i64 (x527 - 1)) ((asL (T.cell (x522.getD x524.toNat T.u) 0)).length) then
       bif !(asB (T.cell ((asL (T.cell (x522.getD x524.toNat T.u) 0)).getD ((IntKind.wrap .i64 (x527 - 1)).toNat) T.u) 0)) then
        some [T.i .i64 0, T.b false]
       else
        L (IntKind.wrap .i64 (x527 + 1))
       else none
      else
       L (IntKind.wrap .i64 (x527 + 1))
     else
      L (IntKind.wrap .i64 (x527 + 1))
   else
    bif iLt 0 x527 then
     bif asB (T.cell ((asL (T.cell (x522.getD x524.toNat T.u) 0)).getD x527.toNat T.u) 0) then
      bif inR (IntKind.wrap .i64 (x527 - 1)) ((asL (T.cell (x522.getD x524.toNat T.u) 0)).length) then
      bif !(asB (T.cell ((asL (T.cell (x522.getD x524.toNat T.u) 0)).getD ((IntKind.wrap .i64 (x527 - 1)).toNat) T.u) 0)) then
       some [T.i .i64 0, T.b false]
      else
       L (IntKind.wrap .i64 (x527 + 1))
      else none
     else
      L (IntKind.wrap .i64 (x527 + 1))
    else
     L (IntKind.wrap .i64 (x527 + 1))
  else none
 else
  some [T.i .i64 1, T.sl x522, T.i .i64 x523, T.i .i64 x524, T.sl x525]
def f128_1_c (x522 : List T) (x523 : Int) (x524 : Int) (x525 : List T) (x527 : Int) : CSt := ⟨[.bp 1 0, .bp 2 0, .ro 0 true [.sl true [.b, .sl false [.i .u8]], .i .i64, .b] x522, .i .i64 x523, .i .i64 x524, .ro 0 true [.b, .sl false [.i .u8]] (asL (T.cell (x522.getD x524.toNat T.u) 0)), .i .i64 ((asL (T.cell (x522.getD x524.toNat T.u) 0)).length : Int), .i .i64 x527], [.dead, .box [.ro 0 true [.sl true [.b, .sl false [.i .u8]], .i .i64, .b] x525], .box [.ro 0 true [.b, .sl false [.i .u8]] (asL (T.cell (x522.getD x524.toNat T.u) 0)), .i .i64 (asI (T.cell (x522.getD x524.toNat T.u) 1)), .b (asB (T.cell (x522.getD x524.toNat T.u) 2))]]⟩
theorem f128_1_round (c : Orc) (lf : Nat) (x522 : List T) (x523 : Int) (x524 : Int) (x525 : List T) (L : CSt → Option (List T)) (x527 : Int) :
  roundK c env lf 6 fi128 1 7 [] [1, 4, 8, 9, 10, 25, 26, 27] (x128_7_0) L (f128_1_c x522 x523 x524 x525 x527) = f128_1_s c lf x522 x523 x524 x525 (fun x527 => L (f128_1_c x522 x523 x524 x525 x527)) x527 := by kernel_rfl
def f128_1 (c : Orc) (lf : Nat) (x522 : List T) (x523 : Int) (x524 : Int) (x525 : List T) : Nat → Int → Option (List T)
 | 0 => fun _ => none
 | n + 1 => fun x527 => f128_1_s c lf x522 x523 x524 x525 (f128_1 c lf x522 x523 x524 x525 n) x527
theorem f128_1_u (c : Orc) (lf : Nat) (x522 : List T) (x523 : Int) (x524 : Int) (x525 : List T) (n : Nat) (x527 : Int) : f128_1 c lf x522 x523 x524 x525 (n + 1) x527 = f128_1_s c lf x522 x523 x524 x525 (f128_1 c lf x522 x523 x524 x525 n) x527 := rfl
theorem f128_1_eq (c : Orc) (lf : Nat) (x522 : List T) (x523 : Int) (x524 : Int) (x525 : List T) (n : Nat) (x527 : Int) :
  lpK c env lf 6 fi128 1 7 [] [1, 4, 8, 9, 10, 25, 26, 27] (x128_7_0) n (f128_1_c x522 x523 x524 x525 x527) = f128_1 c lf x522 x523 x524 x525 n x527 := by
 induction n generalizing x527 with
 | zero => rfl
 | succ n ih =>
  refine (f128_1_round c lf x522 x523 x524 x525 _ x527).trans ?_
  have e : (fun x527 => lpK c env lf 6 fi128 1 7 [] [1, 4, 8, 9, 10, 25, 26, 27] (x128_7_0) n (f128_1_c x522 x523 x524 x525 x527)) = f128_1 c lf x522 x523 x524 x525 n := by funext x527; exact ih x527
  show f128_1_s c lf x522 x523 x524 x525 (fun x527 => lpK c env lf 6 fi128 1 7 [] [1, 4, 8, 9, 10, 25, 26, 27] (x128_7_0) n (f128_1_c x522 x523 x524 x525 x527)) x527 = _
  rw [e]; rfl
def f128_0_s (c : Orc) (lf : Nat) (L : List T → Int → Int → List T → Option (List T)) (lp0 : List T → Int → Int → List T → Int → Option (List T)) (x522 : List T) (x523 : Int) (x524 : Int) (x525 : List T) : Option (List T) :=
 bif iLt x524 x523 then
  bif inR x524 x522.length then
  bif ((asL (T.cell (x522.getD x524.toNat T.u) 0)).length : Int) != 8 then
   some [T.i .i64 0, T.b false]
  else
   (c 75 [T.i .i64 (asI (T.cell (x522.getD x524.toNat T.u) 1)), T.i .i64 0, T.i .i64 100000]).bind fun r526 =>
   bif !(asB (nth r526 0)) then
    some [T.i .i64 0, T.b false]
   else
    (lp0 x522 x523 x524 x525 0).bind fun r528 =>
    bif asI (nth r528 0) == 0 then
     some [T.i .i64 0, T.b (asB (nth r528 1))]
    else
     L (asL (nth r528 1)) (asI (nth r528 2)) (IntKind.wrap .i64 ((asI (nth r528 3)) + 1)) (asL (nth r528 4))
  else none
 else
  some [T.i .i64 1, T.sl x525]
def f128_0_c (x522 : List T) (x523 : Int) (x524 : Int) (x525 : List T) : CSt := ⟨[.bp 1 0, .ro 0 true [.sl true [.b, .sl false [.i .u8]], .i .i64, .b] x522, .i .i64 x523, .i .i64 x524], [.dead, .box [.ro 0 true [.sl true [.b, .sl false [.i .u8]], .i .i64, .b] x525]]⟩
theorem f128_0_round (c : Orc) (lf : Nat) (L : CSt → Option (List T)) (x522 : List T) (x523 : Int) (x524 : Int) (x525 : List T) :
  roundK c env lf 6 fi128 1 2 [] [1, 8, 9, 10] (x128_2_0) L (f128_0_c x522 x523 x524 x525) = f128_0_s c lf (fun x522 x523 x524 x525 => L (f128_0_c x522 x523 x524 x525)) (fun (x522 : List T) (x523 : Int) (x524 : Int) (x525 : List T) (x527 : Int) => lpK c env lf 6 fi128 1 7 [] [1, 4, 8, 9, 10, 25, 26, 27] (x128_7_0) lf (f128_1_c x522 x523 x524 x525 x527)) x522 x523 x524 x525 := by kernel_rfl
def f128_0 (c : Orc) (lf : Nat) : Nat → List T → Int → Int → List T → Option (List T)
 | 0 => fun _ _ _ _ => none
 | n + 1 => fun x522 x523 x524 x525 => f128_0_s c lf (f128_0 c lf n) (fun (x522 : List T) (x523 : Int) (x524 : Int) (x525 : List T) (x527 : Int) => f128_1 c lf x522 x523 x524 x525 lf x527) x522 x523 x524 x525
theorem f128_0_u (c : Orc) (lf : Nat) (n : Nat) (x522 : List T) (x523 : Int) (x524 : Int) (x525 : List T) : f128_0 c lf (n + 1) x522 x523 x524 x525 = f128_0_s c lf (f128_0 c lf n) (fun (x522 : List T) (x523 : Int) (x524 : Int) (x525 : List T) (x527 : Int) => f128_1 c lf x522 x523 x524 x525 lf x527) x522 x523 x524 x525 := rfl
theorem f128_0_eq (c : Orc) (lf : Nat) (n : Nat) (x522 : List T) (x523 : Int) (x524 : Int) (x525 : List T) :
  lpK c env lf 6 fi128 1 2 [] [1, 8, 9, 10] (x128_2_0) n (f128_0_c x522 x523 x524 x525) = f128_0 c lf n x522 x523 x524 x525 := by
 induction n generalizing x522 x523 x524 x525 with
 | zero => rfl
 | succ n ih =>
  refine (f128_0_round c lf _ x522 x523 x524 x525).trans ?_
  have e : (fun x522 x523 x524 x525 => lpK c env lf 6 fi128 1 2 [] [1, 8, 9, 10] (x128_2_0) n (f128_0_c x522 x523 x524 x525)) = f128_0 c lf n := by funext x522 x523 x524 x525; exact ih x522 x523 x524 x525
  have e0 : (fun (x522 : List T) (x523 : Int) (x524 : Int) (x525 : List T) (x527 : Int) => lpK c env lf 6 fi128 1 7 [] [1, 4, 8, 9, 10, 25, 26, 27] (x128_7_0) lf (f128_1_c x522 x523 x524 x525 x527)) = (fun (x522 : List T) (x523 : Int) (x524 : Int) (x525 : List T) (x527 : Int) => f128_1 c lf x522 x523 x524 x525 lf x527) := by funext x522 x523 x524 x525 x527; exact f128_1_eq c lf x522 x523 x524 x525 lf x527
  show f128_0_s c lf (fun x522 x523 x524 x525 => lpK c env lf 6 fi128 1 2 [] [1, 8, 9, 10] (x128_2_0) n (f128_0_c x522 x523 x524 x525)) (fun (x522 : List T) (x523 : Int) (x524 : Int) (x525 : List T) (x527 : Int) => lpK c env lf 6 fi128 1 7 [] [1, 4, 8, 9, 10, 25, 26, 27] (x128_7_0) lf (f128_1_c x522 x523 x524 x525 x527)) x522 x523 x524 x525 = _
  rw [e, e0]; rfl
def f128_t (c : Orc) (lf : Nat) (lp0 : List T → Int → Int → List T → Option (List T)) (l0_0 : List T) : Option (List T) :=
 (lp0 l0_0 (l0_0.length : Int) 0 l0_0).bind fun r529 =>
 bif asI (nth r529 0) == 0 then
  some [T.b (asB (nth r529 1))]
 else
  (c 75 [T.i .i64 ((asL (nth r529 1)).length : Int), T.i .i64 3, T.i .i64 24]).bind fun r530 =>
  some [T.b (asB (nth r530 0))]
def f128 (c : Orc) (lf : Nat) (l0_0 : List T) : Option (List T) := f128_t c lf (fun (x522 : List T) (x523 : Int) (x524 : Int) (x525 : List T) => f128_0 c lf lf x522 x523 x524 x525) l0_0
theorem f128_raw (c : Orc) (lf : Nat) (l0_0 : List T) : funK c env lf 6 fi128 [.st [.sl l0_0]] = f128_t c lf (fun (x522 : List T) (x523 : Int) (x524 : Int) (x525 : List T) => lpK c env lf 6 fi128 1 2 [] [1, 8, 9, 10] (x128_2_0) lf (f128_0_c x522 x523 x524 x525)) l0_0 := by kernel_rfl
theorem f128_eq (c : Orc) (lf : Nat) (l0_0 : List T) : funK c env lf 6 fi128 [.st [.sl l0_0]] = f128 c lf l0_0 := by
 refine (f128_raw c lf l0_0).trans ?_
 have e0 : (fun (x522 : List T) (x523 : Int) (x524 : Int) (x525 : List T) => lpK c env lf 6 fi128 1 2 [] [1, 8, 9, 10] (x128_2_0) lf (f128_0_c x522 x523 x524 x525)) = (fun (x522 : List T) (x523 : Int) (x524 : Int) (x525 : List T) => f128_0 c lf lf x522 x523 x524 x525) := by funext x522 x523 x524 x525; exact f128_0_eq c lf lf x522 x523 x524 x525
 rw [e0]; rfl
def f74_0_s (c : Orc) (lf : Nat) (b0_3 : Bool) (l0_0 : List T) (l0_2 : List T) (n0_1 : Int) (L : Int → Option (List T)) (x544 : Int) : Option (List T) :=
 bif iLt x544 (l0_2.length : Int) then
  bif inR x544 l0_2.length then
  (c 75 [T.i .i64 (asI (T.cell (l0_2.getD x544.toNat T.u) 0)), T.i .i64 0, T.i .i64 100000]).bind fun r545 =>
  bif !(asB (nth r545 0)) then
   some [T.i .i64 0, T.b false]
  else
   (c 75 [T.i .i64 (asI (T.cell (l0_2.getD x544.toNat T.u) 1)), T.i .i64 1, T.i .i64 2]).bind fun r546 =>
   bif !(asB (nth r546 0)) then
    some [T.i .i64 0, T.b false]
   else
    (c 75 [T.i .i64 (asI (T.cell (l0_2.getD x544.toNat T.u) 2)), T.i .i64 0, T.i .i64 400]).bind fun r547 =>
    bif !(asB (nth r547 0)) then
     some [T.i .i64 0, T.b false]
    else
     bif iLt 0 x544 then
      bif inR (IntKind.wrap .i64 (x544 - 1)) l0_2.length then
      bif iLe (asI (T.cell (l0_2.getD x544.toNat T.u) 0)) (asI (T.cell (l0_2.getD ((IntKind.wrap .i64 (x544 - 1)).toNat) T.u) 0)) then
       some [T.i .i64 0, T.b false]
      else
       L (IntKind.wrap .i64 (x544 + 1))
      else none
     else
      L (IntKind.wrap .i64 (x544 + 1))
  else none
 else
  some [T.i .i64 1, T.sl l0_0, T.i .i64 n0_1, T.sl l0_2, T.b b0_3]
def f74_0_c (b0_3 : Bool) (l0_0 : List T) (l0_2 : List T) (n0_1 : Int) (x544 : Int) : CSt := ⟨[.bp 4 0, .ro 0 true [.i .i64, .i .i64, .i .i64] l0_2, .i .i64 (l0_2.length : Int), .i .i64 x544], [.dead, .dead, .dead, .dead, .box [.ro 0 true [.sl true [.b, .sl false [.i .u8]], .i .i64, .b] l0_0, .i .i64 n0_1, .ro 0 true [.i .i64, .i .i64, .i .i64] l0_2, .b b0_3]]⟩
theorem f74_0_round (c : Orc) (lf : Nat) (b0_3 : Bool) (l0_0 : List T) (l0_2 : List T) (n0_1 : Int) (L : CSt → Option (List T)) (x544 : Int) :
  roundK c env lf 6 fi74 4 2 [] [1, 6, 7, 8] (x74_2_0) L (f74_0_c b0_3 l0_0 l0_2 n0_1 x544) = f74_0_s c lf b0_3 l0_0 l0_2 n0_1 (fun x544 => L (f74_0_c b0_3 l0_0 l0_2 n0_1 x544)) x544 := by kernel_rfl
def f74_0 (c : Orc) (lf : Nat) (b0_3 : Bool) (l0_0 : List T) (l0_2 : List T) (n0_1 : Int) : Nat → Int → Option (List T)
 | 0 => fun _ => none
 | n + 1 => fun x544 => f74_0_s c lf b0_3 l0_0 l0_2 n0_1 (f74_0 c lf b0_3 l0_0 l0_2 n0_1 n) x544
theorem f74_0_u (c : Orc) (lf : Nat) (b0_3 : Bool) (l0_0 : List T) (l0_2 : List T) (n0_1 : Int) (n : Nat) (x544 : Int) : f74_0 c lf b0_3 l0_0 l0_2 n0_1 (n + 1) x544 = f74_0_s c lf b0_3 l0_0 l0_2 n0_1 (f74_0 c lf b0_3 l0_0 l0_2 n0_1 n) x544 := rfl
theorem f74_0_eq (c : Orc) (lf : Nat) (b0_3 : Bool) (l0_0 : List T) (l0_2 : List T) (n0_1 : Int) (n : Nat) (x544 : Int) :
  lpK c env lf 6 fi74 4 2 [] [1, 6, 7, 8] (x74_2_0) n (f74_0_c b0_3 l0_0 l0_2 n0_1 x544) = f74_0 c lf b0_3 l0_0 l0_2 n0_1 n x544 := by
 induction n generalizing x544 with
 | zero => rfl
 | succ n ih =>
  refine (f74_0_round c lf b0_3 l0_0 l0_2 n0_1 _ x544).trans ?_
  have e : (fun x544 => lpK c env lf 6 fi74 4 2 [] [1, 6, 7, 8] (x74_2_0) n (f74_0_c b0_3 l0_0 l0_2 n0_1 x544)) = f74_0 c lf b0_3 l0_0 l0_2 n0_1 n := by funext x544; exact ih x544
  show f74_0_s c lf b0_3 l0_0 l0_2 n0_1 (fun x544 => lpK c env lf 6 fi74 4 2 [] [1, 6, 7, 8] (x74_2_0) n (f74_0_c b0_3 l0_0 l0_2 n0_1 x544)) x544 = _
  rw [e]; rfl
def f74_t (c : Orc) (lf : Nat) (lp0 : Bool → List T → List T → Int → Int → Option (List T)) (l0_0 : List T) (n0_1 : Int) (l0_2 : List T) (b0_3 : Bool) : Option (List T) :=
 (lp0 b0_3 l0_0 l0_2 n0_1 0).bind fun r548 =>
 bif asI (nth r548 0) == 0 then
  some [T.b (asB (nth r548 1))]
 else
  (c 128 [T.st [T.sl (asL (nth r548 1))]]).bind fun r549 =>
  bif asB (nth r549 0) then
   (c 75 [T.i .i64 (asI (nth r548 2)), T.i .i64 0, T.i .i64 100000]).bind fun r550 =>
   bif asB (nth r550 0) then
    some [T.b (iLe ((asL (nth r548 3)).length : Int) 20)]
   else
    some [T.b false]
  else
   some [T.b false]
def f74 (c : Orc) (lf : Nat) (l0_0 : List T) (n0_1 : Int) (l0_2 : List T) (b0_3 : Bool) : Option (List T) := f74_t c lf (fun (b0_3 : Bool) (l0_0 : List T) (l0_2 : List T) (n0_1 : Int) (x544 : Int) => f74_0 c lf b0_3 l0_0 l0_2 n0_1 lf x544) l0_0 n0_1 l0_2 b0_3
theorem f74_raw (c : Orc) (lf : Nat) (l0_0 : List T) (n0_1 : Int) (l0_2 : List T) (b0_3 : Bool) : funK c env lf 6 fi74 [.st [.sl l0_0, .i .i64 n0_1, .sl l0_2, .b b0_3]] = f74_t c lf (fun (b0_3 : Bool) (l0_0 : List T) (l0_2 : List T) (n0_1 : Int) (x544 : Int) => lpK c env lf 6 fi74 4 2 [] [1, 6, 7, 8] (x74_2_0) lf (f74_0_c b0_3 l0_0 l0_2 n0_1 x544)) l0_0 n0_1 l0_2 b0_3 := by kernel_rfl
theorem f74_eq (c : Orc) (lf : Nat) (l0_0 : List T) (n0_1 : Int) (l0_2 : List T) (b0_3 : Bool) : funK c env lf 6 fi74 [.st [.sl l0_0, .i .i64 n0_1, .sl l0_2, .b b0_3]] = f74 c lf l0_0 n0_1 l0_2 b0_3 := by
 refine (f74_raw c lf l0_0 n0_1 l0_2 b0_3).trans ?_
 have e0 : (fun (b0_3 : Bool) (l0_0 : List T) (l0_2 : List T) (n0_1 : Int) (x544 : Int) => lpK c env lf 6 fi74 4 2 [] [1, 6, 7, 8] (x74_2_0) lf (f74_0_c b0_3 l0_0 l0_2 n0_1 x544)) = (fun (b0_3 : Bool) (l0_0 : List T) (l0_2 : List T) (n0_1 : Int) (x544 : Int) => f74_0 c lf b0_3 l0_0 l0_2 n0_1 lf x544) := by funext b0_3 l0_0 l0_2 n0_1 x544; exact f74_0_eq c lf b0_3 l0_0 l0_2 n0_1 lf x544
 rw [e0]; rfl
def f21_0_s (c : Orc) (lf : Nat) (b0_3 : Bool) (l0_0 : List T) (l0_2 : List T) (n0_1 : Int) (n0_4 : Int) (L : Int → Bool → Option (List T)) (x565 : Int) (x566 : Bool) : Option (List T) :=
 bif iLt x565 (IntKind.wrap .i64 ((l0_0.length : Int) * 8)) then
  (c 81 [T.st [T.sl l0_0, T.i .i64 n0_1, T.sl l0_2, T.b b0_3, T.i .i64 n0_4], T.i .i64 x565]).bind fun r567 =>
  bif asB (nth r567 1) then
   bif x566 then
    L (IntKind.wrap .i64 (x565 + 1)) (iLt (asI (T.cell (nth r567 0) 1)) n0_4)
   else
    L (IntKind.wrap .i64 (x565 + 1)) false
  else
   L (IntKind.wrap .i64 (x565 + 1)) x566
 else
  some [T.i .i64 0, T.b x566, T.sl l0_0, T.i .i64 n0_1, T.sl l0_2, T.b b0_3, T.i .i64 n0_4]
def f21_0_c (b0_3 : Bool) (l0_0 : List T) (l0_2 : List T) (n0_1 : Int) (n0_4 : Int) (x565 : Int) (x566 : Bool) : CSt := ⟨[.fn 77 [.bp 0 0, .bp 1 0], .bp 2 0, .i .i64 (IntKind.wrap .i64 ((l0_0.length : Int) * 8)), .i .i64 x565], [.box [.b x566], .box [.ro 0 true [.sl true [.b, .sl false [.i .u8]], .i .i64, .b] l0_0, .i .i64 n0_1, .ro 0 true [.i .i64, .i .i64, .i .i64] l0_2, .b b0_3, .i .i64 n0_4], .box [.ro 0 true [.sl true [.b, .sl false [.i .u8]], .i .i64, .b] l0_0, .i .i64 n0_1, .ro 0 true [.i .i64, .i .i64, .i .i64] l0_2, .b b0_3, .i .i64 n0_4]]⟩
theorem f21_0_round (c : Orc) (lf : Nat) (b0_3 : Bool) (l0_0 : List T) (l0_2 : List T) (n0_1 : Int) (n0_4 : Int) (L : CSt → Option (List T)) (x565 : Int) (x566 : Bool) :
  roundK c env lf 5 fi76 2 2 [] [1, 2, 12, 13] (x76_2_0) L (f21_0_c b0_3 l0_0 l0_2 n0_1 n0_4 x565 x566) = f21_0_s c lf b0_3 l0_0 l0_2 n0_1 n0_4 (fun x565 x566 => L (f21_0_c b0_3 l0_0 l0_2 n0_1 n0_4 x565 x566)) x565 x566 := by kernel_rfl
def f21_0 (c : Orc) (lf : Nat) (b0_3 : Bool) (l0_0 : List T) (l0_2 : List T) (n0_1 : Int) (n0_4 : Int) : Nat → Int → Bool → Option (List T)
 | 0 => fun _ _ => none
 | n + 1 => fun x565 x566 => f21_0_s c lf b0_3 l0_0 l0_2 n0_1 n0_4 (f21_0 c lf b0_3 l0_0 l0_2 n0_1 n0_4 n) x565 x566
theorem f21_0_u (c : Orc) (lf : Nat) (b0_3 : Bool) (l0_0 : List T) (l0_2 : List T) (n0_1 : Int) (n0_4 : Int) (n : Nat) (x565 : Int) (x566 : Bool) : f21_0 c lf b0_3 l0_0 l0_2 n0_1 n0_4 (n + 1) x565 x566 = f21_0_s c lf b0_3 l0_0 l0_2 n0_1 n0_4 (f21_0 c lf b0_3 l0_0 l0_2 n0_1 n0_4 n) x565 x566 := rfl
theorem f21_0_eq (c : Orc) (lf : Nat) (b0_3 : Bool) (l0_0 : List T) (l0_2 : List T) (n0_1 : Int) (n0_4 : Int) (n : Nat) (x565 : Int) (x566 : Bool) :
  lpK c env lf 5 fi76 2 2 [] [1, 2, 12, 13] (x76_2_0) n (f21_0_c b0_3 l0_0 l0_2 n0_1 n0_4 x565 x566) = f21_0 c lf b0_3 l0_0 l0_2 n0_1 n0_4 n x565 x566 := by
 induction n generalizing x565 x566 with
 | zero => rfl
 | succ n ih =>
  refine (f21_0_round c lf b0_3 l0_0 l0_2 n0_1 n0_4 _ x565 x566).trans ?_
  have e : (fun x565 x566 => lpK c env lf 5 fi76 2 2 [] [1, 2, 12, 13] (x76_2_0) n (f21_0_c b0_3 l0_0 l0_2 n0_1 n0_4 x565 x566)) = f21_0 c lf b0_3 l0_0 l0_2 n0_1 n0_4 n := by funext x565 x566; exact ih x565 x566
  show f21_0_s c lf b0_3 l0_0 l0_2 n0_1 n0_4 (fun x565 x566 => lpK c env lf 5 fi76 2 2 [] [1, 2, 12, 13] (x76_2_0) n (f21_0_c b0_3 l0_0 l0_2 n0_1 n0_4 x565 x566)) x565 x566 = _
  rw [e]; rfl
def f21_1_s (c : Orc) (lf : Nat) (b0_3 : Bool) (l0_0 : List T) (l0_2 : List T) (n0_1 : Int) (n0_4 : Int) (L : Int → Option (List T)) (x570 : Int) : Option (List T) :=
 bif iLt x570 (IntKind.wrap .i64 ((l0_0.length : Int) * 8)) then
  (c 81 [T.st [T.sl l0_0, T.i .i64 n0_1, T.sl l0_2, T.b b0_3, T.i .i64 n0_4], T.i .i64 x570]).bind fun r571 =>
  bif asB (nth r571 1) then
   L (IntKind.wrap .i64 (x570 + 1))
  else
   L (IntKind.wrap .i64 (x570 + 1))
 else
  some [T.i .i64 0, T.b false, T.sl l0_0, T.i .i64 n0_1, T.sl l0_2, T.b b0_3, T.i .i64 n0_4]
def f21_1_c (b0_3 : Bool) (l0_0 : List T) (l0_2 : List T) (n0_1 : Int) (n0_4 : Int) (x570 : Int) : CSt := ⟨[.fn 77 [.bp 0 0, .bp 1 0], .bp 2 0, .i .i64 (IntKind.wrap .i64 ((l0_0.length : Int) * 8)), .i .i64 x570], [.box [.b false], .box [.ro 0 true [.sl true [.b, .sl false [.i .u8]], .i .i64, .b] l0_0, .i .i64 n0_1, .ro 0 true [.i .i64, .i .i64, .i .i64] l0_2, .b b0_3, .i .i64 n0_4], .box [.ro 0 true [.sl true [.b, .sl false [.i .u8]], .i .i64, .b] l0_0, .i .i64 n0_1, .ro 0 true [.i .i64, .i .i64, .i .i64] l0_2, .b b0_3, .i .i64 n0_4]]⟩
theorem f21_1_round (c : Orc) (lf : Nat) (b0_3 : Bool) (l0_0 : List T) (l0_2 : List T) (n0_1 : Int) (n0_4 : Int) (L : CSt → Option (List T)) (x570 : Int) :
  roundK c env lf 5 fi76 2 2 [] [1, 2, 12, 13] (x76_2_0) L (f21_1_c b0_3 l0_0 l0_2 n0_1 n0_4 x570) = f21_1_s c lf b0_3 l0_0 l0_2 n0_1 n0_4 (fun x570 => L (f21_1_c b0_3 l0_0 l0_2 n0_1 n0_4 x570)) x570 := by kernel_rfl
def f21_1 (c : Orc) (lf : Nat) (b0_3 : Bool) (l0_0 : List T) (l0_2 : List T) (n0_1 : Int) (n0_4 : Int) : Nat → Int → Option (List T)
 | 0 => fun _ => none
 | n + 1 => fun x570 => f21_1_s c lf b0_3 l0_0 l0_2 n0_1 n0_4 (f21_1 c lf b0_3 l0_0 l0_2 n0_1 n0_4 n) x570
theorem f21_1_u (c : Orc) (lf : Nat) (b0_3 : Bool) (l0_0 : List T) (l0_2 : List T) (n0_1 : Int) (n0_4 : Int) (n : Nat) (x570 : Int) : f21_1 c lf b0_3 l0_0 l0_2 n0_1 n0_4 (n + 1) x570 = f21_1_s c lf b0_3 l0_0 l0_2 n0_1 n0_4 (f21_1 c lf b0_3 l0_0 l0_2 n0_1 n0_4 n) x570 := rfl
theorem f21_1_eq (c : Orc) (lf : Nat) (b0_3 : Bool) (l0_0 : List T) (l0_2 : List T) (n0_1 : Int) (n0_4 : Int) (n : Nat) (x570 : Int) :
  lpK c env lf 5 fi76 2 2 [] [1, 2, 12, 13] (x76_2_0) n (f21_1_c b0_3 l0_0 l0_2 n0_1 n0_4 x570) = f21_1 c lf b0_3 l0_0 l0_2 n0_1 n0_4 n x570 := by
 induction n generalizing x570 with
 | zero => rfl
 | succ n ih =>
  refine (f21_1_round c lf b0_3 l0_0 l0_2 n0_1 n0_4 _ x570).trans ?_
  have e : (fun x570 => lpK c env lf 5 fi76 2 2 [] [1, 2, 12, 13] (x76_2_0) n (f21_1_c b0_3 l0_0 l0_2 n0_1 n0_4 x570)) = f21_1 c lf b0_3 l0_0 l0_2 n0_1 n0_4 n := by funext x570; exact ih x570
  show f21_1_s c lf b0_3 l0_0 l0_2 n0_1 n0_4 (fun x570 => lpK c env lf 5 fi76 2 2 [] [1, 2, 12, 13] (x76_2_0) n (f21_1_c b0_3 l0_0 l0_2 n0_1 n0_4 x570)) x570 = _
  rw [e]; rfl
def f21_t (c : Orc) (lf : Nat) (lp0 : Bool → List T → List T → Int → Int → Int → Bool → Option (List T)) (lp1 : Bool → List T → List T → Int → Int → Int → Option (List T)) (l0_0 : List T) (n0_1 : Int) (l0_2 : List T) (b0_3 : Bool) (n0_4 : Int) : Option (List T) :=
 (c 74 [T.st [T.sl l0_0, T.i .i64 n0_1, T.sl l0_2, T.b b0_3]]).bind fun r562 =>
 bif asB (nth r562 0) then
  (c 75 [T.i .i64 n0_4, T.i .i64 0, T.i .i64 1000000]).bind fun r563 =>
  (lp0 b0_3 l0_0 l0_2 n0_1 n0_4 0 (asB (nth r563 0))).bind fun r568 =>
  some [T.b (asB (nth r568 1))]
 else
  (lp1 b0_3 l0_0 l0_2 n0_1 n0_4 0).bind fun r572 =>
  some [T.b (asB (nth r572 1))]
def f21 (c : Orc) (lf : Nat) (l0_0 : List T) (n0_1 : Int) (l0_2 : List T) (b0_3 : Bool) (n0_4 : Int) : Option (List T) := f21_t c lf (fun (b0_3 : Bool) (l0_0 : List T) (l0_2 : List T) (n0_1 : Int) (n0_4 : Int) (x565 : Int) (x566 : Bool) => f21_0 c lf b0_3 l0_0 l0_2 n0_1 n0_4 lf x565 x566) (fun (b0_3 : Bool) (l0_0 : List T) (l0_2 : List T) (n0_1 : Int) (n0_4 : Int) (x570 : Int) => f21_1 c lf b0_3 l0_0 l0_2 n0_1 n0_4 lf x570) l0_0 n0_1 l0_2 b0_3 n0_4
theorem f21_raw (c : Orc) (lf : Nat) (l0_0 : List T) (n0_1 : Int) (l0_2 : List T) (b0_3 : Bool) (n0_4 : Int) : funK c env lf 6 fi21 [.st [.sl l0_0, .i .i64 n0_1, .sl l0_2, .b b0_3, .i .i64 n0_4]] = f21_t c lf (fun (b0_3 : Bool) (l0_0 : List T) (l0_2 : List T) (n0_1 : Int) (n0_4 : Int) (x565 : Int) (x566 : Bool) => lpK c env lf 5 fi76 2 2 [] [1, 2, 12, 13] (x76_2_0) lf (f21_0_c b0_3 l0_0 l0_2 n0_1 n0_4 x565 x566)) (fun (b0_3 : Bool) (l0_0 : List T) (l0_2 : List T) (n0_1 : Int) (n0_4 : Int) (x570 : Int) => lpK c env lf 5 fi76 2 2 [] [1, 2, 12, 13] (x76_2_0) lf (f21_1_c b0_3 l0_0 l0_2 n0_1 n0_4 x570)) l0_0 n0_1 l0_2 b0_3 n0_4 := by kernel_rfl
theorem f21_eq (c : Orc) (lf : Nat) (l0_0 : List T) (n0_1 : Int) (l0_2 : List T) (b0_3 : Bool) (n0_4 : Int) : funK c env lf 6 fi21 [.st [.sl l0_0, .i .i64 n0_1, .sl l0_2, .b b0_3, .i .i64 n0_4]] = f21 c lf l0_0 n0_1 l0_2 b0_3 n0_4 := by
 refine (f21_raw c lf l0_0 n0_1 l0_2 b0_3 n0_4).trans ?_
 have e0 : (fun (b0_3 : Bool) (l0_0 : List T) (l0_2 : List T) (n0_1 : Int) (n0_4 : Int) (x565 : Int) (x566 : Bool) => lpK c env lf 5 fi76 2 2 [] [1, 2, 12, 13] (x76_2_0) lf (f21_0_c b0_3 l0_0 l0_2 n0_1 n0_4 x565 x566)) = (fun (b0_3 : Bool) (l0_0 : List T) (l0_2 : List T) (n0_1 : Int) (n0_4 : Int) (x565 : Int) (x566 : Bool) => f21_0 c lf b0_3 l0_0 l0_2 n0_1 n0_4 lf x565 x566) := by funext b0_3 l0_0 l0_2 n0_1 n0_4 x565 x566; exact f21_0_eq c lf b0_3 l0_0 l0_2 n0_1 n0_4 lf x565 x566
 have e1 : (fun (b0_3 : Bool) (l0_0 : List T) (l0_2 : List T) (n0_1 : Int) (n0_4 : Int) (x570 : Int) => lpK c env lf 5 fi76 2 2 [] [1, 2, 12, 13] (x76_2_0) lf (f21_1_c b0_3 l0_0 l0_2 n0_1 n0_4 x570)) = (fun (b0_3 : Bool) (l0_0 : List T) (l0_2 : List T) (n0_1 : Int) (n0_4 : Int) (x570 : Int) => f21_1 c lf b0_3 l0_0 l0_2 n0_1 n0_4 lf x570) := by funext b0_3 l0_0 l0_2 n0_1 n0_4 x570; exact f21_1_eq c lf b0_3 l0_0 l0_2 n0_1 n0_4 lf x570
 rw [e0, e1]; rfl
def f72_1_s (c : Orc) (lf : Nat) (x593 : Int) (x594 : List T) (L : Int → Int → Option (List T)) (x596 : Int) (x597 : Int) : Option (List T) :=
 bif inR x593 x594.length then
 bif iLt x597 ((asL (T.cell (x594.getD x593.toNat T.u) 0)).length : Int) then
  bif inR x593 x594.length then
  bif inR x597 ((asL (T.cell (x594.getD x593.toNat T.u) 0)).length) then
  (c 80 [T.sl (asL (T.cell ((asL (T.cell (x594.getD x593.toNat T.u) 0)).getD x597.toNat T.u) 1))]).bind fun r598 =>
  bif asB (nth r598 1) then
   bif iLe x596 (asI (T.cell (nth r598 0) 1)) then
    L (IntKind.wrap .i64 ((asI (T.cell (nth r598 0) 1)) + 1)) (IntKind.wrap .i64 (x597 + 1))
   else
    L x596 (IntKind.wrap .i64 (x597 + 1))
  else
   L x596 (IntKind.wrap .i64 (x597 + 1))
  else none
  else none
 else
  some [T.i .i64 0, T.i .i64 x596, T.i .i64 x593, T.sl x594]
 else none
def f72_1_c (x593 : Int) (x594 : List T) (x596 : Int) (x597 : Int) : CSt := ⟨[.bp 1 0, .i .i64 x596, .i .i64 x593, .i .i64 x597], [.dead, .box [.ro 0 true [.sl true [.b, .sl false [.i .u8]], .i .i64, .b] x594]]⟩
theorem f72_1_round (c : Orc) (lf : Nat) (x593 : Int) (x594 : List T) (L : CSt → Option (List T)) (x596 : Int) (x597 : Int) :
  roundK c env lf 6 fi72 1 6 [] [1, 3, 4, 5] (x72_6_0) L (f72_1_c x593 x594 x596 x597) = f72_1_s c lf x593 x594 (fun x596 x597 => L (f72_1_c x593 x594 x596 x597)) x596 x597 := by kernel_rfl
def f72_1 (c : Orc) (lf : Nat) (x593 : Int) (x594 : List T) : Nat → Int → Int → Option (List T)
 | 0 => fun _ _ => none
 | n + 1 => fun x596 x597 => f72_1_s c lf x593 x594 (f72_1 c lf x593 x594 n) x596 x597
theorem f72_1_u (c : Orc) (lf : Nat) (x593 : Int) (x594 : List T) (n : Nat) (x596 : Int) (x597 : Int) : f72_1 c lf x593 x594 (n + 1) x596 x597 = f72_1_s c lf x593 x594 (f72_1 c lf x593 x594 n) x596 x597 := rfl
theorem f72_1_eq (c : Orc) (lf : Nat) (x593 : Int) (x594 : List T) (n : Nat) (x596 : Int) (x597 : Int) :
  lpK c env lf 6 fi72 1 6 [] [1, 3, 4, 5] (x72_6_0) n (f72_1_c x593 x594 x596 x597) = f72_1 c lf x593 x594 n x596 x597 := by
 induction n generalizing x596 x597 with
 | zero => rfl
 | succ n ih =>
  refine (f72_1_round c lf x593 x594 _ x596 x597).trans ?_
  have e : (fun x596 x597 => lpK c env lf 6 fi72 1 6 [] [1, 3, 4, 5] (x72_6_0) n (f72_1_c x593 x594 x596 x597)) = f72_1 c lf x593 x594 n := by funext x596 x597; exact ih x596 x597
  show f72_1_s c lf x593 x594 (fun x596 x597 => lpK c env lf 6 fi72 1 6 [] [1, 3, 4, 5] (x72_6_0) n (f72_1_c x593 x594 x596 x597)) x596 x597 = _
  rw [e]; rfl
def f72_0_s (c : Orc) (lf : Nat) (L : Int → Int → List T → Option (List T)) (lp0 : Int → List T → Int → Int → Option (List T)) (x592 : Int) (x593 : Int) (x594 : List T) : Option (List T) :=
 bif iLt x593 (x594.length : Int) then
  (lp0 x593 x594 x592 0).bind fun r599 =>
  L (asI (nth r599 1)) (IntKind.wrap .i64 ((asI (nth r599 2)) + 1)) (asL (nth r599 3))
 else
  some [T.i .i64 0, T.i .i64 x592]
def f72_0_c (x592 : Int) (x593 : Int) (x594 : List T) : CSt := ⟨[.bp 1 0, .i .i64 x592, .i .i64 x593], [.dead, .box [.ro 0 true [.sl true [.b, .sl false [.i .u8]], .i .i64, .b] x594]]⟩
theorem f72_0_round (c : Orc) (lf : Nat) (L : CSt → Option (List T)) (x592 : Int) (x593 : Int) (x594 : List T) :
  roundK c env lf 6 fi72 1 3 [] [1, 3, 4] (x72_3_0) L (f72_0_c x592 x593 x594) = f72_0_s c lf (fun x592 x593 x594 => L (f72_0_c x592 x593 x594)) (fun (x593 : Int) (x594 : List T) (x596 : Int) (x597 : Int) => lpK c env lf 6 fi72 1 6 [] [1, 3, 4, 5] (x72_6_0) lf (f72_1_c x593 x594 x596 x597)) x592 x593 x594 := by kernel_rfl
def f72_0 (c : Orc) (lf : Nat) : Nat → Int → Int → List T → Option (List T)
 | 0 => fun _ _ _ => none
 | n + 1 => fun x592 x593 x594 => f72_0_s c lf (f72_0 c lf n) (fun (x593 : Int) (x594 : List T) (x596 : Int) (x597 : Int) => f72_1 c lf x593 x594 lf x596 x597) x592 x593 x594
theorem f72_0_u (c : Orc) (lf : Nat) (n : Nat) (x592 : Int) (x593 : Int) (x594 : List T) : f72_0 c lf (n + 1) x592 x593 x594 = f72_0_s c lf (f72_0 c lf n) (fun (x593 : Int) (x594 : List T) (x596 : Int) (x597 : Int) => f72_1 c lf x593 x594 lf x596 x597) x592 x593 x594 := rfl
theorem f72_0_eq (c : Orc) (lf : Nat) (n : Nat) (x592 : Int) (x593 : Int) (x594 : List T) :
  lpK c env lf 6 fi72 1 3 [] [1, 3, 4] (x72_3_0) n (f72_0_c x592 x593 x594) = f72_0 c lf n x592 x593 x594 := by
 induction n generalizing x592 x593 x594 with
 | zero => rfl
 | succ n ih =>
  refine (f72_0_round c lf _ x592 x593 x594).trans ?_
  have e : (fun x592 x593 x594 => lpK c env lf 6 fi72 1 3 [] [1, 3, 4] (x72_3_0) n (f72_0_c x592 x593 x594)) = f72_0 c lf n := by funext x592 x593 x594; exact ih x592 x593 x594
  have e0 : (fun (x593 : Int) (x594 : List T) (x596 : Int) (x597 : Int) => lpK c env lf 6 fi72 1 6 [] [1, 3, 4, 5] (x72_6_0) lf (f72_1_c x593 x594 x596 x597)) = (fun (x593 : Int) (x594 : List T) (x596 : Int) (x597 : Int) => f72_1 c lf x593 x594 lf x596 x597) := by funext x593 x594 x596 x597; exact f72_1_eq c lf x593 x594 lf x596 x597
  show f72_0_s c lf (fun x592 x593 x594 => lpK c env lf 6 fi72 1 3 [] [1, 3, 4] (x72_3_0) n (f72_0_c x592 x593 x594)) (fun (x593 : Int) (x594 : List T) (x596 : Int) (x597 : Int) => lpK c env lf 6 fi72 1 6 [] [1, 3, 4, 5] (x72_6_0) lf (f72_1_c x593 x594 x596 x597)) x592 x593 x594 = _
  rw [e, e0]; rfl
def f72_t (c : Orc) (lf : Nat) (lp0 : Int → Int → List T → Option (List T)) (l0_0 : List T) : Option (List T) :=
 (lp0 0 0 l0_0).bind fun r600 =>
 some [T.i .i64 (asI (nth r600 1))]
def f72 (c : Orc) (lf : Nat) (l0_0 : List T) : Option (List T) := f72_t c lf (fun (x592 : Int) (x593 : Int) (x594 : List T) => f72_0 c lf lf x592 x593 x594) l0_0
theorem f72_raw (c : Orc) (lf : Nat) (l0_0 : List T) : funK c env lf 6 fi72 [.st [.sl l0_0]] = f72_t c lf (fun (x592 : Int) (x593 : Int) (x594 : List T) => lpK c env lf 6 fi72 1 3 [] [1, 3, 4] (x72_3_0) lf (f72_0_c x592 x593 x594)) l0_0 := by kernel_rfl
theorem f72_eq (c : Orc) (lf : Nat) (l0_0 : List T) : funK c env lf 6 fi72 [.st [.sl l0_0]] = f72 c lf l0_0 := by
 refine (f72_raw c lf l0_0).trans ?_
 have e0 : (fun (x592 : Int) (x593 : Int) (x594 : List T) => lpK c env lf 6 fi72 1 3 [] [1, 3, 4] (x72_3_0) lf (f72_0_c x592 x593 x594)) = (fun (x592 : Int) (x593 : Int) (x594 : List T) => f72_0 c lf lf x592 x593 x594) := by funext x592 x593 x594; exact f72_0_eq c lf lf x592 x593 x594
 rw [e0]; rfl
def f19_t (c : Orc) (lf : Nat) (l0_0 : List T) (n0_1 : Int) (l0_2 : List T) (b0_3 : Bool) (n0_4 : Int) : Option (List T) :=
 (c 70 [T.st [T.sl l0_0, T.i .i64 n0_1, T.sl l0_2, T.b b0_3]]).bind fun r601 =>
 bif asB (nth r601 0) then
  (c 71 [T.i .i64 n0_4, T.i .i64 0, T.i .i64 1000000]).bind fun r602 =>
  bif asB (nth r602 0) then
   (c 72 [T.st [T.sl l0_0]]).bind fun r603 =>
   some [T.b (iLe (asI (nth r603 0)) n0_4)]
  else
   some [T.b false]
 else
  some [T.b false]
def f19 (c : Orc) (lf : Nat) (l0_0 : List T) (n0_1 : Int) (l0_2 : List T) (b0_3 : Bool) (n0_4 : Int) : Option (List T) := f19_t c lf l0_0 n0_1 l0_2 b0_3 n0_4
theorem f19_raw (c : Orc) (lf : Nat) (l0_0 : List T) (n0_1 : Int) (l0_2 : List T) (b0_3 : Bool) (n0_4 : Int) : funK c env lf 6 fi19 [.st [.sl l0_0, .i .i64 n0_1, .sl l0_2, .b b0_3, .i .i64 n0_4]] = f19_t c lf l0_0 n0_1 l0_2 b0_3 n0_4 := by kernel_rfl
theorem f19_eq (c : Orc) (lf : Nat) (l0_0 : List T) (n0_1 : Int) (l0_2 : List T) (b0_3 : Bool) (n0_4 : Int) : funK c env lf 6 fi19 [.st [.sl l0_0, .i .i64 n0_1, .sl l0_2, .b b0_3, .i .i64 n0_4]] = f19 c lf l0_0 n0_1 l0_2 b0_3 n0_4 := by
 refine (f19_raw c lf l0_0 n0_1 l0_2 b0_3 n0_4).trans ?_
 rfl
def f8_t (c : Orc) (lf : Nat) (l0 : List T) : Option (List T) :=
 (c 29 [T.sl l0]).bind fun r604 =>
 bif asB (nth r604 0) then
  some [T.b true]
 else
  (c 30 [T.sl l0]).bind fun r605 =>
  (c 39 [T.sl l0]).bind fun r606 =>
  (c 40 [T.sl l0]).bind fun r607 =>
  (c 24 [T.st [T.sl (asL (T.cell (nth r607 0) 0)), T.i .i64 (asI (T.cell (nth r607 0) 1)), T.sl (asL (T.cell (nth r607 0) 2)), T.b (asB (T.cell (nth r607 0) 3)), T.i .i64 (asI (T.cell (nth r607 0) 4))], T.i .i64 (asI (nth r607 1)), T.i .i64 (asI (nth r607 2))]).bind fun r608 =>
  (c 23 [T.st [T.sl (asL (T.cell (nth r607 0) 0)), T.i .i64 (asI (T.cell (nth r607 0) 1)), T.sl (asL (T.cell (nth r607 0) 2)), T.b (asB (T.cell (nth r607 0) 3)), T.i .i64 (asI (T.cell (nth r607 0) 4))], T.i .i64 (asI (nth r607 1)), T.i .i64 (asI (nth r607 2))]).bind fun r609 =>
  (c 21 [T.st [T.sl (asL (T.cell (nth r605 0) 0)), T.i .i64 (asI (T.cell (nth r605 0) 1)), T.sl (asL (T.cell (nth r605 0) 2)), T.b (asB (T.cell (nth r605 0) 3)), T.i .i64 (asI (T.cell (nth r605 0) 4))]]).bind fun r610 =>
  bif asB (nth r610 0) then
   (c 21 [T.st [T.sl (asL (T.cell (nth r606 0) 0)), T.i .i64 (asI (T.cell (nth r606 0) 1)), T.sl (asL (T.cell (nth r606 0) 2)), T.b (asB (T.cell (nth r606 0) 3)), T.i .i64 (asI (T.cell (nth r606 0) 4))]]).bind fun r611 =>
   (c 19 [T.st [T.sl (asL (T.cell (nth r606 0) 0)), T.i .i64 (asI (T.cell (nth r606 0) 1)), T.sl (asL (T.cell (nth r606 0) 2)), T.b (asB (T.cell (nth r606 0) 3)), T.i .i64 (asI (T.cell (nth r606 0) 4))]]).bind fun r612 =>
   bif ((asB (nth r611 0)) == (asB (nth r612 0))) then
    bif ((asB (nth r608 1)) == (asB (nth r609 1))) then
     bif !(asB (nth r608 1)) then
      bif (asI (T.cell (nth r608 0) 0)) == 0 then
       some [T.b true]
      else
       bif asB (nth r608 1) then
        some [T.b ((asI (T.cell (nth r608 0) 0)) == (asI (nth r607 2)))]
       else
        some [T.b false]
     else
      bif asB (nth r608 1) then
       some [T.b ((asI (T.cell (nth r608 0) 0)) == (asI (nth r607 2)))]
      else
       some [T.b false]
    else
     some [T.b false]
   else
    some [T.b false]
  else
   some [T.b false]
def f8 (c : Orc) (lf : Nat) (l0 : List T) : Option (List T) := f8_t c lf l0
theorem f8_raw (c : Orc) (lf : Nat) (l0 : List T) : funK c env lf 6 fi8 [.sl l0] = f8_t c lf l0 := by kernel_rfl
theorem f8_eq (c : Orc) (lf : Nat) (l0 : List T) : funK c env lf 6 fi8 [.sl l0] = f8 c lf l0 := by
 refine (f8_raw c lf l0).trans ?_
 rfl
end Go.Proofs.Ytdclnhlpifahpaa.T
