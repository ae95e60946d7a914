/- What functions of the law FnOpened come to, in trees; no condition. -/
import Derived.Test.YtjhocjbenmoeaaaRows
import Derived.Test.YtjhocjbenmoeaaaV3
import Derived.KernelRfl
set_option linter.unusedVariables false
set_option linter.constructorNameAsVariable false
set_option linter.unusedSimpArgs false
set_option linter.unnecessarySimpa false
namespace Go.Proofs.Ytjhocjbenmoeaaa.T
open Go Go.Proofs.YtjhocjbenmoeaaaV
def tyTab : List (Nat × Ti) := [
 (3, ⟨false, [.i .i64], .o⟩),
 (4, ⟨false, [.b], .o⟩),
 (5, ⟨false, [.i .u8], .o⟩),
 (9, ⟨false, [.s], .o⟩),
 (22, ⟨false, [.sl false [.i .u8]], .sl 5⟩),
 (24, ⟨false, [.sl true [.sl true [.b, .sl false [.i .u8]], .i .i64, .b]], .sl 39⟩),
 (26, ⟨true, [.sl true [.sl true [.b, .sl false [.i .u8]], .i .i64, .b]], .st [(0, 24)]⟩),
 (27, ⟨false, [.sl true [.i .i64, .i .i64, .i .i64]], .sl 62⟩),
 (29, ⟨true, [.sl true [.sl true [.b, .sl false [.i .u8]], .i .i64, .b], .i .i64, .sl true [.i .i64, .i .i64, .i .i64], .b], .st [(0, 26), (1, 3), (2, 27), (3, 4)]⟩),
 (31, ⟨true, [.sl true [.sl true [.b, .sl false [.i .u8]], .i .i64, .b], .i .i64, .sl true [.i .i64, .i .i64, .i .i64], .b, .i .i64], .st [(0, 29), (4, 3)]⟩),
 (37, ⟨false, [.sl true [.b, .sl false [.i .u8]]], .sl 48⟩),
 (39, ⟨true, [.sl true [.b, .sl false [.i .u8]], .i .i64, .b], .st [(0, 37), (1, 3), (2, 4)]⟩),
 (40, ⟨false, [.o], .o⟩),
 (44, ⟨false, [.sl false [.i .i64]], .sl 3⟩),
 (48, ⟨true, [.b, .sl false [.i .u8]], .st [(0, 4), (1, 22)]⟩),
 (50, ⟨true, [.sl false [.i .u8], .i .i64, .i .i64], .st [(0, 22), (1, 3), (2, 3)]⟩),
 (62, ⟨true, [.i .i64, .i .i64, .i .i64], .st [(0, 3), (1, 3), (2, 3)]⟩),
 (69, ⟨true, [.i .i64, .i .i64, .sl false [.i .u8]], .st [(0, 3), (1, 3), (2, 22)]⟩),
 (71, ⟨false, [.i .u64], .o⟩)]
noncomputable def fi4 : Fi := ⟨Try.f4, [], false, [.ro (.sl false [.i .u8])], [.v (.b)]⟩
def x11_3_0 : List (Ex × List Nat × CSt) := [((.ex 0), [0, 3], ⟨[.ro 0 false [.i .u8] [], .i .i64 0], [.dead]⟩)]
noncomputable def fi11 : Fi := ⟨Try.f11, [⟨3, [0, 3, 4], [], [(⟨[.ro 0 false [.i .u8] [], .i .i64 0, .i .i64 0], [.dead]⟩, x11_3_0)]⟩], false, [.ro (.sl false [.i .u8])], [.bx [.ro (.sl false [.i .u8]), .v (.i .i64), .v (.i .i64)]]⟩
noncomputable def fi25 : Fi := ⟨Try.f25, [], false, [.bx [.ro (.sl false [.i .u8]), .v (.i .i64), .v (.i .i64)]], [.v (.i .i64)]⟩
noncomputable def fi17 : Fi := ⟨Try.f17, [], false, [.bx [.ro (.sl false [.i .u8]), .v (.i .i64), .v (.i .i64)], .v (.i .i64)], [.v (.i .i64)]⟩
noncomputable def fi13 : Fi := ⟨Try.f13, [], false, [.bx [.ro (.sl false [.i .u8]), .v (.i .i64), .v (.i .i64)], .ro (.sl false [.i .i64])], [.v (.i .i64)]⟩
def x21_4_0 : List (Ex × List Nat × CSt) := [((.ex 0), [3], ⟨[.rf 4 [] 0 none], [.box [.ro 1 false [.i .u8] [], .i .i64 0, .i .i64 0], .dead, .dead, .dead, .row true [.i .i64, .i .i64, .i .i64] [] 0 false]⟩)]
noncomputable def fi21 : Fi := ⟨Try.f21, [⟨4, [0, 3, 4, 5], [], [(⟨[.bp 0 0, .rf 4 [] 0 none, .i .i64 0, .i .i64 0], [.box [.ro 1 false [.i .u8] [], .i .i64 0, .i .i64 0], .dead, .dead, .dead, .row true [.i .i64, .i .i64, .i .i64] [] 0 false]⟩, x21_4_0)]⟩], false, [.bx [.ro (.sl false [.i .u8]), .v (.i .i64), .v (.i .i64)]], [.ow (.sl true [.i .i64, .i .i64, .i .i64])]⟩
noncomputable def fi37 : Fi := ⟨Try.f37, [], false, [.v (.i .i64), .v (.i .i64), .v (.i .i64)], [.v (.b)]⟩
def x28_3_0 : List (Ex × List Nat × CSt) := [((.ex 0), [2, 3], ⟨[.bp 1 0, .bp 3 0], [.dead, .box [.rf 2 [] 0 none], .row true [.sl true [.b, .sl false [.i .u8]], .i .i64, .b] [] 0 false, .box [.rf 4 [] 0 none], .row true [.sl true [.b, .sl false [.i .u8]], .i .i64, .b] [] 0 false]⟩)]
noncomputable def fi28 : Fi := ⟨Try.f28, [⟨3, [0, 2, 3, 4], [], [(⟨[.i .i64 0, .bp 1 0, .bp 3 0, .i .i64 0], [.dead, .box [.rf 2 [] 0 none], .row true [.sl true [.b, .sl false [.i .u8]], .i .i64, .b] [] 0 false, .box [.rf 4 [] 0 none], .row true [.sl true [.b, .sl false [.i .u8]], .i .i64, .b] [] 0 false]⟩, x28_3_0)]⟩], false, [.v (.i .i64)], [.ag [.ow (.sl true [.sl true [.b, .sl false [.i .u8]], .i .i64, .b])]]⟩
def x49_4_0 : List (Ex × List Nat × CSt) := [(.ret, [2], ⟨[.b false], [.dead, .dead, .dead]⟩), ((.ex 0), [], ⟨[], [.dead, .dead, .dead]⟩)]
noncomputable def fi49 : Fi := ⟨Try.f49, [⟨4, [1, 3], [], [(⟨[.bp 3 0, .i .i64 0], [.dead, .dead, .dead, .box [.ro 0 true [.b, .sl false [.i .u8]] [], .i .i64 0, .b false]]⟩, x49_4_0)]⟩], false, [.ag [.ro (.sl true [.b, .sl false [.i .u8]]), .v (.i .i64), .v (.b)]], [.v (.b)]⟩
def x38_2_0 : List (Ex × List Nat × CSt) := [(.ret, [2], ⟨[.b false], [.dead]⟩), ((.ex 0), [1], ⟨[.bp 1 0], [.dead, .box [.ro 0 true [.sl true [.b, .sl false [.i .u8]], .i .i64, .b] []]]⟩)]
noncomputable def fi38 : Fi := ⟨Try.f38, [⟨2, [1, 3], [], [(⟨[.bp 1 0, .i .i64 0], [.dead, .box [.ro 0 true [.sl true [.b, .sl false [.i .u8]], .i .i64, .b] []]]⟩, x38_2_0)]⟩], false, [.ag [.ro (.sl true [.sl true [.b, .sl false [.i .u8]], .i .i64, .b])]], [.v (.b)]⟩
def x39_2_0 : List (Ex × List Nat × CSt) := [(.ret, [2], ⟨[.b false], [.dead]⟩), ((.ex 0), [0], ⟨[.ro 0 true [.i .i64, .i .i64, .i .i64] []], [.dead]⟩)]
noncomputable def fi39 : Fi := ⟨Try.f39, [⟨2, [0, 3], [], [(⟨[.ro 0 true [.i .i64, .i .i64, .i .i64] [], .i .i64 0], [.dead]⟩, x39_2_0)]⟩], false, [.ro (.sl true [.i .i64, .i .i64, .i .i64])], [.v (.b)]⟩
noncomputable def fi29 : Fi := ⟨Try.f29, [], false, [.ag [.ro (.sl true [.sl true [.b, .sl false [.i .u8]], .i .i64, .b]), .v (.i .i64), .ro (.sl true [.i .i64, .i .i64, .i .i64]), .v (.b)]], [.v (.b)]⟩
noncomputable def fi20 : Fi := ⟨Try.f20, [], false, [.v (.i .i64), .ro (.sl true [.i .i64, .i .i64, .i .i64])], [.ag [.ow (.sl true [.sl true [.b, .sl false [.i .u8]], .i .i64, .b]), .v (.i .i64), .ow (.sl true [.i .i64, .i .i64, .i .i64]), .v (.b)]]⟩
def x33_3_0 : List (Ex × List Nat × CSt) := [((.ex 0), [5], ⟨[.rf 5 [] 0 none], [.box [.ro 1 false [.i .u8] [], .i .i64 0, .i .i64 0], .dead, .dead, .dead, .dead, .row false [.i .u8] [] 0 false]⟩)]
noncomputable def fi33 : Fi := ⟨Try.f33, [⟨3, [0, 1, 5, 6], [], [(⟨[.bp 0 0, .i .i64 0, .rf 5 [] 0 none, .i .i64 0], [.box [.ro 1 false [.i .u8] [], .i .i64 0, .i .i64 0], .dead, .dead, .dead, .dead, .row false [.i .u8] [] 0 false]⟩, x33_3_0)]⟩], false, [.bx [.ro (.sl false [.i .u8]), .v (.i .i64), .v (.i .i64)], .v (.i .i64)], [.ow (.sl false [.i .u8])]⟩
noncomputable def fi23 : Fi := ⟨Try.f23, [], false, [.bx [.ro (.sl false [.i .u8]), .v (.i .i64), .v (.i .i64)]], [.ow (.sl false [.i .u8])]⟩
def x55_3_0 : List (Ex × List Nat × CSt) := [((.ex 0), [2, 3], ⟨[.bp 3 0, .bp 5 0], [.dead, .dead, .dead, .box [.rf 4 [] 0 none, .i .i64 0, .b false], .row true [.b, .sl false [.i .u8]] [] 0 false, .box [.rf 6 [] 0 none, .i .i64 0, .b false], .row true [.b, .sl false [.i .u8]] [] 0 false]⟩)]
noncomputable def fi55 : Fi := ⟨Try.f55, [⟨3, [1, 2, 3, 4], [], [(⟨[.bp 3 0, .bp 4 0, .bp 6 0, .i .i64 0], [.dead, .dead, .dead, .box [.ro 0 true [.b, .sl false [.i .u8]] [], .i .i64 0, .b false], .box [.rf 5 [] 0 none, .i .i64 0, .b false], .row true [.b, .sl false [.i .u8]] [] 0 false, .box [.rf 7 [] 0 none, .i .i64 0, .b false], .row true [.b, .sl false [.i .u8]] [] 0 false]⟩, x55_3_0)]⟩], false, [.ag [.ro (.sl true [.b, .sl false [.i .u8]]), .v (.i .i64), .v (.b)]], [.ag [.ow (.sl true [.b, .sl false [.i .u8]]), .v (.i .i64), .v (.b)]]⟩
def x50_3_0 : List (Ex × List Nat × CSt) := [((.ex 0), [2, 3], ⟨[.bp 1 0, .bp 3 0], [.dead, .box [.rf 2 [] 0 none], .row true [.sl true [.b, .sl false [.i .u8]], .i .i64, .b] [] 0 false, .box [.rf 4 [] 0 none], .row true [.sl true [.b, .sl false [.i .u8]], .i .i64, .b] [] 0 false]⟩)]
noncomputable def fi50 : Fi := ⟨Try.f50, [⟨3, [1, 2, 3, 4], [], [(⟨[.bp 1 0, .bp 2 0, .bp 4 0, .i .i64 0], [.dead, .box [.ro 0 true [.sl true [.b, .sl false [.i .u8]], .i .i64, .b] []], .box [.rf 3 [] 0 none], .row true [.sl true [.b, .sl false [.i .u8]], .i .i64, .b] [] 0 false, .box [.rf 5 [] 0 none], .row true [.sl true [.b, .sl false [.i .u8]], .i .i64, .b] [] 0 false]⟩, x50_3_0)]⟩], false, [.ag [.ro (.sl true [.sl true [.b, .sl false [.i .u8]], .i .i64, .b])]], [.ag [.ow (.sl true [.sl true [.b, .sl false [.i .u8]], .i .i64, .b])]]⟩
noncomputable def fi40 : Fi := ⟨Try.f40, [], false, [.ag [.ro (.sl true [.sl true [.b, .sl false [.i .u8]], .i .i64, .b]), .v (.i .i64), .ro (.sl true [.i .i64, .i .i64, .i .i64]), .v (.b)]], [.ag [.ow (.sl true [.sl true [.b, .sl false [.i .u8]], .i .i64, .b]), .v (.i .i64), .ow (.sl true [.i .i64, .i .i64, .i .i64]), .v (.b)]]⟩
noncomputable def fi30 : Fi := ⟨Try.f30, [], false, [.ag [.ro (.sl true [.sl true [.b, .sl false [.i .u8]], .i .i64, .b]), .v (.i .i64), .ro (.sl true [.i .i64, .i .i64, .i .i64]), .v (.b), .v (.i .i64)]], [.ag [.ow (.sl true [.sl true [.b, .sl false [.i .u8]], .i .i64, .b]), .v (.i .i64), .ow (.sl true [.i .i64, .i .i64, .i .i64]), .v (.b), .v (.i .i64)]]⟩
noncomputable def fi31 : Fi := ⟨Try.f31, [], false, [.ag [.v (.i .i64), .v (.i .i64), .ro (.sl false [.i .u8])]], [.v (.b)]⟩
def x52_6_0 : List (Ex × List Nat × CSt) := [((.ex 0), [1, 5], ⟨[.i .i64 0, .rf 2 [] 0 none], [.dead, .dead, .row false [.i .u8] [] 0 false]⟩)]
noncomputable def fi52 : Fi := ⟨Try.f52, [⟨6, [1, 5], [], [(⟨[.i .i64 0, .rf 2 [] 0 none], [.dead, .dead, .row false [.i .u8] [] 0 false]⟩, x52_6_0)]⟩], false, [.ro (.sl false [.i .u8]), .v (.i .i64)], [.ow (.sl false [.i .u8])]⟩
noncomputable def fi51 : Fi := ⟨Try.f51, [], false, [.ro (.sl false [.i .u8]), .v (.s)], [.ow (.sl false [.i .u8])]⟩
def x53_3_0 : List (Ex × List Nat × CSt) := [((.ex 0), [3], ⟨[.i .i64 0], [.dead]⟩)]
def x53_7_0 : List (Ex × List Nat × CSt) := [((.ex 2), [0, 3, 4], ⟨[.ro 0 false [.i .u8] [], .i .i64 0, .i .i64 0], [.dead]⟩)]
noncomputable def fi53 : Fi := ⟨Try.f53, [⟨3, [0, 3, 4], [], [(⟨[.ro 0 false [.i .u8] [], .i .i64 0, .i .i64 0], [.dead]⟩, x53_3_0)]⟩, ⟨7, [0, 3, 4, 5], [], [(⟨[.ro 0 false [.i .u8] [], .i .i64 0, .i .i64 0, .i .i64 0], [.dead]⟩, x53_7_0)]⟩], false, [.ro (.sl false [.i .u8])], [.v (.i .i64)]⟩
noncomputable def fi41 : Fi := ⟨Try.f41, [], false, [.ag [.v (.i .i64), .v (.i .i64), .ro (.sl false [.i .u8])]], [.ow (.sl false [.i .u8])]⟩
def x14_3_0 : List (Ex × List Nat × CSt) := [((.ex 0), [3], ⟨[.i .i64 0], [.dead, .dead, .dead]⟩)]
noncomputable def fi14 : Fi := ⟨Try.f14, [⟨3, [1, 3, 4], [], [(⟨[.bp 3 0, .i .i64 0, .i .i64 0], [.dead, .dead, .dead, .box [.ro 0 true [.b, .sl false [.i .u8]] [], .i .i64 0, .b false]]⟩, x14_3_0)]⟩], false, [.ag [.ro (.sl true [.b, .sl false [.i .u8]]), .v (.i .i64), .v (.b)]], [.v (.i .i64)]⟩
def x9_3_0 : List (Ex × List Nat × CSt) := [((.ex 0), [3], ⟨[.i .i64 0], [.dead, .dead, .dead, .dead, .dead]⟩)]
noncomputable def fi9 : Fi := ⟨Try.f9, [⟨3, [1, 3, 4], [], [(⟨[.bp 5 0, .i .i64 0, .i .i64 0], [.dead, .dead, .dead, .dead, .dead, .box [.ro 0 true [.sl true [.b, .sl false [.i .u8]], .i .i64, .b] [], .i .i64 0, .ro 0 true [.i .i64, .i .i64, .i .i64] [], .b false, .i .i64 0]]⟩, x9_3_0)]⟩], false, [.ag [.ro (.sl true [.sl true [.b, .sl false [.i .u8]], .i .i64, .b]), .v (.i .i64), .ro (.sl true [.i .i64, .i .i64, .i .i64]), .v (.b), .v (.i .i64)]], [.v (.i .i64)]⟩
def x8_3_0 : List (Ex × List Nat × CSt) := [(.ret, [4], ⟨[.i .i64 0], [.dead, .dead, .dead, .dead, .dead, .dead]⟩), ((.ex 0), [1, 2, 5], ⟨[.i .i64 0, .bp 6 0, .i .i64 0], [.dead, .dead, .dead, .dead, .dead, .dead, .box [.ro 0 true [.sl true [.b, .sl false [.i .u8]], .i .i64, .b] [], .i .i64 0, .ro 0 true [.i .i64, .i .i64, .i .i64] [], .b false, .i .i64 0]]⟩)]
noncomputable def fi8 : Fi := ⟨Try.f8, [⟨3, [1, 2, 5, 6], [], [(⟨[.i .i64 0, .bp 6 0, .i .i64 0, .i .i64 0], [.dead, .dead, .dead, .dead, .dead, .dead, .box [.ro 0 true [.sl true [.b, .sl false [.i .u8]], .i .i64, .b] [], .i .i64 0, .ro 0 true [.i .i64, .i .i64, .i .i64] [], .b false, .i .i64 0]]⟩, x8_3_0)]⟩], false, [.ag [.ro (.sl true [.sl true [.b, .sl false [.i .u8]], .i .i64, .b]), .v (.i .i64), .ro (.sl true [.i .i64, .i .i64, .i .i64]), .v (.b), .v (.i .i64)], .v (.i .i64)], [.v (.i .i64)]⟩
noncomputable def fi42 : Fi := ⟨Try.f42, [], false, [.ag [.ro (.sl true [.sl true [.b, .sl false [.i .u8]], .i .i64, .b])], .v (.i .i64)], [.v (.i .i64)]⟩
noncomputable def fi54 : Fi := ⟨Try.f54, [], false, [.ag [.ro (.sl true [.sl true [.b, .sl false [.i .u8]], .i .i64, .b])], .v (.i .i64), .v (.b)], [.v (.i .i64)]⟩
noncomputable def fi47 : Fi := ⟨Try.f47, [], false, [.ag [.ro (.sl true [.sl true [.b, .sl false [.i .u8]], .i .i64, .b])], .v (.i .i64), .ro (.sl false [.i .u8])], [.v (.i .i64)]⟩
noncomputable def fi43 : Fi := ⟨Try.f43, [], false, [.ag [.ro (.sl true [.sl true [.b, .sl false [.i .u8]], .i .i64, .b]), .v (.i .i64), .ro (.sl true [.i .i64, .i .i64, .i .i64]), .v (.b)], .v (.i .i64)], [.v (.i .i64)]⟩
def x45_2_0 : List (Ex × List Nat × CSt) := [(.ret, [2, 3], ⟨[.bp 4 0, .b false], [.dead, .dead, .dead, .dead, .box [.i .i64 0, .i .i64 0, .i .i64 0]]⟩), ((.ex 0), [2], ⟨[.bp 4 0], [.dead, .dead, .dead, .dead, .box [.i .i64 0, .i .i64 0, .i .i64 0]]⟩)]
noncomputable def fi45 : Fi := ⟨Try.f45, [⟨2, [1, 2, 4], [], [(⟨[.bp 4 0, .bp 5 0, .i .i64 0], [.dead, .dead, .dead, .dead, .box [.ro 0 true [.sl true [.b, .sl false [.i .u8]], .i .i64, .b] [], .i .i64 0, .ro 0 true [.i .i64, .i .i64, .i .i64] [], .b false], .box [.i .i64 0, .i .i64 0, .i .i64 0]]⟩, x45_2_0)]⟩], false, [.ag [.ro (.sl true [.sl true [.b, .sl false [.i .u8]], .i .i64, .b]), .v (.i .i64), .ro (.sl true [.i .i64, .i .i64, .i .i64]), .v (.b)]], [.ag [.v (.i .i64), .v (.i .i64), .v (.i .i64)], .v (.b)]⟩
noncomputable def fi48 : Fi := ⟨Try.f48, [], false, [.ag [.ro (.sl true [.sl true [.b, .sl false [.i .u8]], .i .i64, .b])], .v (.i .i64), .ro (.sl false [.i .u8])], [.ag [.ow (.sl true [.sl true [.b, .sl false [.i .u8]], .i .i64, .b])], .v (.i .i64)]⟩
noncomputable def fi35 : Fi := ⟨Try.f35, [], false, [.ag [.ro (.sl true [.sl true [.b, .sl false [.i .u8]], .i .i64, .b]), .v (.i .i64), .ro (.sl true [.i .i64, .i .i64, .i .i64]), .v (.b)], .v (.i .i64), .ro (.sl false [.i .u8])], [.ag [.ow (.sl true [.sl true [.b, .sl false [.i .u8]], .i .i64, .b]), .v (.i .i64), .ow (.sl true [.i .i64, .i .i64, .i .i64]), .v (.b)], .v (.i .i64)]⟩
def x32_3_0 : List (Ex × List Nat × CSt) := [(.ret, [8, 9, 10], ⟨[.bp 8 0, .i .i64 0, .i .i64 0], [.dead, .dead, .dead, .dead, .dead, .dead, .dead, .dead, .box [.rf 9 [] 0 none, .i .i64 0, .rf 10 [] 0 none, .b false, .i .i64 0], .row true [.sl true [.b, .sl false [.i .u8]], .i .i64, .b] [] 0 false, .row true [.i .i64, .i .i64, .i .i64] [] 0 false]⟩), ((.ex 0), [4, 8], ⟨[.bp 8 0, .bp 11 0], [.dead, .dead, .dead, .dead, .dead, .dead, .dead, .dead, .box [.rf 9 [] 0 none, .i .i64 0, .rf 10 [] 0 none, .b false, .i .i64 0], .row true [.sl true [.b, .sl false [.i .u8]], .i .i64, .b] [] 0 false, .row true [.i .i64, .i .i64, .i .i64] [] 0 false, .box [.rf 12 [] 0 none, .i .i64 0, .rf 13 [] 0 none, .b false, .i .i64 0], .row true [.sl true [.b, .sl false [.i .u8]], .i .i64, .b] [] 0 false, .row true [.i .i64, .i .i64, .i .i64] [] 0 false]⟩)]
noncomputable def fi32 : Fi := ⟨Try.f32, [⟨3, [3, 4, 8, 11, 12], [], [(⟨[.i .i64 0, .bp 8 0, .bp 11 0, .rf 14 [] 0 none, .i .i64 0], [.dead, .dead, .dead, .dead, .dead, .dead, .dead, .dead, .box [.rf 9 [] 0 none, .i .i64 0, .rf 10 [] 0 none, .b false, .i .i64 0], .row true [.sl true [.b, .sl false [.i .u8]], .i .i64, .b] [] 0 false, .row true [.i .i64, .i .i64, .i .i64] [] 0 false, .box [.rf 12 [] 0 none, .i .i64 0, .rf 13 [] 0 none, .b false, .i .i64 0], .row true [.sl true [.b, .sl false [.i .u8]], .i .i64, .b] [] 0 false, .row true [.i .i64, .i .i64, .i .i64] [] 0 false, .row false [.i .u8] [] 0 false]⟩, x32_3_0)]⟩], false, [.ag [.mv (.sl true [.sl true [.b, .sl false [.i .u8]], .i .i64, .b]), .v (.i .i64), .mv (.sl true [.i .i64, .i .i64, .i .i64]), .v (.b), .v (.i .i64)], .v (.i .i64), .ro (.sl false [.i .u8]), .v (.i .i64)], [.ag [.ow (.sl true [.sl true [.b, .sl false [.i .u8]], .i .i64, .b]), .v (.i .i64), .ow (.sl true [.i .i64, .i .i64, .i .i64]), .v (.b), .v (.i .i64)], .v (.i .i64), .v (.i .i64)]⟩
noncomputable def fi22 : Fi := ⟨Try.f22, [], false, [.ag [.ro (.sl true [.sl true [.b, .sl false [.i .u8]], .i .i64, .b]), .v (.i .i64), .ro (.sl true [.i .i64, .i .i64, .i .i64]), .v (.b), .v (.i .i64)], .v (.i .i64), .ro (.sl false [.i .u8]), .v (.i .i64)], [.ag [.ow (.sl true [.sl true [.b, .sl false [.i .u8]], .i .i64, .b]), .v (.i .i64), .ow (.sl true [.i .i64, .i .i64, .i .i64]), .v (.b), .v (.i .i64)], .v (.i .i64), .v (.i .i64)]⟩
noncomputable def fi24 : Fi := ⟨Try.f24, [], false, [.bx [.ro (.sl false [.i .u8]), .v (.i .i64), .v (.i .i64)], .v (.i .i64)], [.v (.b)]⟩
def x16_3_0 : List (Ex × List Nat × CSt) := [((.ex 0), [2, 3], ⟨[.bp 4 0, .bp 7 0], [.box [.ro 1 false [.i .u8] [], .i .i64 0, .i .i64 0], .dead, .dead, .dead, .box [.rf 5 [] 0 none, .i .i64 0, .rf 6 [] 0 none, .b false, .i .i64 0], .row true [.sl true [.b, .sl false [.i .u8]], .i .i64, .b] [] 0 false, .row true [.i .i64, .i .i64, .i .i64] [] 0 false, .box [.rf 8 [] 0 none, .i .i64 0, .rf 9 [] 0 none, .b false, .i .i64 0], .row true [.sl true [.b, .sl false [.i .u8]], .i .i64, .b] [] 0 false, .row true [.i .i64, .i .i64, .i .i64] [] 0 false]⟩)]
noncomputable def fi16 : Fi := ⟨Try.f16, [⟨3, [0, 2, 3, 4], [], [(⟨[.bp 0 0, .bp 4 0, .bp 7 0, .i .i64 0], [.box [.ro 1 false [.i .u8] [], .i .i64 0, .i .i64 0], .dead, .dead, .dead, .box [.rf 5 [] 0 none, .i .i64 0, .rf 6 [] 0 none, .b false, .i .i64 0], .row true [.sl true [.b, .sl false [.i .u8]], .i .i64, .b] [] 0 false, .row true [.i .i64, .i .i64, .i .i64] [] 0 false, .box [.rf 8 [] 0 none, .i .i64 0, .rf 9 [] 0 none, .b false, .i .i64 0], .row true [.sl true [.b, .sl false [.i .u8]], .i .i64, .b] [] 0 false, .row true [.i .i64, .i .i64, .i .i64] [] 0 false]⟩, x16_3_0)]⟩], false, [.bx [.ro (.sl false [.i .u8]), .v (.i .i64), .v (.i .i64)]], [.ag [.ow (.sl true [.sl true [.b, .sl false [.i .u8]], .i .i64, .b]), .v (.i .i64), .ow (.sl true [.i .i64, .i .i64, .i .i64]), .v (.b), .v (.i .i64)]]⟩
noncomputable def fi44 : Fi := ⟨Try.f44, [], false, [.ag [.ro (.sl true [.sl true [.b, .sl false [.i .u8]], .i .i64, .b])], .v (.i .i64)], [.v (.i .i64)]⟩
noncomputable def fi46 : Fi := ⟨Try.f46, [], false, [.ag [.ro (.sl true [.sl true [.b, .sl false [.i .u8]], .i .i64, .b])], .v (.i .i64)], [.ag [.ow (.sl true [.sl true [.b, .sl false [.i .u8]], .i .i64, .b])], .v (.i .i64)]⟩
def x34_14_0 : List (Ex × List Nat × CSt) := [((.ex 0), [4, 6], ⟨[.bp 5 0, .bp 8 0], [.dead, .dead, .dead, .dead, .dead, .box [.rf 6 [] 0 none, .i .i64 0, .rf 7 [] 0 none, .b false], .row true [.sl true [.b, .sl false [.i .u8]], .i .i64, .b] [] 0 false, .row true [.i .i64, .i .i64, .i .i64] [] 0 false, .box [.rf 9 [] 0 none, .i .i64 0, .rf 10 [] 0 none, .b false], .row true [.sl true [.b, .sl false [.i .u8]], .i .i64, .b] [] 0 false, .row true [.i .i64, .i .i64, .i .i64] [] 0 false]⟩)]
noncomputable def fi34 : Fi := ⟨Try.f34, [⟨14, [1, 4, 6, 8, 10], [], [(⟨[.i .i64 0, .bp 5 0, .bp 8 0, .bp 11 0, .i .i64 0], [.dead, .dead, .dead, .dead, .dead, .box [.rf 6 [] 0 none, .i .i64 0, .rf 7 [] 0 none, .b false], .row true [.sl true [.b, .sl false [.i .u8]], .i .i64, .b] [] 0 false, .row true [.i .i64, .i .i64, .i .i64] [] 0 false, .box [.rf 9 [] 0 none, .i .i64 0, .rf 10 [] 0 none, .b false], .row true [.sl true [.b, .sl false [.i .u8]], .i .i64, .b] [] 0 false, .row true [.i .i64, .i .i64, .i .i64] [] 0 false, .box [.i .i64 0, .i .i64 0, .i .i64 0]]⟩, x34_14_0)]⟩], false, [.ag [.ro (.sl true [.sl true [.b, .sl false [.i .u8]], .i .i64, .b]), .v (.i .i64), .ro (.sl true [.i .i64, .i .i64, .i .i64]), .v (.b)], .v (.i .i64)], [.ag [.ow (.sl true [.sl true [.b, .sl false [.i .u8]], .i .i64, .b]), .v (.i .i64), .ow (.sl true [.i .i64, .i .i64, .i .i64]), .v (.b)], .v (.i .i64)]⟩
def x26_3_0 : List (Ex × List Nat × CSt) := [((.ex 0), [2, 3], ⟨[.bp 4 0, .bp 7 0], [.box [.ro 1 false [.i .u8] [], .i .i64 0, .i .i64 0], .dead, .dead, .dead, .box [.rf 5 [] 0 none, .i .i64 0, .rf 6 [] 0 none, .b false], .row true [.sl true [.b, .sl false [.i .u8]], .i .i64, .b] [] 0 false, .row true [.i .i64, .i .i64, .i .i64] [] 0 false, .box [.rf 8 [] 0 none, .i .i64 0, .rf 9 [] 0 none, .b false], .row true [.sl true [.b, .sl false [.i .u8]], .i .i64, .b] [] 0 false, .row true [.i .i64, .i .i64, .i .i64] [] 0 false]⟩)]
noncomputable def fi26 : Fi := ⟨Try.f26, [⟨3, [0, 2, 3, 4], [], [(⟨[.bp 0 0, .bp 4 0, .bp 7 0, .i .i64 0], [.box [.ro 1 false [.i .u8] [], .i .i64 0, .i .i64 0], .dead, .dead, .dead, .box [.rf 5 [] 0 none, .i .i64 0, .rf 6 [] 0 none, .b false], .row true [.sl true [.b, .sl false [.i .u8]], .i .i64, .b] [] 0 false, .row true [.i .i64, .i .i64, .i .i64] [] 0 false, .box [.rf 8 [] 0 none, .i .i64 0, .rf 9 [] 0 none, .b false], .row true [.sl true [.b, .sl false [.i .u8]], .i .i64, .b] [] 0 false, .row true [.i .i64, .i .i64, .i .i64] [] 0 false]⟩, x26_3_0)]⟩], false, [.bx [.ro (.sl false [.i .u8]), .v (.i .i64), .v (.i .i64)]], [.ag [.ow (.sl true [.sl true [.b, .sl false [.i .u8]], .i .i64, .b]), .v (.i .i64), .ow (.sl true [.i .i64, .i .i64, .i .i64]), .v (.b)]]⟩
def x36_3_0 : List (Ex × List Nat × CSt) := [((.ex 0), [0, 2, 3], ⟨[.bp 0 0, .bp 4 0, .bp 6 0], [.box [.ro 1 false [.i .u8] [], .i .i64 0, .i .i64 0], .dead, .dead, .dead, .box [.rf 5 [] 0 none], .row true [.sl true [.b, .sl false [.i .u8]], .i .i64, .b] [] 0 false, .box [.rf 7 [] 0 none], .row true [.sl true [.b, .sl false [.i .u8]], .i .i64, .b] [] 0 false]⟩)]
noncomputable def fi36 : Fi := ⟨Try.f36, [⟨3, [0, 2, 3, 4], [], [(⟨[.bp 0 0, .bp 4 0, .bp 6 0, .i .i64 0], [.box [.ro 1 false [.i .u8] [], .i .i64 0, .i .i64 0], .dead, .dead, .dead, .box [.rf 5 [] 0 none], .row true [.sl true [.b, .sl false [.i .u8]], .i .i64, .b] [] 0 false, .box [.rf 7 [] 0 none], .row true [.sl true [.b, .sl false [.i .u8]], .i .i64, .b] [] 0 false]⟩, x36_3_0)]⟩], false, [.bx [.ro (.sl false [.i .u8]), .v (.i .i64), .v (.i .i64)]], [.ag [.ow (.sl true [.sl true [.b, .sl false [.i .u8]], .i .i64, .b])]]⟩
noncomputable def fi27 : Fi := ⟨Try.f27, [], false, [.bx [.ro (.sl false [.i .u8]), .v (.i .i64), .v (.i .i64)]], [.ag [.ow (.sl true [.sl true [.b, .sl false [.i .u8]], .i .i64, .b])]]⟩
noncomputable def fi18 : Fi := ⟨Try.f18, [], false, [.bx [.ro (.sl false [.i .u8]), .v (.i .i64), .v (.i .i64)]], [.ag [.ow (.sl true [.sl true [.b, .sl false [.i .u8]], .i .i64, .b]), .v (.i .i64), .ow (.sl true [.i .i64, .i .i64, .i .i64]), .v (.b)]]⟩
noncomputable def fi12 : Fi := ⟨Try.f12, [], false, [.bx [.ro (.sl false [.i .u8]), .v (.i .i64), .v (.i .i64)]], [.ag [.ow (.sl true [.sl true [.b, .sl false [.i .u8]], .i .i64, .b]), .v (.i .i64), .ow (.sl true [.i .i64, .i .i64, .i .i64]), .v (.b), .v (.i .i64)]]⟩
noncomputable def fi5 : Fi := ⟨Try.f5, [], false, [.ro (.sl false [.i .u8])], [.ag [.ow (.sl true [.sl true [.b, .sl false [.i .u8]], .i .i64, .b]), .v (.i .i64), .ow (.sl true [.i .i64, .i .i64, .i .i64]), .v (.b), .v (.i .i64)], .v (.i .i64)]⟩
noncomputable def fi19 : Fi := ⟨Try.f19, [], false, [.v (.i .i64), .v (.i .i64), .v (.i .i64)], [.v (.b)]⟩
noncomputable def fi15 : Fi := ⟨Try.f15, [], false, [.ag [.ro (.sl true [.sl true [.b, .sl false [.i .u8]], .i .i64, .b])], .v (.i .i64)], [.v (.b)]⟩
def x10_5_0 : List (Ex × List Nat × CSt) := [((.ex 0), [5], ⟨[.i .i64 0], [.dead, .dead]⟩)]
noncomputable def fi10 : Fi := ⟨Try.f10, [⟨5, [5, 17, 18, 19], [], [(⟨[.i .i64 0, .ro 0 true [.b, .sl false [.i .u8]] [], .i .i64 0, .i .i64 0], [.dead, .dead]⟩, x10_5_0)]⟩], false, [.ag [.ro (.sl true [.sl true [.b, .sl false [.i .u8]], .i .i64, .b])], .v (.i .i64)], [.v (.i .i64)]⟩
def x7_3_0 : List (Ex × List Nat × CSt) := [((.ex 0), [3], ⟨[.i .i64 0], [.dead, .dead, .dead, .dead, .dead]⟩)]
noncomputable def fi7 : Fi := ⟨Try.f7, [⟨3, [1, 3, 9, 10, 11], [], [(⟨[.bp 5 0, .i .i64 0, .ro 0 true [.sl true [.b, .sl false [.i .u8]], .i .i64, .b] [], .i .i64 0, .i .i64 0], [.dead, .dead, .dead, .dead, .dead, .box [.ro 0 true [.sl true [.b, .sl false [.i .u8]], .i .i64, .b] [], .i .i64 0, .ro 0 true [.i .i64, .i .i64, .i .i64] [], .b false, .i .i64 0]]⟩, x7_3_0)]⟩], false, [.ag [.ro (.sl true [.sl true [.b, .sl false [.i .u8]], .i .i64, .b]), .v (.i .i64), .ro (.sl true [.i .i64, .i .i64, .i .i64]), .v (.b), .v (.i .i64)]], [.v (.i .i64)]⟩
def x6_3_0 : List (Ex × List Nat × CSt) := [(.ret, [4], ⟨[.i .i64 0], [.dead, .dead, .dead, .dead, .dead, .dead]⟩), ((.ex 0), [1, 2, 5], ⟨[.i .i64 0, .bp 6 0, .i .i64 0], [.dead, .dead, .dead, .dead, .dead, .dead, .box [.ro 0 true [.sl true [.b, .sl false [.i .u8]], .i .i64, .b] [], .i .i64 0, .ro 0 true [.i .i64, .i .i64, .i .i64] [], .b false, .i .i64 0]]⟩)]
noncomputable def fi6 : Fi := ⟨Try.f6, [⟨3, [1, 2, 5, 12, 13, 14], [], [(⟨[.i .i64 0, .bp 6 0, .i .i64 0, .ro 0 true [.sl true [.b, .sl false [.i .u8]], .i .i64, .b] [], .i .i64 0, .i .i64 0], [.dead, .dead, .dead, .dead, .dead, .dead, .box [.ro 0 true [.sl true [.b, .sl false [.i .u8]], .i .i64, .b] [], .i .i64 0, .ro 0 true [.i .i64, .i .i64, .i .i64] [], .b false, .i .i64 0]]⟩, x6_3_0)]⟩], false, [.ag [.ro (.sl true [.sl true [.b, .sl false [.i .u8]], .i .i64, .b]), .v (.i .i64), .ro (.sl true [.i .i64, .i .i64, .i .i64]), .v (.b), .v (.i .i64)], .v (.i .i64)], [.v (.i .i64)]⟩
noncomputable def fi3 : Fi := ⟨Try.f3, [], false, [.ro (.sl false [.i .u8])], [.v (.b)]⟩
noncomputable def fiTab : List (Nat × Fi) := [(4, fi4), (11, fi11), (25, fi25), (17, fi17), (13, fi13), (21, fi21), (37, fi37), (28, fi28), (49, fi49), (38, fi38), (39, fi39), (29, fi29), (20, fi20), (33, fi33), (23, fi23), (55, fi55), (50, fi50), (40, fi40), (30, fi30), (31, fi31), (52, fi52), (51, fi51), (53, fi53), (41, fi41), (14, fi14), (9, fi9), (8, fi8), (42, fi42), (54, fi54), (47, fi47), (43, fi43), (45, fi45), (48, fi48), (35, fi35), (32, fi32), (22, fi22), (24, fi24), (16, fi16), (44, fi44), (46, fi46), (34, fi34), (26, fi26), (36, fi36), (27, fi27), (18, fi18), (12, fi12), (5, fi5), (19, fi19), (15, fi15), (10, fi10), (7, fi7), (6, fi6), (3, fi3)]
def X : Nat → Option (List T → Option (List T)) := lookN []
noncomputable def env : Env := ⟨lookN fiTab, lookN tyTab⟩
def f4_t (c : Orc) (lf : Nat) (l0 : List T) : Option (List T) :=
 some [T.b (iLt 1048576 (l0.length : Int))]
def f4 (c : Orc) (lf : Nat) (l0 : List T) : Option (List T) := f4_t c lf l0
theorem f4_eq (c : Orc) (lf : Nat) (l0 : List T) : funK c env lf 6 fi4 [.sl l0] = f4 c lf l0 := by kernel_rfl
def f11_0_s (c : Orc) (lf : Nat) (l0 : List T) (L : Int → Int → Option (List T)) (x7 x8 : Int) : Option (List T) :=
 bif iLt x8 (l0.length : Int) then
  bif iLt x8 4000 then
   bif inR x8 l0.length then
   L (intBits .and .i64 (IntKind.wrap .i64 ((IntKind.wrap .i64 ((IntKind.wrap .i64 (x7 * 137)) + (IntKind.wrap .i64 (asI (l0.getD x8.toNat T.u))))) + 11)) 1073741823) (IntKind.wrap .i64 (x8 + 1))
   else none
  else
   some [T.i .i64 0, T.sl l0, T.i .i64 x7]
 else
  some [T.i .i64 0, T.sl l0, T.i .i64 x7]
def f11_0_c (l0 : List T) (x7 x8 : Int) : CSt := ⟨[.ro 0 false [.i .u8] l0, .i .i64 x7, .i .i64 x8], [.dead]⟩
theorem f11_0_round (c : Orc) (lf : Nat) (l0 : List T) (L : CSt → Option (List T)) (x7 x8 : Int) :
 roundK c env lf 6 fi11 1 3 [] [0, 3, 4] (x11_3_0) L (f11_0_c l0 x7 x8) = f11_0_s c lf l0 (fun x7 x8 => L (f11_0_c l0 x7 x8)) x7 x8 := by kernel_rfl
def f11_0 (c : Orc) (lf : Nat) (l0 : List T) : Nat → Int → Int → Option (List T)
 | 0 => fun _ _ => none
 | n + 1 => fun x7 x8 => f11_0_s c lf l0 (f11_0 c lf l0 n) x7 x8
theorem f11_0_u (c : Orc) (lf : Nat) (l0 : List T) (n : Nat) (x7 x8 : Int) : f11_0 c lf l0 (n + 1) x7 x8 = f11_0_s c lf l0 (f11_0 c lf l0 n) x7 x8 := rfl
theorem f11_0_eq (c : Orc) (lf : Nat) (l0 : List T) (n : Nat) (x7 x8 : Int) :
 lpK c env lf 6 fi11 1 3 [] [0, 3, 4] (x11_3_0) n (f11_0_c l0 x7 x8) = f11_0 c lf l0 n x7 x8 := by
 induction n generalizing x7 x8 with
 | zero => rfl
 | succ n ih =>
  refine (f11_0_round c lf l0 _ x7 x8).trans ?_
  have e : (fun x7 x8 => lpK c env lf 6 fi11 1 3 [] [0, 3, 4] (x11_3_0) n (f11_0_c l0 x7 x8)) = f11_0 c lf l0 n := by funext x7 x8; exact ih x7 x8
  show f11_0_s c lf l0 (fun x7 x8 => lpK c env lf 6 fi11 1 3 [] [0, 3, 4] (x11_3_0) n (f11_0_c l0 x7 x8)) x7 x8 = _
  rw [e]; rfl
def f11_t (c : Orc) (lf : Nat) (lp0 : List T → Int → Int → Option (List T)) (l0 : List T) : Option (List T) :=
 (lp0 l0 (IntKind.wrap .i64 (351351 + (l0.length : Int))) 0).bind fun r9 =>
 some [T.st [T.sl (asL (nth r9 1)), T.i .i64 0, T.i .i64 (asI (nth r9 2))]]
def f11 (c : Orc) (lf : Nat) (l0 : List T) : Option (List T) := f11_t c lf (fun (l0 : List T) (x7 x8 : Int) => f11_0 c lf l0 lf x7 x8) l0
theorem f11_raw (c : Orc) (lf : Nat) (l0 : List T) : funK c env lf 6 fi11 [.sl l0] = f11_t c lf (fun (l0 : List T) (x7 x8 : Int) => lpK c env lf 6 fi11 1 3 [] [0, 3, 4] (x11_3_0) lf (f11_0_c l0 x7 x8)) l0 := by kernel_rfl
theorem f11_eq (c : Orc) (lf : Nat) (l0 : List T) : funK c env lf 6 fi11 [.sl l0] = f11 c lf l0 := by
 refine (f11_raw c lf l0).trans ?_
 have e0 : (fun (l0 : List T) (x7 x8 : Int) => lpK c env lf 6 fi11 1 3 [] [0, 3, 4] (x11_3_0) lf (f11_0_c l0 x7 x8)) = (fun (l0 : List T) (x7 x8 : Int) => f11_0 c lf l0 lf x7 x8) := by funext l0 x7 x8; exact f11_0_eq c lf l0 lf x7 x8
 rw [e0]; rfl
def f25_t (c : Orc) (lf : Nat) (l0_0 : List T) (n0_1 n0_2 : Int) : Option (List T) :=
 bif iLt n0_1 (l0_0.length : Int) then
  bif inR n0_1 l0_0.length then
  some [T.i .i64 (intBits .and .i64 (IntKind.wrap .i64 ((intBits .and .i64 (intBits .xor .i64 (shiftI .shr .i64 (IntKind.wrap .i64 ((IntKind.wrap .i64 (n0_2 * 6364136223846793005)) + 1442695040888963407)) 33) (shiftI .shr .i64 (IntKind.wrap .i64 ((IntKind.wrap .i64 (n0_2 * 6364136223846793005)) + 1442695040888963407)) 47)) 255) + (IntKind.wrap .i64 (asI (l0_0.getD n0_1.toNat T.u))))) 255), T.st [T.sl l0_0, T.i .i64 (IntKind.wrap .i64 (n0_1 + 1)), T.i .i64 (IntKind.wrap .i64 ((IntKind.wrap .i64 (n0_2 * 6364136223846793005)) + 1442695040888963407))]]
  else none
 else
  some [T.i .i64 (intBits .and .i64 (intBits .xor .i64 (shiftI .shr .i64 (IntKind.wrap .i64 ((IntKind.wrap .i64 (n0_2 * 6364136223846793005)) + 1442695040888963407)) 33) (shiftI .shr .i64 (IntKind.wrap .i64 ((IntKind.wrap .i64 (n0_2 * 6364136223846793005)) + 1442695040888963407)) 47)) 255), T.st [T.sl l0_0, T.i .i64 n0_1, T.i .i64 (IntKind.wrap .i64 ((IntKind.wrap .i64 (n0_2 * 6364136223846793005)) + 1442695040888963407))]]
def f25 (c : Orc) (lf : Nat) (l0_0 : List T) (n0_1 n0_2 : Int) : Option (List T) := f25_t c lf l0_0 n0_1 n0_2
theorem f25_eq (c : Orc) (lf : Nat) (l0_0 : List T) (n0_1 n0_2 : Int) : funK c env lf 6 fi25 [.st [.sl l0_0, .i .i64 n0_1, .i .i64 n0_2]] = f25 c lf l0_0 n0_1 n0_2 := by kernel_rfl
def f17_t (c : Orc) (lf : Nat) (l0_0 : List T) (n0_1 n0_2 n1 : Int) : Option (List T) :=
 bif iLe n1 0 then
  some [T.i .i64 0, T.st [T.sl l0_0, T.i .i64 n0_1, T.i .i64 n0_2]]
 else
  bif iLe n1 256 then
   (c 25 [T.st [T.sl l0_0, T.i .i64 n0_1, T.i .i64 n0_2]]).bind fun r10 =>
   bif n1 != 0 then
   some [T.i .i64 ((asI (nth r10 0)).tmod n1), T.st [T.sl l0_0, T.i .i64 (asI (T.cell (nth r10 1) 1)), T.i .i64 (asI (T.cell (nth r10 1) 2))]]
   else none
  else
   (c 25 [T.st [T.sl l0_0, T.i .i64 n0_1, T.i .i64 n0_2]]).bind fun r11 =>
   (c 25 [T.st [T.sl l0_0, T.i .i64 (asI (T.cell (nth r11 1) 1)), T.i .i64 (asI (T.cell (nth r11 1) 2))]]).bind fun r12 =>
   (c 25 [T.st [T.sl l0_0, T.i .i64 (asI (T.cell (nth r12 1) 1)), T.i .i64 (asI (T.cell (nth r12 1) 2))]]).bind fun r13 =>
   bif n1 != 0 then
   some [T.i .i64 ((IntKind.wrap .i64 ((IntKind.wrap .i64 ((IntKind.wrap .i64 ((asI (nth r11 0)) * 65536)) + (IntKind.wrap .i64 ((asI (nth r12 0)) * 256)))) + (asI (nth r13 0)))).tmod n1), T.st [T.sl l0_0, T.i .i64 (asI (T.cell (nth r13 1) 1)), T.i .i64 (asI (T.cell (nth r13 1) 2))]]
   else none
def f17 (c : Orc) (lf : Nat) (l0_0 : List T) (n0_1 n0_2 n1 : Int) : Option (List T) := f17_t c lf l0_0 n0_1 n0_2 n1
theorem f17_eq (c : Orc) (lf : Nat) (l0_0 : List T) (n0_1 n0_2 n1 : Int) : funK c env lf 6 fi17 [.st [.sl l0_0, .i .i64 n0_1, .i .i64 n0_2], .i .i64 n1] = f17 c lf l0_0 n0_1 n0_2 n1 := by kernel_rfl
def f13_t (c : Orc) (lf : Nat) (l0_0 : List T) (n0_1 n0_2 : Int) (l1 : List T) : Option (List T) :=
 (c 17 [T.st [T.sl l0_0, T.i .i64 n0_1, T.i .i64 n0_2], T.i .i64 (l1.length : Int)]).bind fun r14 =>
 bif inR (asI (nth r14 0)) l1.length then
 some [T.i .i64 (asI (l1.getD ((asI (nth r14 0)).toNat) T.u)), T.st [T.sl l0_0, T.i .i64 (asI (T.cell (nth r14 1) 1)), T.i .i64 (asI (T.cell (nth r14 1) 2))]]
 else none
def f13 (c : Orc) (lf : Nat) (l0_0 : List T) (n0_1 n0_2 : Int) (l1 : List T) : Option (List T) := f13_t c lf l0_0 n0_1 n0_2 l1
theorem f13_eq (c : Orc) (lf : Nat) (l0_0 : List T) (n0_1 n0_2 : Int) (l1 : List T) : funK c env lf 6 fi13 [.st [.sl l0_0, .i .i64 n0_1, .i .i64 n0_2], .sl l1] = f13 c lf l0_0 n0_1 n0_2 l1 := by kernel_rfl
def f21_0_s (c : Orc) (lf : Nat) (l0_0 : List T) (L : Int → Int → Int → Int → List T → Option (List T)) (x32 x33 : Int) (x34 x35 : Int) (x36 : List T) : Option (List T) :=
 bif iLt 0 x33 then
  (c 17 [T.st [T.sl l0_0, T.i .i64 x34, T.i .i64 x35], T.i .i64 12]).bind fun r37 =>
  (c 17 [T.st [T.sl l0_0, T.i .i64 (asI (T.cell (nth r37 1) 1)), T.i .i64 (asI (T.cell (nth r37 1) 2))], T.i .i64 2]).bind fun r38 =>
  (c 13 [T.st [T.sl l0_0, T.i .i64 (asI (T.cell (nth r38 1) 1)), T.i .i64 (asI (T.cell (nth r38 1) 2))], T.sl ([T.i .i64 0, T.i .i64 1, T.i .i64 5, T.i .i64 8, T.i .i64 400] : List T)]).bind fun r39 =>
  bif nLe (x36.length + ([T.st [T.i .i64 (IntKind.wrap .i64 (x32 + (asI (nth r37 0)))), T.i .i64 (IntKind.wrap .i64 (1 + (asI (nth r38 0)))), T.i .i64 (asI (nth r39 0))]] : List T).length) LIM then
  L (IntKind.wrap .i64 ((IntKind.wrap .i64 (x32 + (asI (nth r37 0)))) + 1)) (IntKind.wrap .i64 (x33 - 1)) (asI (T.cell (nth r39 1) 1)) (asI (T.cell (nth r39 1) 2)) (x36 ++ ([T.st [T.i .i64 (IntKind.wrap .i64 (x32 + (asI (nth r37 0)))), T.i .i64 (IntKind.wrap .i64 (1 + (asI (nth r38 0)))), T.i .i64 (asI (nth r39 0))]] : List T))
  else none
 else
  some [T.i .i64 0, T.sl l0_0, T.i .i64 x34, T.i .i64 x35, T.sl x36]
def f21_0_c (l0_0 : List T) (x32 x33 : Int) (x34 x35 : Int) (x36 : List T) : CSt := ⟨[.bp 0 0, .rf 4 [] 0 none, .i .i64 x32, .i .i64 x33], [.box [.ro 1 false [.i .u8] l0_0, .i .i64 x34, .i .i64 x35], .dead, .dead, .dead, .row true [.i .i64, .i .i64, .i .i64] x36 0 false]⟩
theorem f21_0_round (c : Orc) (lf : Nat) (l0_0 : List T) (L : CSt → Option (List T)) (x32 x33 : Int) (x34 x35 : Int) (x36 : List T) :
 roundK c env lf 6 fi21 4 4 [] [0, 3, 4, 5] (x21_4_0) L (f21_0_c l0_0 x32 x33 x34 x35 x36) = f21_0_s c lf l0_0 (fun x32 x33 x34 x35 x36 => L (f21_0_c l0_0 x32 x33 x34 x35 x36)) x32 x33 x34 x35 x36 := by kernel_rfl
def f21_0 (c : Orc) (lf : Nat) (l0_0 : List T) : Nat → Int → Int → Int → Int → List T → Option (List T)
 | 0 => fun _ _ _ _ _ => none
 | n + 1 => fun x32 x33 x34 x35 x36 => f21_0_s c lf l0_0 (f21_0 c lf l0_0 n) x32 x33 x34 x35 x36
theorem f21_0_u (c : Orc) (lf : Nat) (l0_0 : List T) (n : Nat) (x32 x33 : Int) (x34 x35 : Int) (x36 : List T) : f21_0 c lf l0_0 (n + 1) x32 x33 x34 x35 x36 = f21_0_s c lf l0_0 (f21_0 c lf l0_0 n) x32 x33 x34 x35 x36 := rfl
theorem f21_0_eq (c : Orc) (lf : Nat) (l0_0 : List T) (n : Nat) (x32 x33 : Int) (x34 x35 : Int) (x36 : List T) :
 lpK c env lf 6 fi21 4 4 [] [0, 3, 4, 5] (x21_4_0) n (f21_0_c l0_0 x32 x33 x34 x35 x36) = f21_0 c lf l0_0 n x32 x33 x34 x35 x36 := by
 induction n generalizing x32 x33 x34 x35 x36 with
 | zero => rfl
 | succ n ih =>
  refine (f21_0_round c lf l0_0 _ x32 x33 x34 x35 x36).trans ?_
  have e : (fun x32 x33 x34 x35 x36 => lpK c env lf 6 fi21 4 4 [] [0, 3, 4, 5] (x21_4_0) n (f21_0_c l0_0 x32 x33 x34 x35 x36)) = f21_0 c lf l0_0 n := by funext x32 x33 x34 x35 x36; exact ih x32 x33 x34 x35 x36
  show f21_0_s c lf l0_0 (fun x32 x33 x34 x35 x36 => lpK c env lf 6 fi21 4 4 [] [0, 3, 4, 5] (x21_4_0) n (f21_0_c l0_0 x32 x33 x34 x35 x36)) x32 x33 x34 x35 x36 = _
  rw [e]; rfl
def f21_t (c : Orc) (lf : Nat) (lp0 : List T → Int → Int → Int → Int → List T → Option (List T)) (l0_0 : List T) (n0_1 n0_2 : Int) : Option (List T) :=
 (c 17 [T.st [T.sl l0_0, T.i .i64 n0_1, T.i .i64 n0_2], T.i .i64 4]).bind fun r28 =>
 (lp0 l0_0 0 (asI (nth r28 0)) (asI (T.cell (nth r28 1) 1)) (asI (T.cell (nth r28 1) 2)) ([] : List T)).bind fun r40 =>
 some [T.sl (asL (nth r40 4)), T.st [T.sl (asL (nth r40 1)), T.i .i64 (asI (nth r40 2)), T.i .i64 (asI (nth r40 3))]]
def f21 (c : Orc) (lf : Nat) (l0_0 : List T) (n0_1 n0_2 : Int) : Option (List T) := f21_t c lf (fun (l0_0 : List T) (x32 x33 : Int) (x34 x35 : Int) (x36 : List T) => f21_0 c lf l0_0 lf x32 x33 x34 x35 x36) l0_0 n0_1 n0_2
theorem f21_raw (c : Orc) (lf : Nat) (l0_0 : List T) (n0_1 n0_2 : Int) : funK c env lf 6 fi21 [.st [.sl l0_0, .i .i64 n0_1, .i .i64 n0_2]] = f21_t c lf (fun (l0_0 : List T) (x32 x33 : Int) (x34 x35 : Int) (x36 : List T) => lpK c env lf 6 fi21 4 4 [] [0, 3, 4, 5] (x21_4_0) lf (f21_0_c l0_0 x32 x33 x34 x35 x36)) l0_0 n0_1 n0_2 := by kernel_rfl
theorem f21_eq (c : Orc) (lf : Nat) (l0_0 : List T) (n0_1 n0_2 : Int) : funK c env lf 6 fi21 [.st [.sl l0_0, .i .i64 n0_1, .i .i64 n0_2]] = f21 c lf l0_0 n0_1 n0_2 := by
 refine (f21_raw c lf l0_0 n0_1 n0_2).trans ?_
 have e0 : (fun (l0_0 : List T) (x32 x33 : Int) (x34 x35 : Int) (x36 : List T) => lpK c env lf 6 fi21 4 4 [] [0, 3, 4, 5] (x21_4_0) lf (f21_0_c l0_0 x32 x33 x34 x35 x36)) = (fun (l0_0 : List T) (x32 x33 : Int) (x34 x35 : Int) (x36 : List T) => f21_0 c lf l0_0 lf x32 x33 x34 x35 x36) := by funext l0_0 x32 x33 x34 x35 x36; exact f21_0_eq c lf l0_0 lf x32 x33 x34 x35 x36
 rw [e0]; rfl
def f37_t (c : Orc) (lf : Nat) (n0 n1 n2 : Int) : Option (List T) :=
 bif iLe n1 n0 then
  some [T.b (iLe n0 n2)]
 else
  some [T.b false]
def f37 (c : Orc) (lf : Nat) (n0 n1 n2 : Int) : Option (List T) := f37_t c lf n0 n1 n2
theorem f37_eq (c : Orc) (lf : Nat) (n0 n1 n2 : Int) : funK c env lf 6 fi37 [.i .i64 n0, .i .i64 n1, .i .i64 n2] = f37 c lf n0 n1 n2 := by kernel_rfl
def f28_0_s (c : Orc) (lf : Nat) (n0 : Int) (L : Int → List T → Option (List T)) (x47 : Int) (x48 : List T) : Option (List T) :=
 bif iLt x47 n0 then
  (c 37 [T.i .i64 n0, T.i .i64 3, T.i .i64 24]).bind fun r49 =>
  bif asB (nth r49 0) then
   bif nLe (x48.length + ([T.st [T.sl ([T.st [T.b false, T.sl []], T.st [T.b false, T.sl []], T.st [T.b false, T.sl []], T.st [T.b false, T.sl []], T.st [T.b false, T.sl []], T.st [T.b false, T.sl []], T.st [T.b false, T.sl []], T.st [T.b false, T.sl []]] : List T), T.i .i64 0, T.b false]] : List T).length) LIM then
   L (IntKind.wrap .i64 (x47 + 1)) (x48 ++ ([T.st [T.sl ([T.st [T.b false, T.sl []], T.st [T.b false, T.sl []], T.st [T.b false, T.sl []], T.st [T.b false, T.sl []], T.st [T.b false, T.sl []], T.st [T.b false, T.sl []], T.st [T.b false, T.sl []], T.st [T.b false, T.sl []]] : List T), T.i .i64 0, T.b false]] : List T))
   else none
  else
   some [T.i .i64 0, T.sl ([] : List T), T.sl x48]
 else
  some [T.i .i64 0, T.sl ([] : List T), T.sl x48]
def f28_0_c (n0 x47 : Int) (x48 : List T) : CSt := ⟨[.i .i64 n0, .bp 1 0, .bp 3 0, .i .i64 x47], [.dead, .box [.rf 2 [] 0 none], .row true [.sl true [.b, .sl false [.i .u8]], .i .i64, .b] ([] : List T) 0 false, .box [.rf 4 [] 0 none], .row true [.sl true [.b, .sl false [.i .u8]], .i .i64, .b] x48 0 false]⟩
theorem f28_0_round (c : Orc) (lf : Nat) (n0 : Int) (L : CSt → Option (List T)) (x47 : Int) (x48 : List T) :
 roundK c env lf 6 fi28 1 3 [] [0, 2, 3, 4] (x28_3_0) L (f28_0_c n0 x47 x48) = f28_0_s c lf n0 (fun x47 x48 => L (f28_0_c n0 x47 x48)) x47 x48 := by kernel_rfl
def f28_0 (c : Orc) (lf : Nat) (n0 : Int) : Nat → Int → List T → Option (List T)
 | 0 => fun _ _ => none
 | n + 1 => fun x47 x48 => f28_0_s c lf n0 (f28_0 c lf n0 n) x47 x48
theorem f28_0_u (c : Orc) (lf : Nat) (n0 : Int) (n : Nat) (x47 : Int) (x48 : List T) : f28_0 c lf n0 (n + 1) x47 x48 = f28_0_s c lf n0 (f28_0 c lf n0 n) x47 x48 := rfl
theorem f28_0_eq (c : Orc) (lf : Nat) (n0 : Int) (n : Nat) (x47 : Int) (x48 : List T) :
 lpK c env lf 6 fi28 1 3 [] [0, 2, 3, 4] (x28_3_0) n (f28_0_c n0 x47 x48) = f28_0 c lf n0 n x47 x48 := by
 induction n generalizing x47 x48 with
 | zero => rfl
 | succ n ih =>
  refine (f28_0_round c lf n0 _ x47 x48).trans ?_
  have e : (fun x47 x48 => lpK c env lf 6 fi28 1 3 [] [0, 2, 3, 4] (x28_3_0) n (f28_0_c n0 x47 x48)) = f28_0 c lf n0 n := by funext x47 x48; exact ih x47 x48
  show f28_0_s c lf n0 (fun x47 x48 => lpK c env lf 6 fi28 1 3 [] [0, 2, 3, 4] (x28_3_0) n (f28_0_c n0 x47 x48)) x47 x48 = _
  rw [e]; rfl
def f28_t (c : Orc) (lf : Nat) (lp0 : Int → Int → List T → Option (List T)) (n0 : Int) : Option (List T) :=
 (lp0 n0 0 ([] : List T)).bind fun r50 =>
 some [T.st [T.sl (asL (nth r50 2))]]
def f28 (c : Orc) (lf : Nat) (n0 : Int) : Option (List T) := f28_t c lf (fun (n0 x47 : Int) (x48 : List T) => f28_0 c lf n0 lf x47 x48) n0
theorem f28_raw (c : Orc) (lf : Nat) (n0 : Int) : funK c env lf 6 fi28 [.i .i64 n0] = f28_t c lf (fun (n0 x47 : Int) (x48 : List T) => lpK c env lf 6 fi28 1 3 [] [0, 2, 3, 4] (x28_3_0) lf (f28_0_c n0 x47 x48)) n0 := by kernel_rfl
theorem f28_eq (c : Orc) (lf : Nat) (n0 : Int) : funK c env lf 6 fi28 [.i .i64 n0] = f28 c lf n0 := by
 refine (f28_raw c lf n0).trans ?_
 have e0 : (fun (n0 x47 : Int) (x48 : List T) => lpK c env lf 6 fi28 1 3 [] [0, 2, 3, 4] (x28_3_0) lf (f28_0_c n0 x47 x48)) = (fun (n0 x47 : Int) (x48 : List T) => f28_0 c lf n0 lf x47 x48) := by funext n0 x47 x48; exact f28_0_eq c lf n0 lf x47 x48
 rw [e0]; rfl
def f49_0_s (c : Orc) (lf : Nat) (b0_2 : Bool) (l0_0 : List T) (n0_1 : Int) (L : Int → Option (List T)) (x55 : Int) : Option (List T) :=
 bif iLt x55 (l0_0.length : Int) then
  bif inR x55 l0_0.length then
  bif iLt 400 ((asL (T.cell (l0_0.getD x55.toNat T.u) 1)).length : Int) then
   some [T.i .i64 0, T.b false]
  else
   bif !(asB (T.cell (l0_0.getD x55.toNat T.u) 0)) then
    bif iLt 0 ((asL (T.cell (l0_0.getD x55.toNat T.u) 1)).length : Int) then
     some [T.i .i64 0, T.b false]
    else
     bif iLt 0 x55 then
      bif asB (T.cell (l0_0.getD x55.toNat T.u) 0) then
       bif inR (IntKind.wrap .i64 (x55 - 1)) l0_0.length then
       bif !(asB (T.cell (l0_0.getD ((IntKind.wrap .i64 (x55 - 1)).toNat) T.u) 0)) then
        some [T.i .i64 0, T.b false]
       else
        L (IntKind.wrap .i64 (x55 + 1))
       else none
      else
       L (IntKind.wrap .i64 (x55 + 1))
     else
      L (IntKind.wrap .i64 (x55 + 1))
   else
    bif iLt 0 x55 then
     bif asB (T.cell (l0_0.getD x55.toNat T.u) 0) then
      bif inR (IntKind.wrap .i64 (x55 - 1)) l0_0.length then
      bif !(asB (T.cell (l0_0.getD ((IntKind.wrap .i64 (x55 - 1)).toNat) T.u) 0)) then
       some [T.i .i64 0, T.b false]
      else
       L (IntKind.wrap .i64 (x55 + 1))
      else none
     else
      L (IntKind.wrap .i64 (x55 + 1))
    else
     L (IntKind.wrap .i64 (x55 + 1))
  else none
 else
  some [T.i .i64 1]
def f49_0_c (b0_2 : Bool) (l0_0 : List T) (n0_1 x55 : Int) : CSt := ⟨[.bp 3 0, .i .i64 x55], [.dead, .dead, .dead, .box [.ro 0 true [.b, .sl false [.i .u8]] l0_0, .i .i64 n0_1, .b b0_2]]⟩
theorem f49_0_round (c : Orc) (lf : Nat) (b0_2 : Bool) (l0_0 : List T) (n0_1 : Int) (L : CSt → Option (List T)) (x55 : Int) :
 roundK c env lf 6 fi49 3 4 [] [1, 3] (x49_4_0) L (f49_0_c b0_2 l0_0 n0_1 x55) = f49_0_s c lf b0_2 l0_0 n0_1 (fun x55 => L (f49_0_c b0_2 l0_0 n0_1 x55)) x55 := by kernel_rfl
def f49_0 (c : Orc) (lf : Nat) (b0_2 : Bool) (l0_0 : List T) (n0_1 : Int) : Nat → Int → Option (List T)
 | 0 => fun _ => none
 | n + 1 => fun x55 => f49_0_s c lf b0_2 l0_0 n0_1 (f49_0 c lf b0_2 l0_0 n0_1 n) x55
theorem f49_0_u (c : Orc) (lf : Nat) (b0_2 : Bool) (l0_0 : List T) (n0_1 : Int) (n : Nat) (x55 : Int) : f49_0 c lf b0_2 l0_0 n0_1 (n + 1) x55 = f49_0_s c lf b0_2 l0_0 n0_1 (f49_0 c lf b0_2 l0_0 n0_1 n) x55 := rfl
theorem f49_0_eq (c : Orc) (lf : Nat) (b0_2 : Bool) (l0_0 : List T) (n0_1 : Int) (n : Nat) (x55 : Int) :
 lpK c env lf 6 fi49 3 4 [] [1, 3] (x49_4_0) n (f49_0_c b0_2 l0_0 n0_1 x55) = f49_0 c lf b0_2 l0_0 n0_1 n x55 := by
 induction n generalizing x55 with
 | zero => rfl
 | succ n ih =>
  refine (f49_0_round c lf b0_2 l0_0 n0_1 _ x55).trans ?_
  have e : (fun x55 => lpK c env lf 6 fi49 3 4 [] [1, 3] (x49_4_0) n (f49_0_c b0_2 l0_0 n0_1 x55)) = f49_0 c lf b0_2 l0_0 n0_1 n := by funext x55; exact ih x55
  show f49_0_s c lf b0_2 l0_0 n0_1 (fun x55 => lpK c env lf 6 fi49 3 4 [] [1, 3] (x49_4_0) n (f49_0_c b0_2 l0_0 n0_1 x55)) x55 = _
  rw [e]; rfl
def f49_t (c : Orc) (lf : Nat) (lp0 : Bool → List T → Int → Int → Option (List T)) (l0_0 : List T) (n0_1 : Int) (b0_2 : Bool) : Option (List T) :=
 bif (l0_0.length : Int) != 8 then
  some [T.b false]
 else
  (c 37 [T.i .i64 n0_1, T.i .i64 0, T.i .i64 100000]).bind fun r54 =>
  bif !(asB (nth r54 0)) then
   some [T.b false]
  else
   (lp0 b0_2 l0_0 n0_1 0).bind fun r56 =>
   bif asI (nth r56 0) == 0 then
    some [T.b (asB (nth r56 1))]
   else
    some [T.b true]
def f49 (c : Orc) (lf : Nat) (l0_0 : List T) (n0_1 : Int) (b0_2 : Bool) : Option (List T) := f49_t c lf (fun (b0_2 : Bool) (l0_0 : List T) (n0_1 x55 : Int) => f49_0 c lf b0_2 l0_0 n0_1 lf x55) l0_0 n0_1 b0_2
theorem f49_raw (c : Orc) (lf : Nat) (l0_0 : List T) (n0_1 : Int) (b0_2 : Bool) : funK c env lf 6 fi49 [.st [.sl l0_0, .i .i64 n0_1, .b b0_2]] = f49_t c lf (fun (b0_2 : Bool) (l0_0 : List T) (n0_1 x55 : Int) => lpK c env lf 6 fi49 3 4 [] [1, 3] (x49_4_0) lf (f49_0_c b0_2 l0_0 n0_1 x55)) l0_0 n0_1 b0_2 := by kernel_rfl
theorem f49_eq (c : Orc) (lf : Nat) (l0_0 : List T) (n0_1 : Int) (b0_2 : Bool) : funK c env lf 6 fi49 [.st [.sl l0_0, .i .i64 n0_1, .b b0_2]] = f49 c lf l0_0 n0_1 b0_2 := by
 refine (f49_raw c lf l0_0 n0_1 b0_2).trans ?_
 have e0 : (fun (b0_2 : Bool) (l0_0 : List T) (n0_1 x55 : Int) => lpK c env lf 6 fi49 3 4 [] [1, 3] (x49_4_0) lf (f49_0_c b0_2 l0_0 n0_1 x55)) = (fun (b0_2 : Bool) (l0_0 : List T) (n0_1 x55 : Int) => f49_0 c lf b0_2 l0_0 n0_1 lf x55) := by funext b0_2 l0_0 n0_1 x55; exact f49_0_eq c lf b0_2 l0_0 n0_1 lf x55
 rw [e0]; rfl
def f38_0_s (c : Orc) (lf : Nat) (l0_0 : List T) (L : Int → Option (List T)) (x63 : Int) : Option (List T) :=
 bif iLt x63 (l0_0.length : Int) then
  bif inR x63 l0_0.length then
  (c 49 [T.st [T.sl (asL (T.cell (l0_0.getD x63.toNat T.u) 0)), T.i .i64 (asI (T.cell (l0_0.getD x63.toNat T.u) 1)), T.b (asB (T.cell (l0_0.getD x63.toNat T.u) 2))]]).bind fun r64 =>
  bif !(asB (nth r64 0)) then
   some [T.i .i64 0, T.b false]
  else
   L (IntKind.wrap .i64 (x63 + 1))
  else none
 else
  some [T.i .i64 1, T.sl l0_0]
def f38_0_c (l0_0 : List T) (x63 : Int) : CSt := ⟨[.bp 1 0, .i .i64 x63], [.dead, .box [.ro 0 true [.sl true [.b, .sl false [.i .u8]], .i .i64, .b] l0_0]]⟩
theorem f38_0_round (c : Orc) (lf : Nat) (l0_0 : List T) (L : CSt → Option (List T)) (x63 : Int) :
 roundK c env lf 6 fi38 1 2 [] [1, 3] (x38_2_0) L (f38_0_c l0_0 x63) = f38_0_s c lf l0_0 (fun x63 => L (f38_0_c l0_0 x63)) x63 := by kernel_rfl
def f38_0 (c : Orc) (lf : Nat) (l0_0 : List T) : Nat → Int → Option (List T)
 | 0 => fun _ => none
 | n + 1 => fun x63 => f38_0_s c lf l0_0 (f38_0 c lf l0_0 n) x63
theorem f38_0_u (c : Orc) (lf : Nat) (l0_0 : List T) (n : Nat) (x63 : Int) : f38_0 c lf l0_0 (n + 1) x63 = f38_0_s c lf l0_0 (f38_0 c lf l0_0 n) x63 := rfl
theorem f38_0_eq (c : Orc) (lf : Nat) (l0_0 : List T) (n : Nat) (x63 : Int) :
 lpK c env lf 6 fi38 1 2 [] [1, 3] (x38_2_0) n (f38_0_c l0_0 x63) = f38_0 c lf l0_0 n x63 := by
 induction n generalizing x63 with
 | zero => rfl
 | succ n ih =>
  refine (f38_0_round c lf l0_0 _ x63).trans ?_
  have e : (fun x63 => lpK c env lf 6 fi38 1 2 [] [1, 3] (x38_2_0) n (f38_0_c l0_0 x63)) = f38_0 c lf l0_0 n := by funext x63; exact ih x63
  show f38_0_s c lf l0_0 (fun x63 => lpK c env lf 6 fi38 1 2 [] [1, 3] (x38_2_0) n (f38_0_c l0_0 x63)) x63 = _
  rw [e]; rfl
def f38_t (c : Orc) (lf : Nat) (lp0 : List T → Int → Option (List T)) (l0_0 : List T) : Option (List T) :=
 (lp0 l0_0 0).bind fun r65 =>
 bif asI (nth r65 0) == 0 then
  some [T.b (asB (nth r65 1))]
 else
  (c 37 [T.i .i64 ((asL (nth r65 1)).length : Int), T.i .i64 3, T.i .i64 24]).bind fun r66 =>
  some [T.b (asB (nth r66 0))]
def f38 (c : Orc) (lf : Nat) (l0_0 : List T) : Option (List T) := f38_t c lf (fun (l0_0 : List T) (x63 : Int) => f38_0 c lf l0_0 lf x63) l0_0
theorem f38_raw (c : Orc) (lf : Nat) (l0_0 : List T) : funK c env lf 6 fi38 [.st [.sl l0_0]] = f38_t c lf (fun (l0_0 : List T) (x63 : Int) => lpK c env lf 6 fi38 1 2 [] [1, 3] (x38_2_0) lf (f38_0_c l0_0 x63)) l0_0 := by kernel_rfl
theorem f38_eq (c : Orc) (lf : Nat) (l0_0 : List T) : funK c env lf 6 fi38 [.st [.sl l0_0]] = f38 c lf l0_0 := by
 refine (f38_raw c lf l0_0).trans ?_
 have e0 : (fun (l0_0 : List T) (x63 : Int) => lpK c env lf 6 fi38 1 2 [] [1, 3] (x38_2_0) lf (f38_0_c l0_0 x63)) = (fun (l0_0 : List T) (x63 : Int) => f38_0 c lf l0_0 lf x63) := by funext l0_0 x63; exact f38_0_eq c lf l0_0 lf x63
 rw [e0]; rfl
def f39_0_s (c : Orc) (lf : Nat) (l0 : List T) (L : Int → Option (List T)) (x78 : Int) : Option (List T) :=
 bif iLt x78 (l0.length : Int) then
  bif inR x78 l0.length then
  (c 37 [T.i .i64 (asI (T.cell (l0.getD x78.toNat T.u) 0)), T.i .i64 0, T.i .i64 100000]).bind fun r79 =>
  bif !(asB (nth r79 0)) then
   some [T.i .i64 0, T.b false]
  else
   bif inR x78 l0.length then
   (c 37 [T.i .i64 (asI (T.cell (l0.getD x78.toNat T.u) 1)), T.i .i64 1, T.i .i64 2]).bind fun r80 =>
   bif !(asB (nth r80 0)) then
    some [T.i .i64 0, T.b false]
   else
    bif inR x78 l0.length then
    (c 37 [T.i .i64 (asI (T.cell (l0.getD x78.toNat T.u) 2)), T.i .i64 0, T.i .i64 400]).bind fun r81 =>
    bif !(asB (nth r81 0)) then
     some [T.i .i64 0, T.b false]
    else
     bif iLt 0 x78 then
      bif inR (IntKind.wrap .i64 (x78 - 1)) l0.length then
      bif inR x78 l0.length then
      bif iLe (asI (T.cell (l0.getD x78.toNat T.u) 0)) (asI (T.cell (l0.getD ((IntKind.wrap .i64 (x78 - 1)).toNat) T.u) 0)) then
       some [T.i .i64 0, T.b false]
      else
       L (IntKind.wrap .i64 (x78 + 1))
      else none
      else none
     else
      L (IntKind.wrap .i64 (x78 + 1))
    else none
   else none
  else none
 else
  some [T.i .i64 1, T.sl l0]
def f39_0_c (l0 : List T) (x78 : Int) : CSt := ⟨[.ro 0 true [.i .i64, .i .i64, .i .i64] l0, .i .i64 x78], [.dead]⟩
theorem f39_0_round (c : Orc) (lf : Nat) (l0 : List T) (L : CSt → Option (List T)) (x78 : Int) :
 roundK c env lf 6 fi39 1 2 [] [0, 3] (x39_2_0) L (f39_0_c l0 x78) = f39_0_s c lf l0 (fun x78 => L (f39_0_c l0 x78)) x78 := by kernel_rfl
def f39_0 (c : Orc) (lf : Nat) (l0 : List T) : Nat → Int → Option (List T)
 | 0 => fun _ => none
 | n + 1 => fun x78 => f39_0_s c lf l0 (f39_0 c lf l0 n) x78
theorem f39_0_u (c : Orc) (lf : Nat) (l0 : List T) (n : Nat) (x78 : Int) : f39_0 c lf l0 (n + 1) x78 = f39_0_s c lf l0 (f39_0 c lf l0 n) x78 := rfl
theorem f39_0_eq (c : Orc) (lf : Nat) (l0 : List T) (n : Nat) (x78 : Int) :
 lpK c env lf 6 fi39 1 2 [] [0, 3] (x39_2_0) n (f39_0_c l0 x78) = f39_0 c lf l0 n x78 := by
 induction n generalizing x78 with
 | zero => rfl
 | succ n ih =>
  refine (f39_0_round c lf l0 _ x78).trans ?_
  have e : (fun x78 => lpK c env lf 6 fi39 1 2 [] [0, 3] (x39_2_0) n (f39_0_c l0 x78)) = f39_0 c lf l0 n := by funext x78; exact ih x78
  show f39_0_s c lf l0 (fun x78 => lpK c env lf 6 fi39 1 2 [] [0, 3] (x39_2_0) n (f39_0_c l0 x78)) x78 = _
  rw [e]; rfl
def f39_t (c : Orc) (lf : Nat) (lp0 : List T → Int → Option (List T)) (l0 : List T) : Option (List T) :=
 (lp0 l0 0).bind fun r82 =>
 bif asI (nth r82 0) == 0 then
  some [T.b (asB (nth r82 1))]
 else
  some [T.b (iLe ((asL (nth r82 1)).length : Int) 20)]
def f39 (c : Orc) (lf : Nat) (l0 : List T) : Option (List T) := f39_t c lf (fun (l0 : List T) (x78 : Int) => f39_0 c lf l0 lf x78) l0
theorem f39_raw (c : Orc) (lf : Nat) (l0 : List T) : funK c env lf 6 fi39 [.sl l0] = f39_t c lf (fun (l0 : List T) (x78 : Int) => lpK c env lf 6 fi39 1 2 [] [0, 3] (x39_2_0) lf (f39_0_c l0 x78)) l0 := by kernel_rfl
theorem f39_eq (c : Orc) (lf : Nat) (l0 : List T) : funK c env lf 6 fi39 [.sl l0] = f39 c lf l0 := by
 refine (f39_raw c lf l0).trans ?_
 have e0 : (fun (l0 : List T) (x78 : Int) => lpK c env lf 6 fi39 1 2 [] [0, 3] (x39_2_0) lf (f39_0_c l0 x78)) = (fun (l0 : List T) (x78 : Int) => f39_0 c lf l0 lf x78) := by funext l0 x78; exact f39_0_eq c lf l0 lf x78
 rw [e0]; rfl
def f29_t (c : Orc) (lf : Nat) (l0_0 : List T) (n0_1 : Int) (l0_2 : List T) (b0_3 : Bool) : Option (List T) :=
 (c 38 [T.st [T.sl l0_0]]).bind fun r83 =>
 bif asB (nth r83 0) then
  (c 37 [T.i .i64 n0_1, T.i .i64 0, T.i .i64 100000]).bind fun r84 =>
  bif asB (nth r84 0) then
   (c 39 [T.sl l0_2]).bind fun r85 =>
   some [T.b (asB (nth r85 0))]
  else
   some [T.b false]
 else
  some [T.b false]
def f29 (c : Orc) (lf : Nat) (l0_0 : List T) (n0_1 : Int) (l0_2 : List T) (b0_3 : Bool) : Option (List T) := f29_t c lf l0_0 n0_1 l0_2 b0_3
theorem f29_eq (c : Orc) (lf : Nat) (l0_0 : List T) (n0_1 : Int) (l0_2 : List T) (b0_3 : Bool) : funK c env lf 6 fi29 [.st [.sl l0_0, .i .i64 n0_1, .sl l0_2, .b b0_3]] = f29 c lf l0_0 n0_1 l0_2 b0_3 := by kernel_rfl
def f20_t (c : Orc) (lf : Nat) (n0 : Int) (l1 : List T) : Option (List T) :=
 (c 28 [T.i .i64 n0]).bind fun r86 =>
 bif nLe (([] : List T).length + l1.length) LIM then
 (c 29 [T.st [T.sl (asL (T.cell (nth r86 0) 0)), T.i .i64 0, T.sl (([] : List T) ++ l1), T.b false]]).bind fun r87 =>
 bif !(asB (nth r87 0)) then
  some [T.st [T.sl [], T.i .i64 0, T.sl [], T.b false]]
 else
  some [T.st [T.sl (asL (T.cell (nth r86 0) 0)), T.i .i64 0, T.sl (([] : List T) ++ l1), T.b false]]
 else none
def f20 (c : Orc) (lf : Nat) (n0 : Int) (l1 : List T) : Option (List T) := f20_t c lf n0 l1
theorem f20_eq (c : Orc) (lf : Nat) (n0 : Int) (l1 : List T) : funK c env lf 6 fi20 [.i .i64 n0, .sl l1] = f20 c lf n0 l1 := by kernel_rfl
def f33_0_s (c : Orc) (lf : Nat) (l0_0 : List T) (n1 : Int) (L : Int → Int → Int → List T → Option (List T)) (x96 x97 x98 : Int) (x99 : List T) : Option (List T) :=
 bif iLt x96 n1 then
  (c 25 [T.st [T.sl l0_0, T.i .i64 x97, T.i .i64 x98]]).bind fun r100 =>
  bif nLe (x99.length + ([T.i .u8 (IntKind.wrap .u8 (asI (nth r100 0)))] : List T).length) LIM then
  L (IntKind.wrap .i64 (x96 + 1)) (asI (T.cell (nth r100 1) 1)) (asI (T.cell (nth r100 1) 2)) (x99 ++ ([T.i .u8 (IntKind.wrap .u8 (asI (nth r100 0)))] : List T))
  else none
 else
  some [T.i .i64 0, T.sl l0_0, T.i .i64 x97, T.i .i64 x98, T.sl x99]
def f33_0_c (l0_0 : List T) (n1 x96 : Int) (x97 x98 : Int) (x99 : List T) : CSt := ⟨[.bp 0 0, .i .i64 n1, .rf 5 [] 0 none, .i .i64 x96], [.box [.ro 1 false [.i .u8] l0_0, .i .i64 x97, .i .i64 x98], .dead, .dead, .dead, .dead, .row false [.i .u8] x99 0 false]⟩
theorem f33_0_round (c : Orc) (lf : Nat) (l0_0 : List T) (n1 : Int) (L : CSt → Option (List T)) (x96 x97 x98 : Int) (x99 : List T) :
 roundK c env lf 6 fi33 5 3 [] [0, 1, 5, 6] (x33_3_0) L (f33_0_c l0_0 n1 x96 x97 x98 x99) = f33_0_s c lf l0_0 n1 (fun x96 x97 x98 x99 => L (f33_0_c l0_0 n1 x96 x97 x98 x99)) x96 x97 x98 x99 := by kernel_rfl
def f33_0 (c : Orc) (lf : Nat) (l0_0 : List T) (n1 : Int) : Nat → Int → Int → Int → List T → Option (List T)
 | 0 => fun _ _ _ _ => none
 | n + 1 => fun x96 x97 x98 x99 => f33_0_s c lf l0_0 n1 (f33_0 c lf l0_0 n1 n) x96 x97 x98 x99
theorem f33_0_u (c : Orc) (lf : Nat) (l0_0 : List T) (n1 : Int) (n : Nat) (x96 x97 x98 : Int) (x99 : List T) : f33_0 c lf l0_0 n1 (n + 1) x96 x97 x98 x99 = f33_0_s c lf l0_0 n1 (f33_0 c lf l0_0 n1 n) x96 x97 x98 x99 := rfl
theorem f33_0_eq (c : Orc) (lf : Nat) (l0_0 : List T) (n1 : Int) (n : Nat) (x96 x97 x98 : Int) (x99 : List T) :
 lpK c env lf 6 fi33 5 3 [] [0, 1, 5, 6] (x33_3_0) n (f33_0_c l0_0 n1 x96 x97 x98 x99) = f33_0 c lf l0_0 n1 n x96 x97 x98 x99 := by
 induction n generalizing x96 x97 x98 x99 with
 | zero => rfl
 | succ n ih =>
  refine (f33_0_round c lf l0_0 n1 _ x96 x97 x98 x99).trans ?_
  have e : (fun x96 x97 x98 x99 => lpK c env lf 6 fi33 5 3 [] [0, 1, 5, 6] (x33_3_0) n (f33_0_c l0_0 n1 x96 x97 x98 x99)) = f33_0 c lf l0_0 n1 n := by funext x96 x97 x98 x99; exact ih x96 x97 x98 x99
  show f33_0_s c lf l0_0 n1 (fun x96 x97 x98 x99 => lpK c env lf 6 fi33 5 3 [] [0, 1, 5, 6] (x33_3_0) n (f33_0_c l0_0 n1 x96 x97 x98 x99)) x96 x97 x98 x99 = _
  rw [e]; rfl
def f33_t (c : Orc) (lf : Nat) (lp0 : List T → Int → Int → Int → Int → List T → Option (List T)) (l0_0 : List T) (n0_1 n0_2 n1 : Int) : Option (List T) :=
 (lp0 l0_0 n1 0 n0_1 n0_2 ([] : List T)).bind fun r101 =>
 some [T.sl (asL (nth r101 4)), T.st [T.sl (asL (nth r101 1)), T.i .i64 (asI (nth r101 2)), T.i .i64 (asI (nth r101 3))]]
def f33 (c : Orc) (lf : Nat) (l0_0 : List T) (n0_1 n0_2 n1 : Int) : Option (List T) := f33_t c lf (fun (l0_0 : List T) (n1 x96 : Int) (x97 x98 : Int) (x99 : List T) => f33_0 c lf l0_0 n1 lf x96 x97 x98 x99) l0_0 n0_1 n0_2 n1
theorem f33_raw (c : Orc) (lf : Nat) (l0_0 : List T) (n0_1 n0_2 n1 : Int) : funK c env lf 6 fi33 [.st [.sl l0_0, .i .i64 n0_1, .i .i64 n0_2], .i .i64 n1] = f33_t c lf (fun (l0_0 : List T) (n1 x96 : Int) (x97 x98 : Int) (x99 : List T) => lpK c env lf 6 fi33 5 3 [] [0, 1, 5, 6] (x33_3_0) lf (f33_0_c l0_0 n1 x96 x97 x98 x99)) l0_0 n0_1 n0_2 n1 := by kernel_rfl
theorem f33_eq (c : Orc) (lf : Nat) (l0_0 : List T) (n0_1 n0_2 n1 : Int) : funK c env lf 6 fi33 [.st [.sl l0_0, .i .i64 n0_1, .i .i64 n0_2], .i .i64 n1] = f33 c lf l0_0 n0_1 n0_2 n1 := by
 refine (f33_raw c lf l0_0 n0_1 n0_2 n1).trans ?_
 have e0 : (fun (l0_0 : List T) (n1 x96 : Int) (x97 x98 : Int) (x99 : List T) => lpK c env lf 6 fi33 5 3 [] [0, 1, 5, 6] (x33_3_0) lf (f33_0_c l0_0 n1 x96 x97 x98 x99)) = (fun (l0_0 : List T) (n1 x96 : Int) (x97 x98 : Int) (x99 : List T) => f33_0 c lf l0_0 n1 lf x96 x97 x98 x99) := by funext l0_0 n1 x96 x97 x98 x99; exact f33_0_eq c lf l0_0 n1 lf x96 x97 x98 x99
 rw [e0]; rfl
def f23_t (c : Orc) (lf : Nat) (l0_0 : List T) (n0_1 n0_2 : Int) : Option (List T) :=
 (c 13 [T.st [T.sl l0_0, T.i .i64 n0_1, T.i .i64 n0_2], T.sl ([T.i .i64 0, T.i .i64 1, T.i .i64 2, T.i .i64 5, T.i .i64 9] : List T)]).bind fun r102 =>
 (c 33 [T.st [T.sl l0_0, T.i .i64 (asI (T.cell (nth r102 1) 1)), T.i .i64 (asI (T.cell (nth r102 1) 2))], T.i .i64 (asI (nth r102 0))]).bind fun r103 =>
 some [T.sl (asL (nth r103 0)), T.st [T.sl l0_0, T.i .i64 (asI (T.cell (nth r103 1) 1)), T.i .i64 (asI (T.cell (nth r103 1) 2))]]
def f23 (c : Orc) (lf : Nat) (l0_0 : List T) (n0_1 n0_2 : Int) : Option (List T) := f23_t c lf l0_0 n0_1 n0_2
theorem f23_eq (c : Orc) (lf : Nat) (l0_0 : List T) (n0_1 n0_2 : Int) : funK c env lf 6 fi23 [.st [.sl l0_0, .i .i64 n0_1, .i .i64 n0_2]] = f23 c lf l0_0 n0_1 n0_2 := by kernel_rfl
def f55_0_s (c : Orc) (lf : Nat) (b0_2 : Bool) (l0_0 : List T) (n0_1 : Int) (L : Int → List T → Option (List T)) (x107 : Int) (x108 : List T) : Option (List T) :=
 bif iLt x107 (l0_0.length : Int) then
  bif inR x107 l0_0.length then
  bif inR x107 l0_0.length then
  bif nLe (([] : List T).length + (asL (T.cell (l0_0.getD x107.toNat T.u) 1)).length) LIM then
  bif nLe (x108.length + ([T.st [T.b (asB (T.cell (l0_0.getD x107.toNat T.u) 0)), T.sl (([] : List T) ++ (asL (T.cell (l0_0.getD x107.toNat T.u) 1)))]] : List T).length) LIM then
  L (IntKind.wrap .i64 (x107 + 1)) (x108 ++ ([T.st [T.b (asB (T.cell (l0_0.getD x107.toNat T.u) 0)), T.sl (([] : List T) ++ (asL (T.cell (l0_0.getD x107.toNat T.u) 1)))]] : List T))
  else none
  else none
  else none
  else none
 else
  some [T.i .i64 0, T.i .i64 0, T.b false, T.sl ([] : List T), T.i .i64 n0_1, T.b b0_2, T.sl x108]
def f55_0_c (b0_2 : Bool) (l0_0 : List T) (n0_1 x107 : Int) (x108 : List T) : CSt := ⟨[.bp 3 0, .bp 4 0, .bp 6 0, .i .i64 x107], [.dead, .dead, .dead, .box [.ro 0 true [.b, .sl false [.i .u8]] l0_0, .i .i64 n0_1, .b b0_2], .box [.rf 5 [] 0 none, .i .i64 0, .b false], .row true [.b, .sl false [.i .u8]] ([] : List T) 0 false, .box [.rf 7 [] 0 none, .i .i64 n0_1, .b b0_2], .row true [.b, .sl false [.i .u8]] x108 0 false]⟩
theorem f55_0_round (c : Orc) (lf : Nat) (b0_2 : Bool) (l0_0 : List T) (n0_1 : Int) (L : CSt → Option (List T)) (x107 : Int) (x108 : List T) :
 roundK c env lf 6 fi55 3 3 [] [1, 2, 3, 4] (x55_3_0) L (f55_0_c b0_2 l0_0 n0_1 x107 x108) = f55_0_s c lf b0_2 l0_0 n0_1 (fun x107 x108 => L (f55_0_c b0_2 l0_0 n0_1 x107 x108)) x107 x108 := by kernel_rfl
def f55_0 (c : Orc) (lf : Nat) (b0_2 : Bool) (l0_0 : List T) (n0_1 : Int) : Nat → Int → List T → Option (List T)
 | 0 => fun _ _ => none
 | n + 1 => fun x107 x108 => f55_0_s c lf b0_2 l0_0 n0_1 (f55_0 c lf b0_2 l0_0 n0_1 n) x107 x108
theorem f55_0_u (c : Orc) (lf : Nat) (b0_2 : Bool) (l0_0 : List T) (n0_1 : Int) (n : Nat) (x107 : Int) (x108 : List T) : f55_0 c lf b0_2 l0_0 n0_1 (n + 1) x107 x108 = f55_0_s c lf b0_2 l0_0 n0_1 (f55_0 c lf b0_2 l0_0 n0_1 n) x107 x108 := rfl
theorem f55_0_eq (c : Orc) (lf : Nat) (b0_2 : Bool) (l0_0 : List T) (n0_1 : Int) (n : Nat) (x107 : Int) (x108 : List T) :
 lpK c env lf 6 fi55 3 3 [] [1, 2, 3, 4] (x55_3_0) n (f55_0_c b0_2 l0_0 n0_1 x107 x108) = f55_0 c lf b0_2 l0_0 n0_1 n x107 x108 := by
 induction n generalizing x107 x108 with
 | zero => rfl
 | succ n ih =>
  refine (f55_0_round c lf b0_2 l0_0 n0_1 _ x107 x108).trans ?_
  have e : (fun x107 x108 => lpK c env lf 6 fi55 3 3 [] [1, 2, 3, 4] (x55_3_0) n (f55_0_c b0_2 l0_0 n0_1 x107 x108)) = f55_0 c lf b0_2 l0_0 n0_1 n := by funext x107 x108; exact ih x107 x108
  show f55_0_s c lf b0_2 l0_0 n0_1 (fun x107 x108 => lpK c env lf 6 fi55 3 3 [] [1, 2, 3, 4] (x55_3_0) n (f55_0_c b0_2 l0_0 n0_1 x107 x108)) x107 x108 = _
  rw [e]; rfl
def f55_t (c : Orc) (lf : Nat) (lp0 : Bool → List T → Int → Int → List T → Option (List T)) (l0_0 : List T) (n0_1 : Int) (b0_2 : Bool) : Option (List T) :=
 (lp0 b0_2 l0_0 n0_1 0 ([] : List T)).bind fun r109 =>
 some [T.st [T.sl (asL (nth r109 6)), T.i .i64 (asI (nth r109 4)), T.b (asB (nth r109 5))]]
def f55 (c : Orc) (lf : Nat) (l0_0 : List T) (n0_1 : Int) (b0_2 : Bool) : Option (List T) := f55_t c lf (fun (b0_2 : Bool) (l0_0 : List T) (n0_1 x107 : Int) (x108 : List T) => f55_0 c lf b0_2 l0_0 n0_1 lf x107 x108) l0_0 n0_1 b0_2
theorem f55_raw (c : Orc) (lf : Nat) (l0_0 : List T) (n0_1 : Int) (b0_2 : Bool) : funK c env lf 6 fi55 [.st [.sl l0_0, .i .i64 n0_1, .b b0_2]] = f55_t c lf (fun (b0_2 : Bool) (l0_0 : List T) (n0_1 x107 : Int) (x108 : List T) => lpK c env lf 6 fi55 3 3 [] [1, 2, 3, 4] (x55_3_0) lf (f55_0_c b0_2 l0_0 n0_1 x107 x108)) l0_0 n0_1 b0_2 := by kernel_rfl
theorem f55_eq (c : Orc) (lf : Nat) (l0_0 : List T) (n0_1 : Int) (b0_2 : Bool) : funK c env lf 6 fi55 [.st [.sl l0_0, .i .i64 n0_1, .b b0_2]] = f55 c lf l0_0 n0_1 b0_2 := by
 refine (f55_raw c lf l0_0 n0_1 b0_2).trans ?_
 have e0 : (fun (b0_2 : Bool) (l0_0 : List T) (n0_1 x107 : Int) (x108 : List T) => lpK c env lf 6 fi55 3 3 [] [1, 2, 3, 4] (x55_3_0) lf (f55_0_c b0_2 l0_0 n0_1 x107 x108)) = (fun (b0_2 : Bool) (l0_0 : List T) (n0_1 x107 : Int) (x108 : List T) => f55_0 c lf b0_2 l0_0 n0_1 lf x107 x108) := by funext b0_2 l0_0 n0_1 x107 x108; exact f55_0_eq c lf b0_2 l0_0 n0_1 lf x107 x108
 rw [e0]; rfl
def f50_0_s (c : Orc) (lf : Nat) (l0_0 : List T) (L : Int → List T → Option (List T)) (x116 : Int) (x117 : List T) : Option (List T) :=
 bif iLt x116 (l0_0.length : Int) then
  bif inR x116 l0_0.length then
  (c 55 [T.st [T.sl (asL (T.cell (l0_0.getD x116.toNat T.u) 0)), T.i .i64 (asI (T.cell (l0_0.getD x116.toNat T.u) 1)), T.b (asB (T.cell (l0_0.getD x116.toNat T.u) 2))]]).bind fun r118 =>
  bif nLe (x117.length + ([T.st [T.sl (asL (T.cell (nth r118 0) 0)), T.i .i64 (asI (T.cell (nth r118 0) 1)), T.b (asB (T.cell (nth r118 0) 2))]] : List T).length) LIM then
  L (IntKind.wrap .i64 (x116 + 1)) (x117 ++ ([T.st [T.sl (asL (T.cell (nth r118 0) 0)), T.i .i64 (asI (T.cell (nth r118 0) 1)), T.b (asB (T.cell (nth r118 0) 2))]] : List T))
  else none
  else none
 else
  some [T.i .i64 0, T.sl ([] : List T), T.sl x117]
def f50_0_c (l0_0 : List T) (x116 : Int) (x117 : List T) : CSt := ⟨[.bp 1 0, .bp 2 0, .bp 4 0, .i .i64 x116], [.dead, .box [.ro 0 true [.sl true [.b, .sl false [.i .u8]], .i .i64, .b] l0_0], .box [.rf 3 [] 0 none], .row true [.sl true [.b, .sl false [.i .u8]], .i .i64, .b] ([] : List T) 0 false, .box [.rf 5 [] 0 none], .row true [.sl true [.b, .sl false [.i .u8]], .i .i64, .b] x117 0 false]⟩
theorem f50_0_round (c : Orc) (lf : Nat) (l0_0 : List T) (L : CSt → Option (List T)) (x116 : Int) (x117 : List T) :
 roundK c env lf 6 fi50 1 3 [] [1, 2, 3, 4] (x50_3_0) L (f50_0_c l0_0 x116 x117) = f50_0_s c lf l0_0 (fun x116 x117 => L (f50_0_c l0_0 x116 x117)) x116 x117 := by kernel_rfl
def f50_0 (c : Orc) (lf : Nat) (l0_0 : List T) : Nat → Int → List T → Option (List T)
 | 0 => fun _ _ => none
 | n + 1 => fun x116 x117 => f50_0_s c lf l0_0 (f50_0 c lf l0_0 n) x116 x117
theorem f50_0_u (c : Orc) (lf : Nat) (l0_0 : List T) (n : Nat) (x116 : Int) (x117 : List T) : f50_0 c lf l0_0 (n + 1) x116 x117 = f50_0_s c lf l0_0 (f50_0 c lf l0_0 n) x116 x117 := rfl
theorem f50_0_eq (c : Orc) (lf : Nat) (l0_0 : List T) (n : Nat) (x116 : Int) (x117 : List T) :
 lpK c env lf 6 fi50 1 3 [] [1, 2, 3, 4] (x50_3_0) n (f50_0_c l0_0 x116 x117) = f50_0 c lf l0_0 n x116 x117 := by
 induction n generalizing x116 x117 with
 | zero => rfl
 | succ n ih =>
  refine (f50_0_round c lf l0_0 _ x116 x117).trans ?_
  have e : (fun x116 x117 => lpK c env lf 6 fi50 1 3 [] [1, 2, 3, 4] (x50_3_0) n (f50_0_c l0_0 x116 x117)) = f50_0 c lf l0_0 n := by funext x116 x117; exact ih x116 x117
  show f50_0_s c lf l0_0 (fun x116 x117 => lpK c env lf 6 fi50 1 3 [] [1, 2, 3, 4] (x50_3_0) n (f50_0_c l0_0 x116 x117)) x116 x117 = _
  rw [e]; rfl
def f50_t (c : Orc) (lf : Nat) (lp0 : List T → Int → List T → Option (List T)) (l0_0 : List T) : Option (List T) :=
 (lp0 l0_0 0 ([] : List T)).bind fun r119 =>
 some [T.st [T.sl (asL (nth r119 2))]]
def f50 (c : Orc) (lf : Nat) (l0_0 : List T) : Option (List T) := f50_t c lf (fun (l0_0 : List T) (x116 : Int) (x117 : List T) => f50_0 c lf l0_0 lf x116 x117) l0_0
theorem f50_raw (c : Orc) (lf : Nat) (l0_0 : List T) : funK c env lf 6 fi50 [.st [.sl l0_0]] = f50_t c lf (fun (l0_0 : List T) (x116 : Int) (x117 : List T) => lpK c env lf 6 fi50 1 3 [] [1, 2, 3, 4] (x50_3_0) lf (f50_0_c l0_0 x116 x117)) l0_0 := by kernel_rfl
theorem f50_eq (c : Orc) (lf : Nat) (l0_0 : List T) : funK c env lf 6 fi50 [.st [.sl l0_0]] = f50 c lf l0_0 := by
 refine (f50_raw c lf l0_0).trans ?_
 have e0 : (fun (l0_0 : List T) (x116 : Int) (x117 : List T) => lpK c env lf 6 fi50 1 3 [] [1, 2, 3, 4] (x50_3_0) lf (f50_0_c l0_0 x116 x117)) = (fun (l0_0 : List T) (x116 : Int) (x117 : List T) => f50_0 c lf l0_0 lf x116 x117) := by funext l0_0 x116 x117; exact f50_0_eq c lf l0_0 lf x116 x117
 rw [e0]; rfl
def f40_t (c : Orc) (lf : Nat) (l0_0 : List T) (n0_1 : Int) (l0_2 : List T) (b0_3 : Bool) : Option (List T) :=
 (c 50 [T.st [T.sl l0_0]]).bind fun r120 =>
 bif nLe (([] : List T).length + l0_2.length) LIM then
 some [T.st [T.sl (asL (T.cell (nth r120 0) 0)), T.i .i64 n0_1, T.sl (([] : List T) ++ l0_2), T.b b0_3]]
 else none
def f40 (c : Orc) (lf : Nat) (l0_0 : List T) (n0_1 : Int) (l0_2 : List T) (b0_3 : Bool) : Option (List T) := f40_t c lf l0_0 n0_1 l0_2 b0_3
theorem f40_eq (c : Orc) (lf : Nat) (l0_0 : List T) (n0_1 : Int) (l0_2 : List T) (b0_3 : Bool) : funK c env lf 6 fi40 [.st [.sl l0_0, .i .i64 n0_1, .sl l0_2, .b b0_3]] = f40 c lf l0_0 n0_1 l0_2 b0_3 := by kernel_rfl
def f30_t (c : Orc) (lf : Nat) (l0_0 : List T) (n0_1 : Int) (l0_2 : List T) (b0_3 : Bool) (n0_4 : Int) : Option (List T) :=
 (c 40 [T.st [T.sl l0_0, T.i .i64 n0_1, T.sl l0_2, T.b b0_3]]).bind fun r121 =>
 some [T.st [T.sl (asL (T.cell (nth r121 0) 0)), T.i .i64 (asI (T.cell (nth r121 0) 1)), T.sl (asL (T.cell (nth r121 0) 2)), T.b (asB (T.cell (nth r121 0) 3)), T.i .i64 n0_4]]
def f30 (c : Orc) (lf : Nat) (l0_0 : List T) (n0_1 : Int) (l0_2 : List T) (b0_3 : Bool) (n0_4 : Int) : Option (List T) := f30_t c lf l0_0 n0_1 l0_2 b0_3 n0_4
theorem f30_eq (c : Orc) (lf : Nat) (l0_0 : List T) (n0_1 : Int) (l0_2 : List T) (b0_3 : Bool) (n0_4 : Int) : funK c env lf 6 fi30 [.st [.sl l0_0, .i .i64 n0_1, .sl l0_2, .b b0_3, .i .i64 n0_4]] = f30 c lf l0_0 n0_1 l0_2 b0_3 n0_4 := by kernel_rfl
def f31_t (c : Orc) (lf : Nat) (n0_0 n0_1 : Int) (l0_2 : List T) : Option (List T) :=
 (c 37 [T.i .i64 n0_0, T.i .i64 1, T.i .i64 4]).bind fun r122 =>
 bif asB (nth r122 0) then
  (c 37 [T.i .i64 n0_1, T.i .i64 0, T.i .i64 1000000]).bind fun r123 =>
  bif asB (nth r123 0) then
   some [T.b (iLe (l0_2.length : Int) 380)]
  else
   some [T.b false]
 else
  some [T.b false]
def f31 (c : Orc) (lf : Nat) (n0_0 n0_1 : Int) (l0_2 : List T) : Option (List T) := f31_t c lf n0_0 n0_1 l0_2
theorem f31_eq (c : Orc) (lf : Nat) (n0_0 n0_1 : Int) (l0_2 : List T) : funK c env lf 6 fi31 [.st [.i .i64 n0_0, .i .i64 n0_1, .sl l0_2]] = f31 c lf n0_0 n0_1 l0_2 := by kernel_rfl
def f52_0_s (c : Orc) (lf : Nat) (L : Int → List T → Option (List T)) (x131 : Int) (x132 : List T) : Option (List T) :=
 bif iLt 127 x131 then
  bif nLe (x132.length + ([T.i .u8 (IntKind.wrap .u8 (intBits .or .i64 (intBits .and .i64 x131 127) 128))] : List T).length) LIM then
  L (shiftI .shr .i64 x131 7) (x132 ++ ([T.i .u8 (IntKind.wrap .u8 (intBits .or .i64 (intBits .and .i64 x131 127) 128))] : List T))
  else none
 else
  some [T.i .i64 0, T.i .i64 x131, T.sl x132]
def f52_0_c (x131 : Int) (x132 : List T) : CSt := ⟨[.i .i64 x131, .rf 2 [] 0 none], [.dead, .dead, .row false [.i .u8] x132 0 false]⟩
theorem f52_0_round (c : Orc) (lf : Nat) (L : CSt → Option (List T)) (x131 : Int) (x132 : List T) :
 roundK c env lf 6 fi52 2 6 [] [1, 5] (x52_6_0) L (f52_0_c x131 x132) = f52_0_s c lf (fun x131 x132 => L (f52_0_c x131 x132)) x131 x132 := by kernel_rfl
def f52_0 (c : Orc) (lf : Nat) : Nat → Int → List T → Option (List T)
 | 0 => fun _ _ => none
 | n + 1 => fun x131 x132 => f52_0_s c lf (f52_0 c lf n) x131 x132
theorem f52_0_u (c : Orc) (lf n : Nat) (x131 : Int) (x132 : List T) : f52_0 c lf (n + 1) x131 x132 = f52_0_s c lf (f52_0 c lf n) x131 x132 := rfl
theorem f52_0_eq (c : Orc) (lf n : Nat) (x131 : Int) (x132 : List T) :
 lpK c env lf 6 fi52 2 6 [] [1, 5] (x52_6_0) n (f52_0_c x131 x132) = f52_0 c lf n x131 x132 := by
 induction n generalizing x131 x132 with
 | zero => rfl
 | succ n ih =>
  refine (f52_0_round c lf _ x131 x132).trans ?_
  have e : (fun x131 x132 => lpK c env lf 6 fi52 2 6 [] [1, 5] (x52_6_0) n (f52_0_c x131 x132)) = f52_0 c lf n := by funext x131 x132; exact ih x131 x132
  show f52_0_s c lf (fun x131 x132 => lpK c env lf 6 fi52 2 6 [] [1, 5] (x52_6_0) n (f52_0_c x131 x132)) x131 x132 = _
  rw [e]; rfl
def f52_1_s (c : Orc) (lf : Nat) (l0 : List T) (L : Unit → Option (List T)) : Option (List T) :=
 some [T.i .i64 0, T.i .i64 0, T.sl (([] : List T) ++ l0)]
def f52_1_c (l0 : List T) : CSt := ⟨[.i .i64 0, .rf 2 [] 0 none], [.dead, .dead, .row false [.i .u8] (([] : List T) ++ l0) 0 false]⟩
theorem f52_1_round (c : Orc) (lf : Nat) (l0 : List T) (L : CSt → Option (List T)) :
 roundK c env lf 6 fi52 2 6 [] [1, 5] (x52_6_0) L (f52_1_c l0) = f52_1_s c lf l0 (fun _ => L (f52_1_c l0)) := by kernel_rfl
def f52_1 (c : Orc) (lf : Nat) (l0 : List T) : Nat → Unit → Option (List T)
 | 0 => fun _ => none
 | n + 1 => fun _ => f52_1_s c lf l0 (f52_1 c lf l0 n)
theorem f52_1_eq (c : Orc) (lf : Nat) (l0 : List T) (n : Nat) :
 lpK c env lf 6 fi52 2 6 [] [1, 5] (x52_6_0) n (f52_1_c l0) = f52_1 c lf l0 n () := by
 induction n with
 | zero => rfl
 | succ n ih =>
  refine (f52_1_round c lf l0 _).trans ?_
  have e : (fun (_ : Unit) => lpK c env lf 6 fi52 2 6 [] [1, 5] (x52_6_0) n (f52_1_c l0)) = f52_1 c lf l0 n := by funext _; exact ih
  show f52_1_s c lf l0 (fun _ => lpK c env lf 6 fi52 2 6 [] [1, 5] (x52_6_0) n (f52_1_c l0)) = _
  rw [e]; rfl
def f52_2_s (c : Orc) (lf : Nat) (L : Int → List T → Option (List T)) (x135 : Int) (x136 : List T) : Option (List T) :=
 bif iLt 127 x135 then
  bif nLe (x136.length + ([T.i .u8 (IntKind.wrap .u8 (intBits .or .i64 (intBits .and .i64 x135 127) 128))] : List T).length) LIM then
  L (shiftI .shr .i64 x135 7) (x136 ++ ([T.i .u8 (IntKind.wrap .u8 (intBits .or .i64 (intBits .and .i64 x135 127) 128))] : List T))
  else none
 else
  some [T.i .i64 0, T.i .i64 x135, T.sl x136]
def f52_2_c (x135 : Int) (x136 : List T) : CSt := ⟨[.i .i64 x135, .rf 2 [] 0 none], [.dead, .dead, .row false [.i .u8] x136 0 false]⟩
theorem f52_2_round (c : Orc) (lf : Nat) (L : CSt → Option (List T)) (x135 : Int) (x136 : List T) :
 roundK c env lf 6 fi52 2 6 [] [1, 5] (x52_6_0) L (f52_2_c x135 x136) = f52_2_s c lf (fun x135 x136 => L (f52_2_c x135 x136)) x135 x136 := by kernel_rfl
def f52_2 (c : Orc) (lf : Nat) : Nat → Int → List T → Option (List T)
 | 0 => fun _ _ => none
 | n + 1 => fun x135 x136 => f52_2_s c lf (f52_2 c lf n) x135 x136
theorem f52_2_u (c : Orc) (lf n : Nat) (x135 : Int) (x136 : List T) : f52_2 c lf (n + 1) x135 x136 = f52_2_s c lf (f52_2 c lf n) x135 x136 := rfl
theorem f52_2_eq (c : Orc) (lf n : Nat) (x135 : Int) (x136 : List T) :
 lpK c env lf 6 fi52 2 6 [] [1, 5] (x52_6_0) n (f52_2_c x135 x136) = f52_2 c lf n x135 x136 := by
 induction n generalizing x135 x136 with
 | zero => rfl
 | succ n ih =>
  refine (f52_2_round c lf _ x135 x136).trans ?_
  have e : (fun x135 x136 => lpK c env lf 6 fi52 2 6 [] [1, 5] (x52_6_0) n (f52_2_c x135 x136)) = f52_2 c lf n := by funext x135 x136; exact ih x135 x136
  show f52_2_s c lf (fun x135 x136 => lpK c env lf 6 fi52 2 6 [] [1, 5] (x52_6_0) n (f52_2_c x135 x136)) x135 x136 = _
  rw [e]; rfl
def f52_t (c : Orc) (lf : Nat) (lp0 : Int → List T → Option (List T)) (lp1 : List T → Option (List T)) (lp2 : Int → List T → Option (List T)) (l0 : List T) (n1 : Int) : Option (List T) :=
 bif nLe (([] : List T).length + l0.length) LIM then
 bif iLt 1000000 n1 then
  (lp0 1000000 (([] : List T) ++ l0)).bind fun r133 =>
  bif nLe ((asL (nth r133 2)).length + ([T.i .u8 (IntKind.wrap .u8 (asI (nth r133 1)))] : List T).length) LIM then
  some [T.sl ((asL (nth r133 2)) ++ ([T.i .u8 (IntKind.wrap .u8 (asI (nth r133 1)))] : List T))]
  else none
 else
  bif iLt n1 0 then
   (lp1 l0).bind fun r134 =>
   bif nLe ((asL (nth r134 2)).length + ([T.i .u8 (IntKind.wrap .u8 (asI (nth r134 1)))] : List T).length) LIM then
   some [T.sl ((asL (nth r134 2)) ++ ([T.i .u8 (IntKind.wrap .u8 (asI (nth r134 1)))] : List T))]
   else none
  else
   (lp2 n1 (([] : List T) ++ l0)).bind fun r137 =>
   bif nLe ((asL (nth r137 2)).length + ([T.i .u8 (IntKind.wrap .u8 (asI (nth r137 1)))] : List T).length) LIM then
   some [T.sl ((asL (nth r137 2)) ++ ([T.i .u8 (IntKind.wrap .u8 (asI (nth r137 1)))] : List T))]
   else none
 else none
def f52 (c : Orc) (lf : Nat) (l0 : List T) (n1 : Int) : Option (List T) := f52_t c lf (fun (x131 : Int) (x132 : List T) => f52_0 c lf lf x131 x132) (fun (l0 : List T) => f52_1 c lf l0 lf ()) (fun (x135 : Int) (x136 : List T) => f52_2 c lf lf x135 x136) l0 n1
theorem f52_raw (c : Orc) (lf : Nat) (l0 : List T) (n1 : Int) : funK c env lf 6 fi52 [.sl l0, .i .i64 n1] = f52_t c lf (fun (x131 : Int) (x132 : List T) => lpK c env lf 6 fi52 2 6 [] [1, 5] (x52_6_0) lf (f52_0_c x131 x132)) (fun (l0 : List T) => lpK c env lf 6 fi52 2 6 [] [1, 5] (x52_6_0) lf (f52_1_c l0)) (fun (x135 : Int) (x136 : List T) => lpK c env lf 6 fi52 2 6 [] [1, 5] (x52_6_0) lf (f52_2_c x135 x136)) l0 n1 := by kernel_rfl
theorem f52_eq (c : Orc) (lf : Nat) (l0 : List T) (n1 : Int) : funK c env lf 6 fi52 [.sl l0, .i .i64 n1] = f52 c lf l0 n1 := by
 refine (f52_raw c lf l0 n1).trans ?_
 have e0 : (fun (x131 : Int) (x132 : List T) => lpK c env lf 6 fi52 2 6 [] [1, 5] (x52_6_0) lf (f52_0_c x131 x132)) = (fun (x131 : Int) (x132 : List T) => f52_0 c lf lf x131 x132) := by funext x131 x132; exact f52_0_eq c lf lf x131 x132
 have e1 : (fun (l0 : List T) => lpK c env lf 6 fi52 2 6 [] [1, 5] (x52_6_0) lf (f52_1_c l0)) = (fun (l0 : List T) => f52_1 c lf l0 lf ()) := by funext l0; exact f52_1_eq c lf l0 lf
 have e2 : (fun (x135 : Int) (x136 : List T) => lpK c env lf 6 fi52 2 6 [] [1, 5] (x52_6_0) lf (f52_2_c x135 x136)) = (fun (x135 : Int) (x136 : List T) => f52_2 c lf lf x135 x136) := by funext x135 x136; exact f52_2_eq c lf lf x135 x136
 rw [e0, e1, e2]; rfl
def f51_t (c : Orc) (lf : Nat) (l0 : List T) (s1 : ByteArray) : Option (List T) :=
 (c 52 [T.sl l0, T.i .i64 (s1.size : Int)]).bind fun r138 =>
 bif nLe ((asL (nth r138 0)).length + (listOf s1).length) LIM then
 some [T.sl ((asL (nth r138 0)) ++ (listOf s1))]
 else none
def f51 (c : Orc) (lf : Nat) (l0 : List T) (s1 : ByteArray) : Option (List T) := f51_t c lf l0 s1
theorem f51_eq (c : Orc) (lf : Nat) (l0 : List T) (s1 : ByteArray) : funK c env lf 6 fi51 [.sl l0, .s s1] = f51 c lf l0 s1 := by kernel_rfl
def f53_1_s (c : Orc) (lf : Nat) (x152 : List T) (x154 : Int) (L : Int → Int → Option (List T)) (x155 x156 : Int) : Option (List T) :=
 bif iLt x156 8 then
  bif (intBits .and .i64 x155 1) == 1 then
   L (intBits .xor .i64 (shiftI .shr .i64 x155 1) 2197175160) (IntKind.wrap .i64 (x156 + 1))
  else
   L (shiftI .shr .i64 x155 1) (IntKind.wrap .i64 (x156 + 1))
 else
  some [T.i .i64 0, T.sl x152, T.i .i64 x155, T.i .i64 x154]
def f53_1_c (x152 : List T) (x154 x155 x156 : Int) : CSt := ⟨[.ro 0 false [.i .u8] x152, .i .i64 x155, .i .i64 x154, .i .i64 x156], [.dead]⟩
theorem f53_1_round (c : Orc) (lf : Nat) (x152 : List T) (x154 : Int) (L : CSt → Option (List T)) (x155 x156 : Int) :
 roundK c env lf 6 fi53 1 7 [] [0, 3, 4, 5] (x53_7_0) L (f53_1_c x152 x154 x155 x156) = f53_1_s c lf x152 x154 (fun x155 x156 => L (f53_1_c x152 x154 x155 x156)) x155 x156 := by kernel_rfl
def f53_1 (c : Orc) (lf : Nat) (x152 : List T) (x154 : Int) : Nat → Int → Int → Option (List T)
 | 0 => fun _ _ => none
 | n + 1 => fun x155 x156 => f53_1_s c lf x152 x154 (f53_1 c lf x152 x154 n) x155 x156
theorem f53_1_u (c : Orc) (lf : Nat) (x152 : List T) (x154 : Int) (n : Nat) (x155 x156 : Int) : f53_1 c lf x152 x154 (n + 1) x155 x156 = f53_1_s c lf x152 x154 (f53_1 c lf x152 x154 n) x155 x156 := rfl
theorem f53_1_eq (c : Orc) (lf : Nat) (x152 : List T) (x154 : Int) (n : Nat) (x155 x156 : Int) :
 lpK c env lf 6 fi53 1 7 [] [0, 3, 4, 5] (x53_7_0) n (f53_1_c x152 x154 x155 x156) = f53_1 c lf x152 x154 n x155 x156 := by
 induction n generalizing x155 x156 with
 | zero => rfl
 | succ n ih =>
  refine (f53_1_round c lf x152 x154 _ x155 x156).trans ?_
  have e : (fun x155 x156 => lpK c env lf 6 fi53 1 7 [] [0, 3, 4, 5] (x53_7_0) n (f53_1_c x152 x154 x155 x156)) = f53_1 c lf x152 x154 n := by funext x155 x156; exact ih x155 x156
  show f53_1_s c lf x152 x154 (fun x155 x156 => lpK c env lf 6 fi53 1 7 [] [0, 3, 4, 5] (x53_7_0) n (f53_1_c x152 x154 x155 x156)) x155 x156 = _
  rw [e]; rfl
def f53_0_s (c : Orc) (lf : Nat) (L : List T → Int → Int → Option (List T)) (lp0 : List T → Int → Int → Int → Option (List T)) (x152 : List T) (x153 x154 : Int) : Option (List T) :=
 bif iLt x154 (x152.length : Int) then
  bif inR x154 x152.length then
  (lp0 x152 x154 (intBits .xor .i64 x153 (IntKind.wrap .i64 (asI (x152.getD x154.toNat T.u)))) 0).bind fun r157 =>
  L (asL (nth r157 1)) (asI (nth r157 2)) (IntKind.wrap .i64 ((asI (nth r157 3)) + 1))
  else none
 else
  some [T.i .i64 0, T.i .i64 x153]
def f53_0_c (x152 : List T) (x153 x154 : Int) : CSt := ⟨[.ro 0 false [.i .u8] x152, .i .i64 x153, .i .i64 x154], [.dead]⟩
theorem f53_0_round (c : Orc) (lf : Nat) (L : CSt → Option (List T)) (x152 : List T) (x153 x154 : Int) :
 roundK c env lf 6 fi53 1 3 [] [0, 3, 4] (x53_3_0) L (f53_0_c x152 x153 x154) = f53_0_s c lf (fun x152 x153 x154 => L (f53_0_c x152 x153 x154)) (fun (x152 : List T) (x154 x155 x156 : Int) => lpK c env lf 6 fi53 1 7 [] [0, 3, 4, 5] (x53_7_0) lf (f53_1_c x152 x154 x155 x156)) x152 x153 x154 := by kernel_rfl
def f53_0 (c : Orc) (lf : Nat) : Nat → List T → Int → Int → Option (List T)
 | 0 => fun _ _ _ => none
 | n + 1 => fun x152 x153 x154 => f53_0_s c lf (f53_0 c lf n) (fun (x152 : List T) (x154 x155 x156 : Int) => f53_1 c lf x152 x154 lf x155 x156) x152 x153 x154
theorem f53_0_u (c : Orc) (lf n : Nat) (x152 : List T) (x153 x154 : Int) : f53_0 c lf (n + 1) x152 x153 x154 = f53_0_s c lf (f53_0 c lf n) (fun (x152 : List T) (x154 x155 x156 : Int) => f53_1 c lf x152 x154 lf x155 x156) x152 x153 x154 := rfl
theorem f53_0_eq (c : Orc) (lf n : Nat) (x152 : List T) (x153 x154 : Int) :
 lpK c env lf 6 fi53 1 3 [] [0, 3, 4] (x53_3_0) n (f53_0_c x152 x153 x154) = f53_0 c lf n x152 x153 x154 := by
 induction n generalizing x152 x153 x154 with
 | zero => rfl
 | succ n ih =>
  refine (f53_0_round c lf _ x152 x153 x154).trans ?_
  have e : (fun x152 x153 x154 => lpK c env lf 6 fi53 1 3 [] [0, 3, 4] (x53_3_0) n (f53_0_c x152 x153 x154)) = f53_0 c lf n := by funext x152 x153 x154; exact ih x152 x153 x154
  have e0 : (fun (x152 : List T) (x154 x155 x156 : Int) => lpK c env lf 6 fi53 1 7 [] [0, 3, 4, 5] (x53_7_0) lf (f53_1_c x152 x154 x155 x156)) = (fun (x152 : List T) (x154 x155 x156 : Int) => f53_1 c lf x152 x154 lf x155 x156) := by funext x152 x154 x155 x156; exact f53_1_eq c lf x152 x154 lf x155 x156
  show f53_0_s c lf (fun x152 x153 x154 => lpK c env lf 6 fi53 1 3 [] [0, 3, 4] (x53_3_0) n (f53_0_c x152 x153 x154)) (fun (x152 : List T) (x154 x155 x156 : Int) => lpK c env lf 6 fi53 1 7 [] [0, 3, 4, 5] (x53_7_0) lf (f53_1_c x152 x154 x155 x156)) x152 x153 x154 = _
  rw [e, e0]; rfl
def f53_t (c : Orc) (lf : Nat) (lp0 : List T → Int → Int → Option (List T)) (l0 : List T) : Option (List T) :=
 (lp0 l0 4294967295 0).bind fun r158 =>
 some [T.i .i64 (intBits .xor .i64 (asI (nth r158 1)) 4294967295)]
def f53 (c : Orc) (lf : Nat) (l0 : List T) : Option (List T) := f53_t c lf (fun (x152 : List T) (x153 x154 : Int) => f53_0 c lf lf x152 x153 x154) l0
theorem f53_raw (c : Orc) (lf : Nat) (l0 : List T) : funK c env lf 6 fi53 [.sl l0] = f53_t c lf (fun (x152 : List T) (x153 x154 : Int) => lpK c env lf 6 fi53 1 3 [] [0, 3, 4] (x53_3_0) lf (f53_0_c x152 x153 x154)) l0 := by kernel_rfl
theorem f53_eq (c : Orc) (lf : Nat) (l0 : List T) : funK c env lf 6 fi53 [.sl l0] = f53 c lf l0 := by
 refine (f53_raw c lf l0).trans ?_
 have e0 : (fun (x152 : List T) (x153 x154 : Int) => lpK c env lf 6 fi53 1 3 [] [0, 3, 4] (x53_3_0) lf (f53_0_c x152 x153 x154)) = (fun (x152 : List T) (x153 x154 : Int) => f53_0 c lf lf x152 x153 x154) := by funext x152 x153 x154; exact f53_0_eq c lf lf x152 x153 x154
 rw [e0]; rfl
def f41_t (c : Orc) (lf : Nat) (n0_0 n0_1 : Int) (l0_2 : List T) : Option (List T) :=
 (c 31 [T.st [T.i .i64 n0_0, T.i .i64 n0_1, T.sl l0_2]]).bind fun r159 =>
 bif !(asB (nth r159 0)) then
  some [T.sl ([] : List T)]
 else
  (c 52 [T.sl ([] : List T), T.i .i64 n0_0]).bind fun r160 =>
  (c 52 [T.sl (asL (nth r160 0)), T.i .i64 n0_1]).bind fun r161 =>
  (c 51 [T.sl (asL (nth r161 0)), T.s (bytesOf l0_2)]).bind fun r162 =>
  (c 53 [T.sl (asL (nth r162 0))]).bind fun r163 =>
  bif nLe ((asL (nth r162 0)).length + ([T.i .u8 (IntKind.wrap .u8 (shiftI .shr .i64 (asI (nth r163 0)) 24)), T.i .u8 (IntKind.wrap .u8 (shiftI .shr .i64 (asI (nth r163 0)) 16)), T.i .u8 (IntKind.wrap .u8 (shiftI .shr .i64 (asI (nth r163 0)) 8)), T.i .u8 (IntKind.wrap .u8 (asI (nth r163 0)))] : List T).length) LIM then
  some [T.sl ((asL (nth r162 0)) ++ ([T.i .u8 (IntKind.wrap .u8 (shiftI .shr .i64 (asI (nth r163 0)) 24)), T.i .u8 (IntKind.wrap .u8 (shiftI .shr .i64 (asI (nth r163 0)) 16)), T.i .u8 (IntKind.wrap .u8 (shiftI .shr .i64 (asI (nth r163 0)) 8)), T.i .u8 (IntKind.wrap .u8 (asI (nth r163 0)))] : List T))]
  else none
def f41 (c : Orc) (lf : Nat) (n0_0 n0_1 : Int) (l0_2 : List T) : Option (List T) := f41_t c lf n0_0 n0_1 l0_2
theorem f41_eq (c : Orc) (lf : Nat) (n0_0 n0_1 : Int) (l0_2 : List T) : funK c env lf 6 fi41 [.st [.i .i64 n0_0, .i .i64 n0_1, .sl l0_2]] = f41 c lf n0_0 n0_1 l0_2 := by kernel_rfl
def f14_0_s (c : Orc) (lf : Nat) (b0_2 : Bool) (l0_0 : List T) (n0_1 : Int) (L : Int → Int → Option (List T)) (x167 x168 : Int) : Option (List T) :=
 bif iLt x168 (l0_0.length : Int) then
  bif inR x168 l0_0.length then
  bif asB (T.cell (l0_0.getD x168.toNat T.u) 0) then
   L (IntKind.wrap .i64 (x167 + 1)) (IntKind.wrap .i64 (x168 + 1))
  else
   L x167 (IntKind.wrap .i64 (x168 + 1))
  else none
 else
  some [T.i .i64 0, T.i .i64 x167]
def f14_0_c (b0_2 : Bool) (l0_0 : List T) (n0_1 x167 x168 : Int) : CSt := ⟨[.bp 3 0, .i .i64 x167, .i .i64 x168], [.dead, .dead, .dead, .box [.ro 0 true [.b, .sl false [.i .u8]] l0_0, .i .i64 n0_1, .b b0_2]]⟩
theorem f14_0_round (c : Orc) (lf : Nat) (b0_2 : Bool) (l0_0 : List T) (n0_1 : Int) (L : CSt → Option (List T)) (x167 x168 : Int) :
 roundK c env lf 6 fi14 3 3 [] [1, 3, 4] (x14_3_0) L (f14_0_c b0_2 l0_0 n0_1 x167 x168) = f14_0_s c lf b0_2 l0_0 n0_1 (fun x167 x168 => L (f14_0_c b0_2 l0_0 n0_1 x167 x168)) x167 x168 := by kernel_rfl
def f14_0 (c : Orc) (lf : Nat) (b0_2 : Bool) (l0_0 : List T) (n0_1 : Int) : Nat → Int → Int → Option (List T)
 | 0 => fun _ _ => none
 | n + 1 => fun x167 x168 => f14_0_s c lf b0_2 l0_0 n0_1 (f14_0 c lf b0_2 l0_0 n0_1 n) x167 x168
theorem f14_0_u (c : Orc) (lf : Nat) (b0_2 : Bool) (l0_0 : List T) (n0_1 : Int) (n : Nat) (x167 x168 : Int) : f14_0 c lf b0_2 l0_0 n0_1 (n + 1) x167 x168 = f14_0_s c lf b0_2 l0_0 n0_1 (f14_0 c lf b0_2 l0_0 n0_1 n) x167 x168 := rfl
theorem f14_0_eq (c : Orc) (lf : Nat) (b0_2 : Bool) (l0_0 : List T) (n0_1 : Int) (n : Nat) (x167 x168 : Int) :
 lpK c env lf 6 fi14 3 3 [] [1, 3, 4] (x14_3_0) n (f14_0_c b0_2 l0_0 n0_1 x167 x168) = f14_0 c lf b0_2 l0_0 n0_1 n x167 x168 := by
 induction n generalizing x167 x168 with
 | zero => rfl
 | succ n ih =>
  refine (f14_0_round c lf b0_2 l0_0 n0_1 _ x167 x168).trans ?_
  have e : (fun x167 x168 => lpK c env lf 6 fi14 3 3 [] [1, 3, 4] (x14_3_0) n (f14_0_c b0_2 l0_0 n0_1 x167 x168)) = f14_0 c lf b0_2 l0_0 n0_1 n := by funext x167 x168; exact ih x167 x168
  show f14_0_s c lf b0_2 l0_0 n0_1 (fun x167 x168 => lpK c env lf 6 fi14 3 3 [] [1, 3, 4] (x14_3_0) n (f14_0_c b0_2 l0_0 n0_1 x167 x168)) x167 x168 = _
  rw [e]; rfl
def f14_t (c : Orc) (lf : Nat) (lp0 : Bool → List T → Int → Int → Int → Option (List T)) (l0_0 : List T) (n0_1 : Int) (b0_2 : Bool) : Option (List T) :=
 (lp0 b0_2 l0_0 n0_1 0 0).bind fun r169 =>
 some [T.i .i64 (asI (nth r169 1))]
def f14 (c : Orc) (lf : Nat) (l0_0 : List T) (n0_1 : Int) (b0_2 : Bool) : Option (List T) := f14_t c lf (fun (b0_2 : Bool) (l0_0 : List T) (n0_1 x167 x168 : Int) => f14_0 c lf b0_2 l0_0 n0_1 lf x167 x168) l0_0 n0_1 b0_2
theorem f14_raw (c : Orc) (lf : Nat) (l0_0 : List T) (n0_1 : Int) (b0_2 : Bool) : funK c env lf 6 fi14 [.st [.sl l0_0, .i .i64 n0_1, .b b0_2]] = f14_t c lf (fun (b0_2 : Bool) (l0_0 : List T) (n0_1 x167 x168 : Int) => lpK c env lf 6 fi14 3 3 [] [1, 3, 4] (x14_3_0) lf (f14_0_c b0_2 l0_0 n0_1 x167 x168)) l0_0 n0_1 b0_2 := by kernel_rfl
theorem f14_eq (c : Orc) (lf : Nat) (l0_0 : List T) (n0_1 : Int) (b0_2 : Bool) : funK c env lf 6 fi14 [.st [.sl l0_0, .i .i64 n0_1, .b b0_2]] = f14 c lf l0_0 n0_1 b0_2 := by
 refine (f14_raw c lf l0_0 n0_1 b0_2).trans ?_
 have e0 : (fun (b0_2 : Bool) (l0_0 : List T) (n0_1 x167 x168 : Int) => lpK c env lf 6 fi14 3 3 [] [1, 3, 4] (x14_3_0) lf (f14_0_c b0_2 l0_0 n0_1 x167 x168)) = (fun (b0_2 : Bool) (l0_0 : List T) (n0_1 x167 x168 : Int) => f14_0 c lf b0_2 l0_0 n0_1 lf x167 x168) := by funext b0_2 l0_0 n0_1 x167 x168; exact f14_0_eq c lf b0_2 l0_0 n0_1 lf x167 x168
 rw [e0]; rfl
def f9_0_s (c : Orc) (lf : Nat) (b0_3 : Bool) (l0_0 l0_2 : List T) (n0_1 n0_4 : Int) (L : Int → Int → Option (List T)) (x176 x177 : Int) : Option (List T) :=
 bif iLt x177 (l0_0.length : Int) then
  bif inR x177 l0_0.length then
  bif !(asB (T.cell (l0_0.getD x177.toNat T.u) 2)) then
   bif inR x177 l0_0.length then
   (c 14 [T.st [T.sl (asL (T.cell (l0_0.getD x177.toNat T.u) 0)), T.i .i64 (asI (T.cell (l0_0.getD x177.toNat T.u) 1)), T.b (asB (T.cell (l0_0.getD x177.toNat T.u) 2))]]).bind fun r178 =>
   bif (asI (nth r178 0)) == 0 then
    L (IntKind.wrap .i64 (x176 + 1)) (IntKind.wrap .i64 (x177 + 1))
   else
    L x176 (IntKind.wrap .i64 (x177 + 1))
   else none
  else
   L x176 (IntKind.wrap .i64 (x177 + 1))
  else none
 else
  some [T.i .i64 0, T.i .i64 x176]
def f9_0_c (b0_3 : Bool) (l0_0 l0_2 : List T) (n0_1 n0_4 : Int) (x176 x177 : Int) : CSt := ⟨[.bp 5 0, .i .i64 x176, .i .i64 x177], [.dead, .dead, .dead, .dead, .dead, .box [.ro 0 true [.sl true [.b, .sl false [.i .u8]], .i .i64, .b] l0_0, .i .i64 n0_1, .ro 0 true [.i .i64, .i .i64, .i .i64] l0_2, .b b0_3, .i .i64 n0_4]]⟩
theorem f9_0_round (c : Orc) (lf : Nat) (b0_3 : Bool) (l0_0 l0_2 : List T) (n0_1 n0_4 : Int) (L : CSt → Option (List T)) (x176 x177 : Int) :
 roundK c env lf 6 fi9 5 3 [] [1, 3, 4] (x9_3_0) L (f9_0_c b0_3 l0_0 l0_2 n0_1 n0_4 x176 x177) = f9_0_s c lf b0_3 l0_0 l0_2 n0_1 n0_4 (fun x176 x177 => L (f9_0_c b0_3 l0_0 l0_2 n0_1 n0_4 x176 x177)) x176 x177 := by kernel_rfl
def f9_0 (c : Orc) (lf : Nat) (b0_3 : Bool) (l0_0 l0_2 : List T) (n0_1 n0_4 : Int) : Nat → Int → Int → Option (List T)
 | 0 => fun _ _ => none
 | n + 1 => fun x176 x177 => f9_0_s c lf b0_3 l0_0 l0_2 n0_1 n0_4 (f9_0 c lf b0_3 l0_0 l0_2 n0_1 n0_4 n) x176 x177
theorem f9_0_u (c : Orc) (lf : Nat) (b0_3 : Bool) (l0_0 l0_2 : List T) (n0_1 n0_4 : Int) (n : Nat) (x176 x177 : Int) : f9_0 c lf b0_3 l0_0 l0_2 n0_1 n0_4 (n + 1) x176 x177 = f9_0_s c lf b0_3 l0_0 l0_2 n0_1 n0_4 (f9_0 c lf b0_3 l0_0 l0_2 n0_1 n0_4 n) x176 x177 := rfl
theorem f9_0_eq (c : Orc) (lf : Nat) (b0_3 : Bool) (l0_0 l0_2 : List T) (n0_1 n0_4 : Int) (n : Nat) (x176 x177 : Int) :
 lpK c env lf 6 fi9 5 3 [] [1, 3, 4] (x9_3_0) n (f9_0_c b0_3 l0_0 l0_2 n0_1 n0_4 x176 x177) = f9_0 c lf b0_3 l0_0 l0_2 n0_1 n0_4 n x176 x177 := by
 induction n generalizing x176 x177 with
 | zero => rfl
 | succ n ih =>
  refine (f9_0_round c lf b0_3 l0_0 l0_2 n0_1 n0_4 _ x176 x177).trans ?_
  have e : (fun x176 x177 => lpK c env lf 6 fi9 5 3 [] [1, 3, 4] (x9_3_0) n (f9_0_c b0_3 l0_0 l0_2 n0_1 n0_4 x176 x177)) = f9_0 c lf b0_3 l0_0 l0_2 n0_1 n0_4 n := by funext x176 x177; exact ih x176 x177
  show f9_0_s c lf b0_3 l0_0 l0_2 n0_1 n0_4 (fun x176 x177 => lpK c env lf 6 fi9 5 3 [] [1, 3, 4] (x9_3_0) n (f9_0_c b0_3 l0_0 l0_2 n0_1 n0_4 x176 x177)) x176 x177 = _
  rw [e]; rfl
def f9_t (c : Orc) (lf : Nat) (lp0 : Bool → List T → List T → Int → Int → Int → Int → Option (List T)) (l0_0 : List T) (n0_1 : Int) (l0_2 : List T) (b0_3 : Bool) (n0_4 : Int) : Option (List T) :=
 (lp0 b0_3 l0_0 l0_2 n0_1 n0_4 0 0).bind fun r179 =>
 some [T.i .i64 (asI (nth r179 1))]
def f9 (c : Orc) (lf : Nat) (l0_0 : List T) (n0_1 : Int) (l0_2 : List T) (b0_3 : Bool) (n0_4 : Int) : Option (List T) := f9_t c lf (fun (b0_3 : Bool) (l0_0 l0_2 : List T) (n0_1 n0_4 : Int) (x176 x177 : Int) => f9_0 c lf b0_3 l0_0 l0_2 n0_1 n0_4 lf x176 x177) l0_0 n0_1 l0_2 b0_3 n0_4
theorem f9_raw (c : Orc) (lf : Nat) (l0_0 : List T) (n0_1 : Int) (l0_2 : List T) (b0_3 : Bool) (n0_4 : Int) : funK c env lf 6 fi9 [.st [.sl l0_0, .i .i64 n0_1, .sl l0_2, .b b0_3, .i .i64 n0_4]] = f9_t c lf (fun (b0_3 : Bool) (l0_0 l0_2 : List T) (n0_1 n0_4 : Int) (x176 x177 : Int) => lpK c env lf 6 fi9 5 3 [] [1, 3, 4] (x9_3_0) lf (f9_0_c b0_3 l0_0 l0_2 n0_1 n0_4 x176 x177)) l0_0 n0_1 l0_2 b0_3 n0_4 := by kernel_rfl
theorem f9_eq (c : Orc) (lf : Nat) (l0_0 : List T) (n0_1 : Int) (l0_2 : List T) (b0_3 : Bool) (n0_4 : Int) : funK c env lf 6 fi9 [.st [.sl l0_0, .i .i64 n0_1, .sl l0_2, .b b0_3, .i .i64 n0_4]] = f9 c lf l0_0 n0_1 l0_2 b0_3 n0_4 := by
 refine (f9_raw c lf l0_0 n0_1 l0_2 b0_3 n0_4).trans ?_
 have e0 : (fun (b0_3 : Bool) (l0_0 l0_2 : List T) (n0_1 n0_4 : Int) (x176 x177 : Int) => lpK c env lf 6 fi9 5 3 [] [1, 3, 4] (x9_3_0) lf (f9_0_c b0_3 l0_0 l0_2 n0_1 n0_4 x176 x177)) = (fun (b0_3 : Bool) (l0_0 l0_2 : List T) (n0_1 n0_4 : Int) (x176 x177 : Int) => f9_0 c lf b0_3 l0_0 l0_2 n0_1 n0_4 lf x176 x177) := by funext b0_3 l0_0 l0_2 n0_1 n0_4 x176 x177; exact f9_0_eq c lf b0_3 l0_0 l0_2 n0_1 n0_4 lf x176 x177
 rw [e0]; rfl
def f8_0_s (c : Orc) (lf : Nat) (b0_3 : Bool) (l0_0 l0_2 : List T) (n1 n0_1 n0_4 : Int) (L : Int → Int → Option (List T)) (x187 x188 : Int) : Option (List T) :=
 bif iLt x188 (l0_0.length : Int) then
  bif inR x188 l0_0.length then
  (c 14 [T.st [T.sl (asL (T.cell (l0_0.getD x188.toNat T.u) 0)), T.i .i64 (asI (T.cell (l0_0.getD x188.toNat T.u) 1)), T.b (asB (T.cell (l0_0.getD x188.toNat T.u) 2))]]).bind fun r189 =>
  bif !(asB (T.cell (l0_0.getD x188.toNat T.u) 2)) then
   bif iLt 0 (asI (nth r189 0)) then
    bif iLt (asI (nth r189 0)) ((asL (T.cell (l0_0.getD x188.toNat T.u) 0)).length : Int) then
     some [T.i .i64 0, T.i .i64 x188]
    else
     bif !(asB (T.cell (l0_0.getD x188.toNat T.u) 2)) then
      bif (asI (nth r189 0)) == 0 then
       bif iLt x187 0 then
        L x188 (IntKind.wrap .i64 (x188 + 1))
       else
        L x187 (IntKind.wrap .i64 (x188 + 1))
      else
       L x187 (IntKind.wrap .i64 (x188 + 1))
     else
      L x187 (IntKind.wrap .i64 (x188 + 1))
   else
    bif !(asB (T.cell (l0_0.getD x188.toNat T.u) 2)) then
     bif (asI (nth r189 0)) == 0 then
      bif iLt x187 0 then
       L x188 (IntKind.wrap .i64 (x188 + 1))
      else
       L x187 (IntKind.wrap .i64 (x188 + 1))
     else
      L x187 (IntKind.wrap .i64 (x188 + 1))
    else
     L x187 (IntKind.wrap .i64 (x188 + 1))
  else
   bif !(asB (T.cell (l0_0.getD x188.toNat T.u) 2)) then
    bif (asI (nth r189 0)) == 0 then
     bif iLt x187 0 then
      L x188 (IntKind.wrap .i64 (x188 + 1))
     else
      L x187 (IntKind.wrap .i64 (x188 + 1))
    else
     L x187 (IntKind.wrap .i64 (x188 + 1))
   else
    L x187 (IntKind.wrap .i64 (x188 + 1))
  else none
 else
  some [T.i .i64 1, T.i .i64 n1, T.i .i64 x187, T.sl l0_0, T.i .i64 n0_1, T.sl l0_2, T.b b0_3, T.i .i64 n0_4]
def f8_0_c (b0_3 : Bool) (l0_0 l0_2 : List T) (n1 n0_1 : Int) (n0_4 x187 x188 : Int) : CSt := ⟨[.i .i64 n1, .bp 6 0, .i .i64 x187, .i .i64 x188], [.dead, .dead, .dead, .dead, .dead, .dead, .box [.ro 0 true [.sl true [.b, .sl false [.i .u8]], .i .i64, .b] l0_0, .i .i64 n0_1, .ro 0 true [.i .i64, .i .i64, .i .i64] l0_2, .b b0_3, .i .i64 n0_4]]⟩
theorem f8_0_round (c : Orc) (lf : Nat) (b0_3 : Bool) (l0_0 l0_2 : List T) (n1 n0_1 n0_4 : Int) (L : CSt → Option (List T)) (x187 x188 : Int) :
 roundK c env lf 6 fi8 6 3 [] [1, 2, 5, 6] (x8_3_0) L (f8_0_c b0_3 l0_0 l0_2 n1 n0_1 n0_4 x187 x188) = f8_0_s c lf b0_3 l0_0 l0_2 n1 n0_1 n0_4 (fun x187 x188 => L (f8_0_c b0_3 l0_0 l0_2 n1 n0_1 n0_4 x187 x188)) x187 x188 := by kernel_rfl
def f8_0 (c : Orc) (lf : Nat) (b0_3 : Bool) (l0_0 l0_2 : List T) (n1 n0_1 n0_4 : Int) : Nat → Int → Int → Option (List T)
 | 0 => fun _ _ => none
 | n + 1 => fun x187 x188 => f8_0_s c lf b0_3 l0_0 l0_2 n1 n0_1 n0_4 (f8_0 c lf b0_3 l0_0 l0_2 n1 n0_1 n0_4 n) x187 x188
theorem f8_0_u (c : Orc) (lf : Nat) (b0_3 : Bool) (l0_0 l0_2 : List T) (n1 n0_1 n0_4 : Int) (n : Nat) (x187 x188 : Int) : f8_0 c lf b0_3 l0_0 l0_2 n1 n0_1 n0_4 (n + 1) x187 x188 = f8_0_s c lf b0_3 l0_0 l0_2 n1 n0_1 n0_4 (f8_0 c lf b0_3 l0_0 l0_2 n1 n0_1 n0_4 n) x187 x188 := rfl
theorem f8_0_eq (c : Orc) (lf : Nat) (b0_3 : Bool) (l0_0 l0_2 : List T) (n1 n0_1 n0_4 : Int) (n : Nat) (x187 x188 : Int) :
 lpK c env lf 6 fi8 6 3 [] [1, 2, 5, 6] (x8_3_0) n (f8_0_c b0_3 l0_0 l0_2 n1 n0_1 n0_4 x187 x188) = f8_0 c lf b0_3 l0_0 l0_2 n1 n0_1 n0_4 n x187 x188 := by
 induction n generalizing x187 x188 with
 | zero => rfl
 | succ n ih =>
  refine (f8_0_round c lf b0_3 l0_0 l0_2 n1 n0_1 n0_4 _ x187 x188).trans ?_
  have e : (fun x187 x188 => lpK c env lf 6 fi8 6 3 [] [1, 2, 5, 6] (x8_3_0) n (f8_0_c b0_3 l0_0 l0_2 n1 n0_1 n0_4 x187 x188)) = f8_0 c lf b0_3 l0_0 l0_2 n1 n0_1 n0_4 n := by funext x187 x188; exact ih x187 x188
  show f8_0_s c lf b0_3 l0_0 l0_2 n1 n0_1 n0_4 (fun x187 x188 => lpK c env lf 6 fi8 6 3 [] [1, 2, 5, 6] (x8_3_0) n (f8_0_c b0_3 l0_0 l0_2 n1 n0_1 n0_4 x187 x188)) x187 x188 = _
  rw [e]; rfl
def f8_t (c : Orc) (lf : Nat) (lp0 : Bool → List T → List T → Int → Int → Int → Int → Int → Option (List T)) (l0_0 : List T) (n0_1 : Int) (l0_2 : List T) (b0_3 : Bool) (n0_4 n1 : Int) : Option (List T) :=
 (lp0 b0_3 l0_0 l0_2 n1 n0_1 n0_4 (-1) 0).bind fun r190 =>
 bif asI (nth r190 0) == 0 then
  some [T.i .i64 (asI (nth r190 1))]
 else
  (c 9 [T.st [T.sl (asL (nth r190 3)), T.i .i64 (asI (nth r190 4)), T.sl (asL (nth r190 5)), T.b (asB (nth r190 6)), T.i .i64 (asI (nth r190 7))]]).bind fun r191 =>
  bif iLt (asI (nth r190 1)) (asI (nth r191 0)) then
   some [T.i .i64 (asI (nth r190 2))]
  else
   some [T.i .i64 (-1)]
def f8 (c : Orc) (lf : Nat) (l0_0 : List T) (n0_1 : Int) (l0_2 : List T) (b0_3 : Bool) (n0_4 n1 : Int) : Option (List T) := f8_t c lf (fun (b0_3 : Bool) (l0_0 l0_2 : List T) (n1 n0_1 : Int) (n0_4 x187 x188 : Int) => f8_0 c lf b0_3 l0_0 l0_2 n1 n0_1 n0_4 lf x187 x188) l0_0 n0_1 l0_2 b0_3 n0_4 n1
theorem f8_raw (c : Orc) (lf : Nat) (l0_0 : List T) (n0_1 : Int) (l0_2 : List T) (b0_3 : Bool) (n0_4 n1 : Int) : funK c env lf 6 fi8 [.st [.sl l0_0, .i .i64 n0_1, .sl l0_2, .b b0_3, .i .i64 n0_4], .i .i64 n1] = f8_t c lf (fun (b0_3 : Bool) (l0_0 l0_2 : List T) (n1 n0_1 : Int) (n0_4 x187 x188 : Int) => lpK c env lf 6 fi8 6 3 [] [1, 2, 5, 6] (x8_3_0) lf (f8_0_c b0_3 l0_0 l0_2 n1 n0_1 n0_4 x187 x188)) l0_0 n0_1 l0_2 b0_3 n0_4 n1 := by kernel_rfl
theorem f8_eq (c : Orc) (lf : Nat) (l0_0 : List T) (n0_1 : Int) (l0_2 : List T) (b0_3 : Bool) (n0_4 n1 : Int) : funK c env lf 6 fi8 [.st [.sl l0_0, .i .i64 n0_1, .sl l0_2, .b b0_3, .i .i64 n0_4], .i .i64 n1] = f8 c lf l0_0 n0_1 l0_2 b0_3 n0_4 n1 := by
 refine (f8_raw c lf l0_0 n0_1 l0_2 b0_3 n0_4 n1).trans ?_
 have e0 : (fun (b0_3 : Bool) (l0_0 l0_2 : List T) (n1 n0_1 : Int) (n0_4 x187 x188 : Int) => lpK c env lf 6 fi8 6 3 [] [1, 2, 5, 6] (x8_3_0) lf (f8_0_c b0_3 l0_0 l0_2 n1 n0_1 n0_4 x187 x188)) = (fun (b0_3 : Bool) (l0_0 l0_2 : List T) (n1 n0_1 : Int) (n0_4 x187 x188 : Int) => f8_0 c lf b0_3 l0_0 l0_2 n1 n0_1 n0_4 lf x187 x188) := by funext b0_3 l0_0 l0_2 n1 n0_1 n0_4 x187 x188; exact f8_0_eq c lf b0_3 l0_0 l0_2 n1 n0_1 n0_4 lf x187 x188
 rw [e0]; rfl
def f42_t (c : Orc) (lf : Nat) (l0_0 : List T) (n1 : Int) : Option (List T) :=
 bif iLt n1 0 then
  some [T.i .i64 (-1)]
 else
  bif iLe (l0_0.length : Int) n1 then
   some [T.i .i64 (-1)]
  else
   bif inR n1 l0_0.length then
   (c 14 [T.st [T.sl (asL (T.cell (l0_0.getD n1.toNat T.u) 0)), T.i .i64 (asI (T.cell (l0_0.getD n1.toNat T.u) 1)), T.b (asB (T.cell (l0_0.getD n1.toNat T.u) 2))]]).bind fun r192 =>
   some [T.i .i64 (asI (nth r192 0))]
   else none
def f42 (c : Orc) (lf : Nat) (l0_0 : List T) (n1 : Int) : Option (List T) := f42_t c lf l0_0 n1
theorem f42_eq (c : Orc) (lf : Nat) (l0_0 : List T) (n1 : Int) : funK c env lf 6 fi42 [.st [.sl l0_0], .i .i64 n1] = f42 c lf l0_0 n1 := by kernel_rfl
def f54_t (c : Orc) (lf : Nat) (l0_0 : List T) (n1 : Int) (b2 : Bool) : Option (List T) :=
 (c 38 [T.st [T.sl l0_0]]).bind fun r193 =>
 bif !(asB (nth r193 0)) then
  some [T.i .i64 1]
 else
  bif iLt n1 0 then
   some [T.i .i64 1]
  else
   bif iLe (l0_0.length : Int) n1 then
    some [T.i .i64 1]
   else
    bif inR n1 l0_0.length then
    bif asB (T.cell (l0_0.getD n1.toNat T.u) 2) then
     some [T.i .i64 2]
    else
     bif b2 then
      some [T.i .i64 5]
     else
      some [T.i .i64 0]
    else none
def f54 (c : Orc) (lf : Nat) (l0_0 : List T) (n1 : Int) (b2 : Bool) : Option (List T) := f54_t c lf l0_0 n1 b2
theorem f54_eq (c : Orc) (lf : Nat) (l0_0 : List T) (n1 : Int) (b2 : Bool) : funK c env lf 6 fi54 [.st [.sl l0_0], .i .i64 n1, .b b2] = f54 c lf l0_0 n1 b2 := by kernel_rfl
def f47_t (c : Orc) (lf : Nat) (l0_0 : List T) (n1 : Int) (l2 : List T) : Option (List T) :=
 bif iLt 400 (l2.length : Int) then
  some [T.i .i64 1]
 else
  (c 42 [T.st [T.sl l0_0], T.i .i64 n1]).bind fun r194 =>
  (c 54 [T.st [T.sl l0_0], T.i .i64 n1, T.b ((asI (nth r194 0)) == 8)]).bind fun r195 =>
  some [T.i .i64 (asI (nth r195 0))]
def f47 (c : Orc) (lf : Nat) (l0_0 : List T) (n1 : Int) (l2 : List T) : Option (List T) := f47_t c lf l0_0 n1 l2
theorem f47_eq (c : Orc) (lf : Nat) (l0_0 : List T) (n1 : Int) (l2 : List T) : funK c env lf 6 fi47 [.st [.sl l0_0], .i .i64 n1, .sl l2] = f47 c lf l0_0 n1 l2 := by kernel_rfl
def f43_t (c : Orc) (lf : Nat) (l0_0 : List T) (n0_1 : Int) (l0_2 : List T) (b0_3 : Bool) (n1 : Int) : Option (List T) :=
 (c 29 [T.st [T.sl l0_0, T.i .i64 n0_1, T.sl l0_2, T.b b0_3]]).bind fun r196 =>
 bif !(asB (nth r196 0)) then
  some [T.i .i64 1]
 else
  bif b0_3 then
   some [T.i .i64 10]
  else
   bif iLe 100000 n0_1 then
    some [T.i .i64 10]
   else
    some [T.i .i64 n1]
def f43 (c : Orc) (lf : Nat) (l0_0 : List T) (n0_1 : Int) (l0_2 : List T) (b0_3 : Bool) (n1 : Int) : Option (List T) := f43_t c lf l0_0 n0_1 l0_2 b0_3 n1
theorem f43_eq (c : Orc) (lf : Nat) (l0_0 : List T) (n0_1 : Int) (l0_2 : List T) (b0_3 : Bool) (n1 : Int) : funK c env lf 6 fi43 [.st [.sl l0_0, .i .i64 n0_1, .sl l0_2, .b b0_3], .i .i64 n1] = f43 c lf l0_0 n0_1 l0_2 b0_3 n1 := by kernel_rfl
def f45_0_s (c : Orc) (lf : Nat) (b0_3 : Bool) (l0_0 l0_2 : List T) (n0_1 : Int) (L : Int → Option (List T)) (x199 : Int) : Option (List T) :=
 bif iLt x199 (l0_2.length : Int) then
  bif inR x199 l0_2.length then
  bif (asI (T.cell (l0_2.getD x199.toNat T.u) 0)) == n0_1 then
   bif inR x199 l0_2.length then
   some [T.i .i64 0, T.b true, T.i .i64 (asI (T.cell (l0_2.getD x199.toNat T.u) 0)), T.i .i64 (asI (T.cell (l0_2.getD x199.toNat T.u) 1)), T.i .i64 (asI (T.cell (l0_2.getD x199.toNat T.u) 2))]
   else none
  else
   L (IntKind.wrap .i64 (x199 + 1))
  else none
 else
  some [T.i .i64 1, T.i .i64 0, T.i .i64 0, T.i .i64 0]
def f45_0_c (b0_3 : Bool) (l0_0 l0_2 : List T) (n0_1 x199 : Int) : CSt := ⟨[.bp 4 0, .bp 5 0, .i .i64 x199], [.dead, .dead, .dead, .dead, .box [.ro 0 true [.sl true [.b, .sl false [.i .u8]], .i .i64, .b] l0_0, .i .i64 n0_1, .ro 0 true [.i .i64, .i .i64, .i .i64] l0_2, .b b0_3], .box [.i .i64 0, .i .i64 0, .i .i64 0]]⟩
theorem f45_0_round (c : Orc) (lf : Nat) (b0_3 : Bool) (l0_0 l0_2 : List T) (n0_1 : Int) (L : CSt → Option (List T)) (x199 : Int) :
 roundK c env lf 6 fi45 4 2 [] [1, 2, 4] (x45_2_0) L (f45_0_c b0_3 l0_0 l0_2 n0_1 x199) = f45_0_s c lf b0_3 l0_0 l0_2 n0_1 (fun x199 => L (f45_0_c b0_3 l0_0 l0_2 n0_1 x199)) x199 := by kernel_rfl
def f45_0 (c : Orc) (lf : Nat) (b0_3 : Bool) (l0_0 l0_2 : List T) (n0_1 : Int) : Nat → Int → Option (List T)
 | 0 => fun _ => none
 | n + 1 => fun x199 => f45_0_s c lf b0_3 l0_0 l0_2 n0_1 (f45_0 c lf b0_3 l0_0 l0_2 n0_1 n) x199
theorem f45_0_u (c : Orc) (lf : Nat) (b0_3 : Bool) (l0_0 l0_2 : List T) (n0_1 : Int) (n : Nat) (x199 : Int) : f45_0 c lf b0_3 l0_0 l0_2 n0_1 (n + 1) x199 = f45_0_s c lf b0_3 l0_0 l0_2 n0_1 (f45_0 c lf b0_3 l0_0 l0_2 n0_1 n) x199 := rfl
theorem f45_0_eq (c : Orc) (lf : Nat) (b0_3 : Bool) (l0_0 l0_2 : List T) (n0_1 : Int) (n : Nat) (x199 : Int) :
 lpK c env lf 6 fi45 4 2 [] [1, 2, 4] (x45_2_0) n (f45_0_c b0_3 l0_0 l0_2 n0_1 x199) = f45_0 c lf b0_3 l0_0 l0_2 n0_1 n x199 := by
 induction n generalizing x199 with
 | zero => rfl
 | succ n ih =>
  refine (f45_0_round c lf b0_3 l0_0 l0_2 n0_1 _ x199).trans ?_
  have e : (fun x199 => lpK c env lf 6 fi45 4 2 [] [1, 2, 4] (x45_2_0) n (f45_0_c b0_3 l0_0 l0_2 n0_1 x199)) = f45_0 c lf b0_3 l0_0 l0_2 n0_1 n := by funext x199; exact ih x199
  show f45_0_s c lf b0_3 l0_0 l0_2 n0_1 (fun x199 => lpK c env lf 6 fi45 4 2 [] [1, 2, 4] (x45_2_0) n (f45_0_c b0_3 l0_0 l0_2 n0_1 x199)) x199 = _
  rw [e]; rfl
def f45_t (c : Orc) (lf : Nat) (lp0 : Bool → List T → List T → Int → Int → Option (List T)) (l0_0 : List T) (n0_1 : Int) (l0_2 : List T) (b0_3 : Bool) : Option (List T) :=
 (lp0 b0_3 l0_0 l0_2 n0_1 0).bind fun r200 =>
 bif asI (nth r200 0) == 0 then
  some [T.st [T.i .i64 (asI (nth r200 2)), T.i .i64 (asI (nth r200 3)), T.i .i64 (asI (nth r200 4))], T.b (asB (nth r200 1))]
 else
  some [T.st [T.i .i64 0, T.i .i64 0, T.i .i64 0], T.b false]
def f45 (c : Orc) (lf : Nat) (l0_0 : List T) (n0_1 : Int) (l0_2 : List T) (b0_3 : Bool) : Option (List T) := f45_t c lf (fun (b0_3 : Bool) (l0_0 l0_2 : List T) (n0_1 x199 : Int) => f45_0 c lf b0_3 l0_0 l0_2 n0_1 lf x199) l0_0 n0_1 l0_2 b0_3
theorem f45_raw (c : Orc) (lf : Nat) (l0_0 : List T) (n0_1 : Int) (l0_2 : List T) (b0_3 : Bool) : funK c env lf 6 fi45 [.st [.sl l0_0, .i .i64 n0_1, .sl l0_2, .b b0_3]] = f45_t c lf (fun (b0_3 : Bool) (l0_0 l0_2 : List T) (n0_1 x199 : Int) => lpK c env lf 6 fi45 4 2 [] [1, 2, 4] (x45_2_0) lf (f45_0_c b0_3 l0_0 l0_2 n0_1 x199)) l0_0 n0_1 l0_2 b0_3 := by kernel_rfl
theorem f45_eq (c : Orc) (lf : Nat) (l0_0 : List T) (n0_1 : Int) (l0_2 : List T) (b0_3 : Bool) : funK c env lf 6 fi45 [.st [.sl l0_0, .i .i64 n0_1, .sl l0_2, .b b0_3]] = f45 c lf l0_0 n0_1 l0_2 b0_3 := by
 refine (f45_raw c lf l0_0 n0_1 l0_2 b0_3).trans ?_
 have e0 : (fun (b0_3 : Bool) (l0_0 l0_2 : List T) (n0_1 x199 : Int) => lpK c env lf 6 fi45 4 2 [] [1, 2, 4] (x45_2_0) lf (f45_0_c b0_3 l0_0 l0_2 n0_1 x199)) = (fun (b0_3 : Bool) (l0_0 l0_2 : List T) (n0_1 x199 : Int) => f45_0 c lf b0_3 l0_0 l0_2 n0_1 lf x199) := by funext b0_3 l0_0 l0_2 n0_1 x199; exact f45_0_eq c lf b0_3 l0_0 l0_2 n0_1 lf x199
 rw [e0]; rfl
def f48_t (c : Orc) (lf : Nat) (l0_0 : List T) (n1 : Int) (l2 : List T) : Option (List T) :=
 (c 50 [T.st [T.sl l0_0]]).bind fun r201 =>
 (c 47 [T.st [T.sl l0_0], T.i .i64 n1, T.sl l2]).bind fun r202 =>
 bif (asI (nth r202 0)) == 0 then
  bif inR n1 ((asL (T.cell (nth r201 0) 0)).length) then
  (c 42 [T.st [T.sl l0_0], T.i .i64 n1]).bind fun r203 =>
  bif nLe (([] : List T).length + l2.length) LIM then
  bif inR (asI (nth r203 0)) ((asL (T.cell ((asL (T.cell (nth r201 0) 0)).getD n1.toNat T.u) 0)).length) then
  some [T.st [T.sl ((asL (T.cell (nth r201 0) 0)).set n1.toNat (T.setc ((asL (T.cell (nth r201 0) 0)).getD n1.toNat T.u) 0 (T.sl ((asL (T.cell ((asL (T.cell (nth r201 0) 0)).getD n1.toNat T.u) 0)).set ((asI (nth r203 0)).toNat) (T.st [T.b true, T.sl (([] : List T) ++ l2)])))))], T.i .i64 (asI (nth r202 0))]
  else none
  else none
  else none
 else
  some [T.st [T.sl (asL (T.cell (nth r201 0) 0))], T.i .i64 (asI (nth r202 0))]
def f48 (c : Orc) (lf : Nat) (l0_0 : List T) (n1 : Int) (l2 : List T) : Option (List T) := f48_t c lf l0_0 n1 l2
theorem f48_eq (c : Orc) (lf : Nat) (l0_0 : List T) (n1 : Int) (l2 : List T) : funK c env lf 6 fi48 [.st [.sl l0_0], .i .i64 n1, .sl l2] = f48 c lf l0_0 n1 l2 := by kernel_rfl
def f35_t (c : Orc) (lf : Nat) (l0_0 : List T) (n0_1 : Int) (l0_2 : List T) (b0_3 : Bool) (n1 : Int) (l2 : List T) : Option (List T) :=
 (c 40 [T.st [T.sl l0_0, T.i .i64 n0_1, T.sl l0_2, T.b b0_3]]).bind fun r204 =>
 (c 47 [T.st [T.sl l0_0], T.i .i64 n1, T.sl l2]).bind fun r205 =>
 (c 43 [T.st [T.sl l0_0, T.i .i64 n0_1, T.sl l0_2, T.b b0_3], T.i .i64 (asI (nth r205 0))]).bind fun r206 =>
 bif (asI (nth r206 0)) != 0 then
  some [T.st [T.sl (asL (T.cell (nth r204 0) 0)), T.i .i64 (asI (T.cell (nth r204 0) 1)), T.sl (asL (T.cell (nth r204 0) 2)), T.b (asB (T.cell (nth r204 0) 3))], T.i .i64 (asI (nth r206 0))]
 else
  (c 45 [T.st [T.sl l0_0, T.i .i64 n0_1, T.sl l0_2, T.b b0_3]]).bind fun r207 =>
  bif asB (nth r207 1) then
   bif (asI (T.cell (nth r207 0) 1)) == 1 then
    bif inR n1 ((asL (T.cell (nth r204 0) 0)).length) then
    some [T.st [T.sl ((asL (T.cell (nth r204 0) 0)).set n1.toNat (T.setc ((asL (T.cell (nth r204 0) 0)).getD n1.toNat T.u) 2 (T.b true))), T.i .i64 (IntKind.wrap .i64 (n0_1 + 1)), T.sl (asL (T.cell (nth r204 0) 2)), T.b (asB (T.cell (nth r204 0) 3))], T.i .i64 2]
    else none
   else
    bif asB (nth r207 1) then
     bif iLt (asI (T.cell (nth r207 0) 2)) (l2.length : Int) then
      bif iLe 0 (asI (T.cell (nth r207 0) 2)) && iLe (asI (T.cell (nth r207 0) 2)) (l2.length : Int) then
      (c 48 [T.st [T.sl l0_0], T.i .i64 n1, T.sl (l2.take ((asI (T.cell (nth r207 0) 2)).toNat))]).bind fun r208 =>
      bif asB (nth r207 1) then
       some [T.st [T.sl (asL (T.cell (nth r208 0) 0)), T.i .i64 (IntKind.wrap .i64 (n0_1 + 1)), T.sl (asL (T.cell (nth r204 0) 2)), T.b (asB (nth r207 1))], T.i .i64 10]
      else
       some [T.st [T.sl (asL (T.cell (nth r208 0) 0)), T.i .i64 (IntKind.wrap .i64 (n0_1 + 1)), T.sl (asL (T.cell (nth r204 0) 2)), T.b (asB (nth r207 1))], T.i .i64 0]
      else none
     else
      bif iLe 0 (l2.length : Int) && iLe (l2.length : Int) (l2.length : Int) then
      (c 48 [T.st [T.sl l0_0], T.i .i64 n1, T.sl (l2.take ((l2.length : Int).toNat))]).bind fun r209 =>
      bif asB (nth r207 1) then
       some [T.st [T.sl (asL (T.cell (nth r209 0) 0)), T.i .i64 (IntKind.wrap .i64 (n0_1 + 1)), T.sl (asL (T.cell (nth r204 0) 2)), T.b (asB (nth r207 1))], T.i .i64 10]
      else
       some [T.st [T.sl (asL (T.cell (nth r209 0) 0)), T.i .i64 (IntKind.wrap .i64 (n0_1 + 1)), T.sl (asL (T.cell (nth r204 0) 2)), T.b (asB (nth r207 1))], T.i .i64 0]
      else none
    else
     bif iLe 0 (l2.length : Int) && iLe (l2.length : Int) (l2.length : Int) then
     (c 48 [T.st [T.sl l0_0], T.i .i64 n1, T.sl (l2.take ((l2.length : Int).toNat))]).bind fun r210 =>
     bif asB (nth r207 1) then
      some [T.st [T.sl (asL (T.cell (nth r210 0) 0)), T.i .i64 (IntKind.wrap .i64 (n0_1 + 1)), T.sl (asL (T.cell (nth r204 0) 2)), T.b (asB (nth r207 1))], T.i .i64 10]
     else
      some [T.st [T.sl (asL (T.cell (nth r210 0) 0)), T.i .i64 (IntKind.wrap .i64 (n0_1 + 1)), T.sl (asL (T.cell (nth r204 0) 2)), T.b (asB (nth r207 1))], T.i .i64 0]
     else none
  else
   bif asB (nth r207 1) then
    bif iLt (asI (T.cell (nth r207 0) 2)) (l2.length : Int) then
     bif iLe 0 (asI (T.cell (nth r207 0) 2)) && iLe (asI (T.cell (nth r207 0) 2)) (l2.length : Int) then
     (c 48 [T.st [T.sl l0_0], T.i .i64 n1, T.sl (l2.take ((asI (T.cell (nth r207 0) 2)).toNat))]).bind fun r211 =>
     bif asB (nth r207 1) then
      some [T.st [T.sl (asL (T.cell (nth r211 0) 0)), T.i .i64 (IntKind.wrap .i64 (n0_1 + 1)), T.sl (asL (T.cell (nth r204 0) 2)), T.b (asB (nth r207 1))], T.i .i64 10]
     else
      some [T.st [T.sl (asL (T.cell (nth r211 0) 0)), T.i .i64 (IntKind.wrap .i64 (n0_1 + 1)), T.sl (asL (T.cell (nth r204 0) 2)), T.b (asB (nth r207 1))], T.i .i64 0]
     else none
    else
     bif iLe 0 (l2.length : Int) && iLe (l2.length : Int) (l2.length : Int) then
     (c 48 [T.st [T.sl l0_0], T.i .i64 n1, T.sl (l2.take ((l2.length : Int).toNat))]).bind fun r212 =>
     bif asB (nth r207 1) then
      some [T.st [T.sl (asL (T.cell (nth r212 0) 0)), T.i .i64 (IntKind.wrap .i64 (n0_1 + 1)), T.sl (asL (T.cell (nth r204 0) 2)), T.b (asB (nth r207 1))], T.i .i64 10]
     else
      some [T.st [T.sl (asL (T.cell (nth r212 0) 0)), T.i .i64 (IntKind.wrap .i64 (n0_1 + 1)), T.sl (asL (T.cell (nth r204 0) 2)), T.b (asB (nth r207 1))], T.i .i64 0]
     else none
   else
    bif iLe 0 (l2.length : Int) && iLe (l2.length : Int) (l2.length : Int) then
    (c 48 [T.st [T.sl l0_0], T.i .i64 n1, T.sl (l2.take ((l2.length : Int).toNat))]).bind fun r213 =>
    bif asB (nth r207 1) then
     some [T.st [T.sl (asL (T.cell (nth r213 0) 0)), T.i .i64 (IntKind.wrap .i64 (n0_1 + 1)), T.sl (asL (T.cell (nth r204 0) 2)), T.b (asB (nth r207 1))], T.i .i64 10]
    else
     some [T.st [T.sl (asL (T.cell (nth r213 0) 0)), T.i .i64 (IntKind.wrap .i64 (n0_1 + 1)), T.sl (asL (T.cell (nth r204 0) 2)), T.b (asB (nth r207 1))], T.i .i64 0]
    else none
def f35 (c : Orc) (lf : Nat) (l0_0 : List T) (n0_1 : Int) (l0_2 : List T) (b0_3 : Bool) (n1 : Int) (l2 : List T) : Option (List T) := f35_t c lf l0_0 n0_1 l0_2 b0_3 n1 l2
theorem f35_eq (c : Orc) (lf : Nat) (l0_0 : List T) (n0_1 : Int) (l0_2 : List T) (b0_3 : Bool) (n1 : Int) (l2 : List T) : funK c env lf 6 fi35 [.st [.sl l0_0, .i .i64 n0_1, .sl l0_2, .b b0_3], .i .i64 n1, .sl l2] = f35 c lf l0_0 n0_1 l0_2 b0_3 n1 l2 := by kernel_rfl
def f32_0_s (c : Orc) (lf : Nat) (n3 n0_4 : Int) (r227 : List T) (L : Int → Int → Bool → List T → List T → Option (List T)) (x231 x232 : Int) (x233 : Bool) (x234 x235 : List T) : Option (List T) :=
 bif iLe x231 (x234.length : Int) then
  (c 8 [T.st [T.sl x234, T.i .i64 x232, T.sl x235, T.b x233, T.i .i64 n0_4], T.i .i64 n3]).bind fun r236 =>
  bif x233 then
   some [T.i .i64 0, T.i .i64 (-1), T.i .i64 10, T.i .i64 x232, T.b x233, T.i .i64 n0_4, T.sl x234, T.sl x235]
  else
   bif iLt (asI (nth r236 0)) 0 then
    some [T.i .i64 0, T.i .i64 (-1), T.i .i64 9, T.i .i64 x232, T.b x233, T.i .i64 n0_4, T.sl x234, T.sl x235]
   else
    (c 42 [T.st [T.sl x234], T.i .i64 (asI (nth r236 0))]).bind fun r237 =>
    (c 35 [T.st [T.sl x234, T.i .i64 x232, T.sl x235, T.b x233], T.i .i64 (asI (nth r236 0)), T.sl (asL (nth r227 0))]).bind fun r238 =>
    bif (asI (nth r238 1)) == 0 then
     some [T.i .i64 0, T.i .i64 (IntKind.wrap .i64 ((IntKind.wrap .i64 ((asI (nth r236 0)) * 8)) + (asI (nth r237 0)))), T.i .i64 0, T.i .i64 (asI (T.cell (nth r238 0) 1)), T.b (asB (T.cell (nth r238 0) 3)), T.i .i64 (IntKind.wrap .i64 (n0_4 + 1)), T.sl (asL (T.cell (nth r238 0) 0)), T.sl (asL (T.cell (nth r238 0) 2))]
    else
     bif (asI (nth r238 1)) != 2 then
      bif asB (T.cell (nth r238 0) 3) then
       some [T.i .i64 0, T.i .i64 (-1), T.i .i64 10, T.i .i64 (asI (T.cell (nth r238 0) 1)), T.b (asB (T.cell (nth r238 0) 3)), T.i .i64 (IntKind.wrap .i64 (n0_4 + 1)), T.sl (asL (T.cell (nth r238 0) 0)), T.sl (asL (T.cell (nth r238 0) 2))]
      else
       some [T.i .i64 0, T.i .i64 (-1), T.i .i64 10, T.i .i64 (asI (T.cell (nth r238 0) 1)), T.b (asB (T.cell (nth r238 0) 3)), T.i .i64 n0_4, T.sl (asL (T.cell (nth r238 0) 0)), T.sl (asL (T.cell (nth r238 0) 2))]
     else
      L (IntKind.wrap .i64 (x231 + 1)) (asI (T.cell (nth r238 0) 1)) (asB (T.cell (nth r238 0) 3)) (asL (T.cell (nth r238 0) 0)) (asL (T.cell (nth r238 0) 2))
 else
  some [T.i .i64 1, T.i .i64 x232, T.b x233, T.i .i64 n0_4, T.sl x234, T.sl x235, T.i .i64 0, T.b false, T.i .i64 0, T.sl ([] : List T), T.sl ([] : List T)]
def f32_0_c (n3 n0_4 : Int) (r227 : List T) (x231 x232 : Int) (x233 : Bool) (x234 x235 : List T) : CSt := ⟨[.i .i64 n3, .bp 8 0, .bp 11 0, .rf 14 [] 0 none, .i .i64 x231], [.dead, .dead, .dead, .dead, .dead, .dead, .dead, .dead, .box [.rf 9 [] 0 none, .i .i64 x232, .rf 10 [] 0 none, .b x233, .i .i64 n0_4], .row true [.sl true [.b, .sl false [.i .u8]], .i .i64, .b] x234 0 false, .row true [.i .i64, .i .i64, .i .i64] x235 0 false, .box [.rf 12 [] 0 none, .i .i64 0, .rf 13 [] 0 none, .b false, .i .i64 0], .row true [.sl true [.b, .sl false [.i .u8]], .i .i64, .b] ([] : List T) 0 false, .row true [.i .i64, .i .i64, .i .i64] ([] : List T) 0 false, .row false [.i .u8] (asL (nth r227 0)) 0 false]⟩
theorem f32_0_round (c : Orc) (lf : Nat) (n3 n0_4 : Int) (r227 : List T) (L : CSt → Option (List T)) (x231 x232 : Int) (x233 : Bool) (x234 x235 : List T) :
 roundK c env lf 6 fi32 8 3 [] [3, 4, 8, 11, 12] (x32_3_0) L (f32_0_c n3 n0_4 r227 x231 x232 x233 x234 x235) = f32_0_s c lf n3 n0_4 r227 (fun x231 x232 x233 x234 x235 => L (f32_0_c n3 n0_4 r227 x231 x232 x233 x234 x235)) x231 x232 x233 x234 x235 := by kernel_rfl
def f32_0 (c : Orc) (lf : Nat) (n3 n0_4 : Int) (r227 : List T) : Nat → Int → Int → Bool → List T → List T → Option (List T)
 | 0 => fun _ _ _ _ _ => none
 | n + 1 => fun x231 x232 x233 x234 x235 => f32_0_s c lf n3 n0_4 r227 (f32_0 c lf n3 n0_4 r227 n) x231 x232 x233 x234 x235
theorem f32_0_u (c : Orc) (lf : Nat) (n3 n0_4 : Int) (r227 : List T) (n : Nat) (x231 x232 : Int) (x233 : Bool) (x234 x235 : List T) : f32_0 c lf n3 n0_4 r227 (n + 1) x231 x232 x233 x234 x235 = f32_0_s c lf n3 n0_4 r227 (f32_0 c lf n3 n0_4 r227 n) x231 x232 x233 x234 x235 := rfl
theorem f32_0_eq (c : Orc) (lf : Nat) (n3 n0_4 : Int) (r227 : List T) (n : Nat) (x231 x232 : Int) (x233 : Bool) (x234 x235 : List T) :
 lpK c env lf 6 fi32 8 3 [] [3, 4, 8, 11, 12] (x32_3_0) n (f32_0_c n3 n0_4 r227 x231 x232 x233 x234 x235) = f32_0 c lf n3 n0_4 r227 n x231 x232 x233 x234 x235 := by
 induction n generalizing x231 x232 x233 x234 x235 with
 | zero => rfl
 | succ n ih =>
  refine (f32_0_round c lf n3 n0_4 r227 _ x231 x232 x233 x234 x235).trans ?_
  have e : (fun x231 x232 x233 x234 x235 => lpK c env lf 6 fi32 8 3 [] [3, 4, 8, 11, 12] (x32_3_0) n (f32_0_c n3 n0_4 r227 x231 x232 x233 x234 x235)) = f32_0 c lf n3 n0_4 r227 n := by funext x231 x232 x233 x234 x235; exact ih x231 x232 x233 x234 x235
  show f32_0_s c lf n3 n0_4 r227 (fun x231 x232 x233 x234 x235 => lpK c env lf 6 fi32 8 3 [] [3, 4, 8, 11, 12] (x32_3_0) n (f32_0_c n3 n0_4 r227 x231 x232 x233 x234 x235)) x231 x232 x233 x234 x235 = _
  rw [e]; rfl
def f32_t (c : Orc) (lf : Nat) (lp0 : Int → Int → List T → Int → Int → Bool → List T → List T → Option (List T)) (l0_0 : List T) (n0_1 : Int) (l0_2 : List T) (b0_3 : Bool) (n0_4 n1 : Int) (l2 : List T) (n3 : Int) : Option (List T) :=
 (c 41 [T.st [T.i .i64 n1, T.i .i64 n0_4, T.sl l2]]).bind fun r227 =>
 (lp0 n3 n0_4 r227 0 n0_1 b0_3 l0_0 l0_2).bind fun r239 =>
 bif asI (nth r239 0) == 0 then
  some [T.st [T.sl (asL (nth r239 6)), T.i .i64 (asI (nth r239 3)), T.sl (asL (nth r239 7)), T.b (asB (nth r239 4)), T.i .i64 (asI (nth r239 5))], T.i .i64 (asI (nth r239 1)), T.i .i64 (asI (nth r239 2))]
 else
  some [T.st [T.sl (asL (nth r239 4)), T.i .i64 (asI (nth r239 1)), T.sl (asL (nth r239 5)), T.b (asB (nth r239 2)), T.i .i64 (asI (nth r239 3))], T.i .i64 (-1), T.i .i64 9]
def f32 (c : Orc) (lf : Nat) (l0_0 : List T) (n0_1 : Int) (l0_2 : List T) (b0_3 : Bool) (n0_4 n1 : Int) (l2 : List T) (n3 : Int) : Option (List T) := f32_t c lf (fun (n3 n0_4 : Int) (r227 : List T) (x231 x232 : Int) (x233 : Bool) (x234 x235 : List T) => f32_0 c lf n3 n0_4 r227 lf x231 x232 x233 x234 x235) l0_0 n0_1 l0_2 b0_3 n0_4 n1 l2 n3
theorem f32_raw (c : Orc) (lf : Nat) (l0_0 : List T) (n0_1 : Int) (l0_2 : List T) (b0_3 : Bool) (n0_4 n1 : Int) (l2 : List T) (n3 : Int) : funK c env lf 6 fi32 [.st [.sl l0_0, .i .i64 n0_1, .sl l0_2, .b b0_3, .i .i64 n0_4], .i .i64 n1, .sl l2, .i .i64 n3] = f32_t c lf (fun (n3 n0_4 : Int) (r227 : List T) (x231 x232 : Int) (x233 : Bool) (x234 x235 : List T) => lpK c env lf 6 fi32 8 3 [] [3, 4, 8, 11, 12] (x32_3_0) lf (f32_0_c n3 n0_4 r227 x231 x232 x233 x234 x235)) l0_0 n0_1 l0_2 b0_3 n0_4 n1 l2 n3 := by kernel_rfl
theorem f32_eq (c : Orc) (lf : Nat) (l0_0 : List T) (n0_1 : Int) (l0_2 : List T) (b0_3 : Bool) (n0_4 n1 : Int) (l2 : List T) (n3 : Int) : funK c env lf 6 fi32 [.st [.sl l0_0, .i .i64 n0_1, .sl l0_2, .b b0_3, .i .i64 n0_4], .i .i64 n1, .sl l2, .i .i64 n3] = f32 c lf l0_0 n0_1 l0_2 b0_3 n0_4 n1 l2 n3 := by
 refine (f32_raw c lf l0_0 n0_1 l0_2 b0_3 n0_4 n1 l2 n3).trans ?_
 have e0 : (fun (n3 n0_4 : Int) (r227 : List T) (x231 x232 : Int) (x233 : Bool) (x234 x235 : List T) => lpK c env lf 6 fi32 8 3 [] [3, 4, 8, 11, 12] (x32_3_0) lf (f32_0_c n3 n0_4 r227 x231 x232 x233 x234 x235)) = (fun (n3 n0_4 : Int) (r227 : List T) (x231 x232 : Int) (x233 : Bool) (x234 x235 : List T) => f32_0 c lf n3 n0_4 r227 lf x231 x232 x233 x234 x235) := by funext n3 n0_4 r227 x231 x232 x233 x234 x235; exact f32_0_eq c lf n3 n0_4 r227 lf x231 x232 x233 x234 x235
 rw [e0]; rfl
def f22_t (c : Orc) (lf : Nat) (l0_0 : List T) (n0_1 : Int) (l0_2 : List T) (b0_3 : Bool) (n0_4 n1 : Int) (l2 : List T) (n3 : Int) : Option (List T) :=
 (c 30 [T.st [T.sl l0_0, T.i .i64 n0_1, T.sl l0_2, T.b b0_3, T.i .i64 n0_4]]).bind fun r240 =>
 (c 29 [T.st [T.sl l0_0, T.i .i64 n0_1, T.sl l0_2, T.b b0_3]]).bind fun r241 =>
 bif !(asB (nth r241 0)) then
  some [T.st [T.sl (asL (T.cell (nth r240 0) 0)), T.i .i64 (asI (T.cell (nth r240 0) 1)), T.sl (asL (T.cell (nth r240 0) 2)), T.b (asB (T.cell (nth r240 0) 3)), T.i .i64 (asI (T.cell (nth r240 0) 4))], T.i .i64 (-1), T.i .i64 1]
 else
  (c 31 [T.st [T.i .i64 n1, T.i .i64 n0_4, T.sl l2]]).bind fun r242 =>
  bif !(asB (nth r242 0)) then
   some [T.st [T.sl (asL (T.cell (nth r240 0) 0)), T.i .i64 (asI (T.cell (nth r240 0) 1)), T.sl (asL (T.cell (nth r240 0) 2)), T.b (asB (T.cell (nth r240 0) 3)), T.i .i64 (asI (T.cell (nth r240 0) 4))], T.i .i64 (-1), T.i .i64 1]
  else
   bif iLe 1000000 n0_4 then
    some [T.st [T.sl (asL (T.cell (nth r240 0) 0)), T.i .i64 (asI (T.cell (nth r240 0) 1)), T.sl (asL (T.cell (nth r240 0) 2)), T.b (asB (T.cell (nth r240 0) 3)), T.i .i64 (asI (T.cell (nth r240 0) 4))], T.i .i64 (-1), T.i .i64 1]
   else
    (c 32 [T.st [T.sl (asL (T.cell (nth r240 0) 0)), T.i .i64 (asI (T.cell (nth r240 0) 1)), T.sl (asL (T.cell (nth r240 0) 2)), T.b (asB (T.cell (nth r240 0) 3)), T.i .i64 (asI (T.cell (nth r240 0) 4))], T.i .i64 n1, T.sl l2, T.i .i64 n3]).bind fun r243 =>
    some [T.st [T.sl (asL (T.cell (nth r243 0) 0)), T.i .i64 (asI (T.cell (nth r243 0) 1)), T.sl (asL (T.cell (nth r243 0) 2)), T.b (asB (T.cell (nth r243 0) 3)), T.i .i64 (asI (T.cell (nth r243 0) 4))], T.i .i64 (asI (nth r243 1)), T.i .i64 (asI (nth r243 2))]
def f22 (c : Orc) (lf : Nat) (l0_0 : List T) (n0_1 : Int) (l0_2 : List T) (b0_3 : Bool) (n0_4 n1 : Int) (l2 : List T) (n3 : Int) : Option (List T) := f22_t c lf l0_0 n0_1 l0_2 b0_3 n0_4 n1 l2 n3
theorem f22_eq (c : Orc) (lf : Nat) (l0_0 : List T) (n0_1 : Int) (l0_2 : List T) (b0_3 : Bool) (n0_4 n1 : Int) (l2 : List T) (n3 : Int) : funK c env lf 6 fi22 [.st [.sl l0_0, .i .i64 n0_1, .sl l0_2, .b b0_3, .i .i64 n0_4], .i .i64 n1, .sl l2, .i .i64 n3] = f22 c lf l0_0 n0_1 l0_2 b0_3 n0_4 n1 l2 n3 := by kernel_rfl
def f24_t (c : Orc) (lf : Nat) (l0_0 : List T) (n0_1 n0_2 n1 : Int) : Option (List T) :=
 (c 17 [T.st [T.sl l0_0, T.i .i64 n0_1, T.i .i64 n0_2], T.i .i64 n1]).bind fun r244 =>
 some [T.b ((asI (nth r244 0)) == 0), T.st [T.sl l0_0, T.i .i64 (asI (T.cell (nth r244 1) 1)), T.i .i64 (asI (T.cell (nth r244 1) 2))]]
def f24 (c : Orc) (lf : Nat) (l0_0 : List T) (n0_1 n0_2 n1 : Int) : Option (List T) := f24_t c lf l0_0 n0_1 n0_2 n1
theorem f24_eq (c : Orc) (lf : Nat) (l0_0 : List T) (n0_1 n0_2 n1 : Int) : funK c env lf 6 fi24 [.st [.sl l0_0, .i .i64 n0_1, .i .i64 n0_2], .i .i64 n1] = f24 c lf l0_0 n0_1 n0_2 n1 := by kernel_rfl
def f16_0_s (c : Orc) (lf : Nat) (l0_0 : List T) (L : Int → Int → Int → Int → Bool → Int → List T → List T → Option (List T)) (x277 x278 : Int) (x279 x280 : Int) (x281 : Bool) (x282 : Int) (x283 x284 : List T) : Option (List T) :=
 bif iLt 0 x277 then
  (c 17 [T.st [T.sl l0_0, T.i .i64 x278, T.i .i64 x279], T.i .i64 4]).bind fun r285 =>
  (c 23 [T.st [T.sl l0_0, T.i .i64 (asI (T.cell (nth r285 1) 1)), T.i .i64 (asI (T.cell (nth r285 1) 2))]]).bind fun r286 =>
  (c 17 [T.st [T.sl l0_0, T.i .i64 (asI (T.cell (nth r286 1) 1)), T.i .i64 (asI (T.cell (nth r286 1) 2))], T.i .i64 2]).bind fun r287 =>
  (c 22 [T.st [T.sl x283, T.i .i64 x280, T.sl x284, T.b x281, T.i .i64 x282], T.i .i64 (IntKind.wrap .i64 (1 + (asI (nth r285 0)))), T.sl (asL (nth r286 0)), T.i .i64 (asI (nth r287 0))]).bind fun r288 =>
  bif asB (T.cell (nth r288 0) 3) then
   (c 24 [T.st [T.sl l0_0, T.i .i64 (asI (T.cell (nth r287 1) 1)), T.i .i64 (asI (T.cell (nth r287 1) 2))], T.i .i64 3]).bind fun r289 =>
   bif asB (nth r289 0) then
    L (IntKind.wrap .i64 (x277 - 1)) (asI (T.cell (nth r289 1) 1)) (asI (T.cell (nth r289 1) 2)) (asI (T.cell (nth r288 0) 1)) false (asI (T.cell (nth r288 0) 4)) (asL (T.cell (nth r288 0) 0)) (asL (T.cell (nth r288 0) 2))
   else
    L (IntKind.wrap .i64 (x277 - 1)) (asI (T.cell (nth r289 1) 1)) (asI (T.cell (nth r289 1) 2)) (asI (T.cell (nth r288 0) 1)) (asB (T.cell (nth r288 0) 3)) (asI (T.cell (nth r288 0) 4)) (asL (T.cell (nth r288 0) 0)) (asL (T.cell (nth r288 0) 2))
  else
   L (IntKind.wrap .i64 (x277 - 1)) (asI (T.cell (nth r287 1) 1)) (asI (T.cell (nth r287 1) 2)) (asI (T.cell (nth r288 0) 1)) (asB (T.cell (nth r288 0) 3)) (asI (T.cell (nth r288 0) 4)) (asL (T.cell (nth r288 0) 0)) (asL (T.cell (nth r288 0) 2))
 else
  some [T.i .i64 0, T.sl l0_0, T.i .i64 x278, T.i .i64 x279, T.i .i64 0, T.b false, T.i .i64 0, T.sl ([] : List T), T.sl ([] : List T), T.i .i64 x280, T.b x281, T.i .i64 x282, T.sl x283, T.sl x284]
def f16_0_c (l0_0 : List T) (x277 x278 : Int) (x279 x280 : Int) (x281 : Bool) (x282 : Int) (x283 x284 : List T) : CSt := ⟨[.bp 0 0, .bp 4 0, .bp 7 0, .i .i64 x277], [.box [.ro 1 false [.i .u8] l0_0, .i .i64 x278, .i .i64 x279], .dead, .dead, .dead, .box [.rf 5 [] 0 none, .i .i64 0, .rf 6 [] 0 none, .b false, .i .i64 0], .row true [.sl true [.b, .sl false [.i .u8]], .i .i64, .b] ([] : List T) 0 false, .row true [.i .i64, .i .i64, .i .i64] ([] : List T) 0 false, .box [.rf 8 [] 0 none, .i .i64 x280, .rf 9 [] 0 none, .b x281, .i .i64 x282], .row true [.sl true [.b, .sl false [.i .u8]], .i .i64, .b] x283 0 false, .row true [.i .i64, .i .i64, .i .i64] x284 0 false]⟩
theorem f16_0_round (c : Orc) (lf : Nat) (l0_0 : List T) (L : CSt → Option (List T)) (x277 x278 : Int) (x279 x280 : Int) (x281 : Bool) (x282 : Int) (x283 x284 : List T) :
 roundK c env lf 6 fi16 4 3 [] [0, 2, 3, 4] (x16_3_0) L (f16_0_c l0_0 x277 x278 x279 x280 x281 x282 x283 x284) = f16_0_s c lf l0_0 (fun x277 x278 x279 x280 x281 x282 x283 x284 => L (f16_0_c l0_0 x277 x278 x279 x280 x281 x282 x283 x284)) x277 x278 x279 x280 x281 x282 x283 x284 := by kernel_rfl
def f16_0 (c : Orc) (lf : Nat) (l0_0 : List T) : Nat → Int → Int → Int → Int → Bool → Int → List T → List T → Option (List T)
 | 0 => fun _ _ _ _ _ _ _ _ => none
 | n + 1 => fun x277 x278 x279 x280 x281 x282 x283 x284 => f16_0_s c lf l0_0 (f16_0 c lf l0_0 n) x277 x278 x279 x280 x281 x282 x283 x284
theorem f16_0_u (c : Orc) (lf : Nat) (l0_0 : List T) (n : Nat) (x277 x278 : Int) (x279 x280 : Int) (x281 : Bool) (x282 : Int) (x283 x284 : List T) : f16_0 c lf l0_0 (n + 1) x277 x278 x279 x280 x281 x282 x283 x284 = f16_0_s c lf l0_0 (f16_0 c lf l0_0 n) x277 x278 x279 x280 x281 x282 x283 x284 := rfl
theorem f16_0_eq (c : Orc) (lf : Nat) (l0_0 : List T) (n : Nat) (x277 x278 : Int) (x279 x280 : Int) (x281 : Bool) (x282 : Int) (x283 x284 : List T) :
 lpK c env lf 6 fi16 4 3 [] [0, 2, 3, 4] (x16_3_0) n (f16_0_c l0_0 x277 x278 x279 x280 x281 x282 x283 x284) = f16_0 c lf l0_0 n x277 x278 x279 x280 x281 x282 x283 x284 := by
 induction n generalizing x277 x278 x279 x280 x281 x282 x283 x284 with
 | zero => rfl
 | succ n ih =>
  refine (f16_0_round c lf l0_0 _ x277 x278 x279 x280 x281 x282 x283 x284).trans ?_
  have e : (fun x277 x278 x279 x280 x281 x282 x283 x284 => lpK c env lf 6 fi16 4 3 [] [0, 2, 3, 4] (x16_3_0) n (f16_0_c l0_0 x277 x278 x279 x280 x281 x282 x283 x284)) = f16_0 c lf l0_0 n := by funext x277 x278 x279 x280 x281 x282 x283 x284; exact ih x277 x278 x279 x280 x281 x282 x283 x284
  show f16_0_s c lf l0_0 (fun x277 x278 x279 x280 x281 x282 x283 x284 => lpK c env lf 6 fi16 4 3 [] [0, 2, 3, 4] (x16_3_0) n (f16_0_c l0_0 x277 x278 x279 x280 x281 x282 x283 x284)) x277 x278 x279 x280 x281 x282 x283 x284 = _
  rw [e]; rfl
def f16_t (c : Orc) (lf : Nat) (lp0 : List T → Int → Int → Int → Int → Bool → Int → List T → List T → Option (List T)) (l0_0 : List T) (n0_1 n0_2 : Int) : Option (List T) :=
 (c 17 [T.st [T.sl l0_0, T.i .i64 n0_1, T.i .i64 n0_2], T.i .i64 3]).bind fun r268 =>
 (c 21 [T.st [T.sl l0_0, T.i .i64 (asI (T.cell (nth r268 1) 1)), T.i .i64 (asI (T.cell (nth r268 1) 2))]]).bind fun r269 =>
 (c 20 [T.i .i64 (IntKind.wrap .i64 (3 + (asI (nth r268 0)))), T.sl (asL (nth r269 0))]).bind fun r270 =>
 (c 17 [T.st [T.sl l0_0, T.i .i64 (asI (T.cell (nth r269 1) 1)), T.i .i64 (asI (T.cell (nth r269 1) 2))], T.i .i64 20]).bind fun r271 =>
 (lp0 l0_0 (asI (nth r271 0)) (asI (T.cell (nth r271 1) 1)) (asI (T.cell (nth r271 1) 2)) (asI (T.cell (nth r270 0) 1)) (asB (T.cell (nth r270 0) 3)) 0 (asL (T.cell (nth r270 0) 0)) (asL (T.cell (nth r270 0) 2))).bind fun r290 =>
 some [T.st [T.sl (asL (nth r290 12)), T.i .i64 (asI (nth r290 9)), T.sl (asL (nth r290 13)), T.b (asB (nth r290 10)), T.i .i64 (asI (nth r290 11))], T.st [T.sl (asL (nth r290 1)), T.i .i64 (asI (nth r290 2)), T.i .i64 (asI (nth r290 3))]]
def f16 (c : Orc) (lf : Nat) (l0_0 : List T) (n0_1 n0_2 : Int) : Option (List T) := f16_t c lf (fun (l0_0 : List T) (x277 x278 : Int) (x279 x280 : Int) (x281 : Bool) (x282 : Int) (x283 x284 : List T) => f16_0 c lf l0_0 lf x277 x278 x279 x280 x281 x282 x283 x284) l0_0 n0_1 n0_2
theorem f16_raw (c : Orc) (lf : Nat) (l0_0 : List T) (n0_1 n0_2 : Int) : funK c env lf 6 fi16 [.st [.sl l0_0, .i .i64 n0_1, .i .i64 n0_2]] = f16_t c lf (fun (l0_0 : List T) (x277 x278 : Int) (x279 x280 : Int) (x281 : Bool) (x282 : Int) (x283 x284 : List T) => lpK c env lf 6 fi16 4 3 [] [0, 2, 3, 4] (x16_3_0) lf (f16_0_c l0_0 x277 x278 x279 x280 x281 x282 x283 x284)) l0_0 n0_1 n0_2 := by kernel_rfl
theorem f16_eq (c : Orc) (lf : Nat) (l0_0 : List T) (n0_1 n0_2 : Int) : funK c env lf 6 fi16 [.st [.sl l0_0, .i .i64 n0_1, .i .i64 n0_2]] = f16 c lf l0_0 n0_1 n0_2 := by
 refine (f16_raw c lf l0_0 n0_1 n0_2).trans ?_
 have e0 : (fun (l0_0 : List T) (x277 x278 : Int) (x279 x280 : Int) (x281 : Bool) (x282 : Int) (x283 x284 : List T) => lpK c env lf 6 fi16 4 3 [] [0, 2, 3, 4] (x16_3_0) lf (f16_0_c l0_0 x277 x278 x279 x280 x281 x282 x283 x284)) = (fun (l0_0 : List T) (x277 x278 : Int) (x279 x280 : Int) (x281 : Bool) (x282 : Int) (x283 x284 : List T) => f16_0 c lf l0_0 lf x277 x278 x279 x280 x281 x282 x283 x284) := by funext l0_0 x277 x278 x279 x280 x281 x282 x283 x284; exact f16_0_eq c lf l0_0 lf x277 x278 x279 x280 x281 x282 x283 x284
 rw [e0]; rfl
def f44_t (c : Orc) (lf : Nat) (l0_0 : List T) (n1 : Int) : Option (List T) :=
 bif iLe 0 n1 then
  bif iLt n1 (l0_0.length : Int) then
   bif inR n1 l0_0.length then
   (c 54 [T.st [T.sl l0_0], T.i .i64 n1, T.b (iLe 100000 (asI (T.cell (l0_0.getD n1.toNat T.u) 1)))]).bind fun r291 =>
   some [T.i .i64 (asI (nth r291 0))]
   else none
  else
   (c 54 [T.st [T.sl l0_0], T.i .i64 n1, T.b false]).bind fun r292 =>
   some [T.i .i64 (asI (nth r292 0))]
 else
  (c 54 [T.st [T.sl l0_0], T.i .i64 n1, T.b false]).bind fun r293 =>
  some [T.i .i64 (asI (nth r293 0))]
def f44 (c : Orc) (lf : Nat) (l0_0 : List T) (n1 : Int) : Option (List T) := f44_t c lf l0_0 n1
theorem f44_eq (c : Orc) (lf : Nat) (l0_0 : List T) (n1 : Int) : funK c env lf 6 fi44 [.st [.sl l0_0], .i .i64 n1] = f44 c lf l0_0 n1 := by kernel_rfl
def f46_t (c : Orc) (lf : Nat) (l0_0 : List T) (n1 : Int) : Option (List T) :=
 (c 50 [T.st [T.sl l0_0]]).bind fun r294 =>
 (c 44 [T.st [T.sl l0_0], T.i .i64 n1]).bind fun r295 =>
 bif (asI (nth r295 0)) == 0 then
  bif inR n1 ((asL (T.cell (nth r294 0) 0)).length) then
  bif inR n1 l0_0.length then
  bif inR n1 (((asL (T.cell (nth r294 0) 0)).set n1.toNat (T.setc ((asL (T.cell (nth r294 0) 0)).getD n1.toNat T.u) 0 (T.sl ([T.st [T.b false, T.sl []], T.st [T.b false, T.sl []], T.st [T.b false, T.sl []], T.st [T.b false, T.sl []], T.st [T.b false, T.sl []], T.st [T.b false, T.sl []], T.st [T.b false, T.sl []], T.st [T.b false, T.sl []]] : List T)))).length) then
  some [T.st [T.sl (((asL (T.cell (nth r294 0) 0)).set n1.toNat (T.setc ((asL (T.cell (nth r294 0) 0)).getD n1.toNat T.u) 0 (T.sl ([T.st [T.b false, T.sl []], T.st [T.b false, T.sl []], T.st [T.b false, T.sl []], T.st [T.b false, T.sl []], T.st [T.b false, T.sl []], T.st [T.b false, T.sl []], T.st [T.b false, T.sl []], T.st [T.b false, T.sl []]] : List T)))).set n1.toNat (T.setc (((asL (T.cell (nth r294 0) 0)).set n1.toNat (T.setc ((asL (T.cell (nth r294 0) 0)).getD n1.toNat T.u) 0 (T.sl ([T.st [T.b false, T.sl []], T.st [T.b false, T.sl []], T.st [T.b false, T.sl []], T.st [T.b false, T.sl []], T.st [T.b false, T.sl []], T.st [T.b false, T.sl []], T.st [T.b false, T.sl []], T.st [T.b false, T.sl []]] : List T)))).getD n1.toNat T.u) 1 (T.i .i64 (IntKind.wrap .i64 ((asI (T.cell (l0_0.getD n1.toNat T.u) 1)) + 1)))))], T.i .i64 (asI (nth r295 0))]
  else none
  else none
  else none
 else
  some [T.st [T.sl (asL (T.cell (nth r294 0) 0))], T.i .i64 (asI (nth r295 0))]
def f46 (c : Orc) (lf : Nat) (l0_0 : List T) (n1 : Int) : Option (List T) := f46_t c lf l0_0 n1
theorem f46_eq (c : Orc) (lf : Nat) (l0_0 : List T) (n1 : Int) : funK c env lf 6 fi46 [.st [.sl l0_0], .i .i64 n1] = f46 c lf l0_0 n1 := by kernel_rfl
def f34_0_s (c : Orc) (lf : Nat) (n1 n0_1 : Int) (r308 r311 : List T) (L : Int → List T → Option (List T)) (x313 : Int) (x314 : List T) : Option (List T) :=
 bif iLt x313 8 then
  bif iLt x313 (asI (T.cell (nth r311 0) 2)) then
   bif inR n1 x314.length then
   bif inR x313 ((asL (T.cell (x314.getD n1.toNat T.u) 0)).length) then
   L (IntKind.wrap .i64 (x313 + 1)) (x314.set n1.toNat (T.setc (x314.getD n1.toNat T.u) 0 (T.sl ((asL (T.cell (x314.getD n1.toNat T.u) 0)).set x313.toNat (T.st [T.b true, T.sl ([] : List T)])))))
   else none
   else none
  else
   some [T.i .i64 0, T.i .i64 0, T.b false, T.sl ([] : List T), T.sl ([] : List T), T.i .i64 (IntKind.wrap .i64 (n0_1 + 1)), T.b (asB (T.cell (nth r308 0) 3)), T.sl x314, T.sl (asL (T.cell (nth r308 0) 2))]
 else
  some [T.i .i64 0, T.i .i64 0, T.b false, T.sl ([] : List T), T.sl ([] : List T), T.i .i64 (IntKind.wrap .i64 (n0_1 + 1)), T.b (asB (T.cell (nth r308 0) 3)), T.sl x314, T.sl (asL (T.cell (nth r308 0) 2))]
def f34_0_c (n1 n0_1 : Int) (r308 r311 : List T) (x313 : Int) (x314 : List T) : CSt := ⟨[.i .i64 n1, .bp 5 0, .bp 8 0, .bp 11 0, .i .i64 x313], [.dead, .dead, .dead, .dead, .dead, .box [.rf 6 [] 0 none, .i .i64 0, .rf 7 [] 0 none, .b false], .row true [.sl true [.b, .sl false [.i .u8]], .i .i64, .b] ([] : List T) 0 false, .row true [.i .i64, .i .i64, .i .i64] ([] : List T) 0 false, .box [.rf 9 [] 0 none, .i .i64 (IntKind.wrap .i64 (n0_1 + 1)), .rf 10 [] 0 none, .b (asB (T.cell (nth r308 0) 3))], .row true [.sl true [.b, .sl false [.i .u8]], .i .i64, .b] x314 0 false, .row true [.i .i64, .i .i64, .i .i64] (asL (T.cell (nth r308 0) 2)) 0 false, .box [.i .i64 (asI (T.cell (nth r311 0) 0)), .i .i64 (asI (T.cell (nth r311 0) 1)), .i .i64 (asI (T.cell (nth r311 0) 2))]]⟩
theorem f34_0_round (c : Orc) (lf : Nat) (n1 n0_1 : Int) (r308 r311 : List T) (L : CSt → Option (List T)) (x313 : Int) (x314 : List T) :
 roundK c env lf 6 fi34 5 14 [] [1, 4, 6, 8, 10] (x34_14_0) L (f34_0_c n1 n0_1 r308 r311 x313 x314) = f34_0_s c lf n1 n0_1 r308 r311 (fun x313 x314 => L (f34_0_c n1 n0_1 r308 r311 x313 x314)) x313 x314 := by kernel_rfl
def f34_0 (c : Orc) (lf : Nat) (n1 n0_1 : Int) (r308 r311 : List T) : Nat → Int → List T → Option (List T)
 | 0 => fun _ _ => none
 | n + 1 => fun x313 x314 => f34_0_s c lf n1 n0_1 r308 r311 (f34_0 c lf n1 n0_1 r308 r311 n) x313 x314
theorem f34_0_u (c : Orc) (lf : Nat) (n1 n0_1 : Int) (r308 r311 : List T) (n : Nat) (x313 : Int) (x314 : List T) : f34_0 c lf n1 n0_1 r308 r311 (n + 1) x313 x314 = f34_0_s c lf n1 n0_1 r308 r311 (f34_0 c lf n1 n0_1 r308 r311 n) x313 x314 := rfl
theorem f34_0_eq (c : Orc) (lf : Nat) (n1 n0_1 : Int) (r308 r311 : List T) (n : Nat) (x313 : Int) (x314 : List T) :
 lpK c env lf 6 fi34 5 14 [] [1, 4, 6, 8, 10] (x34_14_0) n (f34_0_c n1 n0_1 r308 r311 x313 x314) = f34_0 c lf n1 n0_1 r308 r311 n x313 x314 := by
 induction n generalizing x313 x314 with
 | zero => rfl
 | succ n ih =>
  refine (f34_0_round c lf n1 n0_1 r308 r311 _ x313 x314).trans ?_
  have e : (fun x313 x314 => lpK c env lf 6 fi34 5 14 [] [1, 4, 6, 8, 10] (x34_14_0) n (f34_0_c n1 n0_1 r308 r311 x313 x314)) = f34_0 c lf n1 n0_1 r308 r311 n := by funext x313 x314; exact ih x313 x314
  show f34_0_s c lf n1 n0_1 r308 r311 (fun x313 x314 => lpK c env lf 6 fi34 5 14 [] [1, 4, 6, 8, 10] (x34_14_0) n (f34_0_c n1 n0_1 r308 r311 x313 x314)) x313 x314 = _
  rw [e]; rfl
def f34_1_s (c : Orc) (lf : Nat) (n1 n0_1 : Int) (r308 r311 : List T) (L : Int → List T → Option (List T)) (x317 : Int) (x318 : List T) : Option (List T) :=
 bif iLt x317 8 then
  bif iLt x317 (asI (T.cell (nth r311 0) 2)) then
   bif inR n1 x318.length then
   bif inR x317 ((asL (T.cell (x318.getD n1.toNat T.u) 0)).length) then
   L (IntKind.wrap .i64 (x317 + 1)) (x318.set n1.toNat (T.setc (x318.getD n1.toNat T.u) 0 (T.sl ((asL (T.cell (x318.getD n1.toNat T.u) 0)).set x317.toNat (T.st [T.b true, T.sl ([] : List T)])))))
   else none
   else none
  else
   some [T.i .i64 0, T.i .i64 0, T.b false, T.sl ([] : List T), T.sl ([] : List T), T.i .i64 (IntKind.wrap .i64 (n0_1 + 1)), T.b (asB (T.cell (nth r308 0) 3)), T.sl x318, T.sl (asL (T.cell (nth r308 0) 2))]
 else
  some [T.i .i64 0, T.i .i64 0, T.b false, T.sl ([] : List T), T.sl ([] : List T), T.i .i64 (IntKind.wrap .i64 (n0_1 + 1)), T.b (asB (T.cell (nth r308 0) 3)), T.sl x318, T.sl (asL (T.cell (nth r308 0) 2))]
def f34_1_c (n1 n0_1 : Int) (r308 r311 : List T) (x317 : Int) (x318 : List T) : CSt := ⟨[.i .i64 n1, .bp 5 0, .bp 8 0, .bp 11 0, .i .i64 x317], [.dead, .dead, .dead, .dead, .dead, .box [.rf 6 [] 0 none, .i .i64 0, .rf 7 [] 0 none, .b false], .row true [.sl true [.b, .sl false [.i .u8]], .i .i64, .b] ([] : List T) 0 false, .row true [.i .i64, .i .i64, .i .i64] ([] : List T) 0 false, .box [.rf 9 [] 0 none, .i .i64 (IntKind.wrap .i64 (n0_1 + 1)), .rf 10 [] 0 none, .b (asB (T.cell (nth r308 0) 3))], .row true [.sl true [.b, .sl false [.i .u8]], .i .i64, .b] x318 0 false, .row true [.i .i64, .i .i64, .i .i64] (asL (T.cell (nth r308 0) 2)) 0 false, .box [.i .i64 (asI (T.cell (nth r311 0) 0)), .i .i64 (asI (T.cell (nth r311 0) 1)), .i .i64 (asI (T.cell (nth r311 0) 2))]]⟩
theorem f34_1_round (c : Orc) (lf : Nat) (n1 n0_1 : Int) (r308 r311 : List T) (L : CSt → Option (List T)) (x317 : Int) (x318 : List T) :
 roundK c env lf 6 fi34 5 14 [] [1, 4, 6, 8, 10] (x34_14_0) L (f34_1_c n1 n0_1 r308 r311 x317 x318) = f34_1_s c lf n1 n0_1 r308 r311 (fun x317 x318 => L (f34_1_c n1 n0_1 r308 r311 x317 x318)) x317 x318 := by kernel_rfl
def f34_1 (c : Orc) (lf : Nat) (n1 n0_1 : Int) (r308 r311 : List T) : Nat → Int → List T → Option (List T)
 | 0 => fun _ _ => none
 | n + 1 => fun x317 x318 => f34_1_s c lf n1 n0_1 r308 r311 (f34_1 c lf n1 n0_1 r308 r311 n) x317 x318
theorem f34_1_eq (c : Orc) (lf : Nat) (n1 n0_1 : Int) (r308 r311 : List T) (n : Nat) (x317 : Int) (x318 : List T) :
 lpK c env lf 6 fi34 5 14 [] [1, 4, 6, 8, 10] (x34_14_0) n (f34_1_c n1 n0_1 r308 r311 x317 x318) = f34_1 c lf n1 n0_1 r308 r311 n x317 x318 := by
 induction n generalizing x317 x318 with
 | zero => rfl
 | succ n ih =>
  refine (f34_1_round c lf n1 n0_1 r308 r311 _ x317 x318).trans ?_
  have e : (fun x317 x318 => lpK c env lf 6 fi34 5 14 [] [1, 4, 6, 8, 10] (x34_14_0) n (f34_1_c n1 n0_1 r308 r311 x317 x318)) = f34_1 c lf n1 n0_1 r308 r311 n := by funext x317 x318; exact ih x317 x318
  show f34_1_s c lf n1 n0_1 r308 r311 (fun x317 x318 => lpK c env lf 6 fi34 5 14 [] [1, 4, 6, 8, 10] (x34_14_0) n (f34_1_c n1 n0_1 r308 r311 x317 x318)) x317 x318 = _
  rw [e]; rfl
def f34_t (c : Orc) (lf : Nat) (lp0 : Int → Int → List T → List T → Int → List T → Option (List T)) (lp1 : Int → Int → List T → List T → Int → List T → Option (List T)) (l0_0 : List T) (n0_1 : Int) (l0_2 : List T) (b0_3 : Bool) (n1 : Int) : Option (List T) :=
 (c 40 [T.st [T.sl l0_0, T.i .i64 n0_1, T.sl l0_2, T.b b0_3]]).bind fun r308 =>
 (c 44 [T.st [T.sl l0_0], T.i .i64 n1]).bind fun r309 =>
 (c 43 [T.st [T.sl l0_0, T.i .i64 n0_1, T.sl l0_2, T.b b0_3], T.i .i64 (asI (nth r309 0))]).bind fun r310 =>
 bif (asI (nth r310 0)) != 0 then
  some [T.st [T.sl (asL (T.cell (nth r308 0) 0)), T.i .i64 (asI (T.cell (nth r308 0) 1)), T.sl (asL (T.cell (nth r308 0) 2)), T.b (asB (T.cell (nth r308 0) 3))], T.i .i64 (asI (nth r310 0))]
 else
  (c 45 [T.st [T.sl l0_0, T.i .i64 n0_1, T.sl l0_2, T.b b0_3]]).bind fun r311 =>
  bif asB (nth r311 1) then
   bif (asI (T.cell (nth r311 0) 1)) == 1 then
    bif inR n1 ((asL (T.cell (nth r308 0) 0)).length) then
    some [T.st [T.sl ((asL (T.cell (nth r308 0) 0)).set n1.toNat (T.setc ((asL (T.cell (nth r308 0) 0)).getD n1.toNat T.u) 2 (T.b true))), T.i .i64 (IntKind.wrap .i64 (n0_1 + 1)), T.sl (asL (T.cell (nth r308 0) 2)), T.b (asB (T.cell (nth r308 0) 3))], T.i .i64 2]
    else none
   else
    (c 46 [T.st [T.sl l0_0], T.i .i64 n1]).bind fun r312 =>
    bif !(asB (nth r311 1)) then
     some [T.st [T.sl (asL (T.cell (nth r312 0) 0)), T.i .i64 (IntKind.wrap .i64 (n0_1 + 1)), T.sl (asL (T.cell (nth r308 0) 2)), T.b (asB (T.cell (nth r308 0) 3))], T.i .i64 0]
    else
     (lp0 n1 n0_1 r308 r311 0 (asL (T.cell (nth r312 0) 0))).bind fun r315 =>
     some [T.st [T.sl (asL (nth r315 7)), T.i .i64 (asI (nth r315 5)), T.sl (asL (nth r315 8)), T.b true], T.i .i64 10]
  else
   (c 46 [T.st [T.sl l0_0], T.i .i64 n1]).bind fun r316 =>
   bif !(asB (nth r311 1)) then
    some [T.st [T.sl (asL (T.cell (nth r316 0) 0)), T.i .i64 (IntKind.wrap .i64 (n0_1 + 1)), T.sl (asL (T.cell (nth r308 0) 2)), T.b (asB (T.cell (nth r308 0) 3))], T.i .i64 0]
   else
    (lp1 n1 n0_1 r308 r311 0 (asL (T.cell (nth r316 0) 0))).bind fun r319 =>
    some [T.st [T.sl (asL (nth r319 7)), T.i .i64 (asI (nth r319 5)), T.sl (asL (nth r319 8)), T.b true], T.i .i64 10]
def f34 (c : Orc) (lf : Nat) (l0_0 : List T) (n0_1 : Int) (l0_2 : List T) (b0_3 : Bool) (n1 : Int) : Option (List T) := f34_t c lf (fun (n1 n0_1 : Int) (r308 r311 : List T) (x313 : Int) (x314 : List T) => f34_0 c lf n1 n0_1 r308 r311 lf x313 x314) (fun (n1 n0_1 : Int) (r308 r311 : List T) (x317 : Int) (x318 : List T) => f34_1 c lf n1 n0_1 r308 r311 lf x317 x318) l0_0 n0_1 l0_2 b0_3 n1
theorem f34_raw (c : Orc) (lf : Nat) (l0_0 : List T) (n0_1 : Int) (l0_2 : List T) (b0_3 : Bool) (n1 : Int) : funK c env lf 6 fi34 [.st [.sl l0_0, .i .i64 n0_1, .sl l0_2, .b b0_3], .i .i64 n1] = f34_t c lf (fun (n1 n0_1 : Int) (r308 r311 : List T) (x313 : Int) (x314 : List T) => lpK c env lf 6 fi34 5 14 [] [1, 4, 6, 8, 10] (x34_14_0) lf (f34_0_c n1 n0_1 r308 r311 x313 x314)) (fun (n1 n0_1 : Int) (r308 r311 : List T) (x317 : Int) (x318 : List T) => lpK c env lf 6 fi34 5 14 [] [1, 4, 6, 8, 10] (x34_14_0) lf (f34_1_c n1 n0_1 r308 r311 x317 x318)) l0_0 n0_1 l0_2 b0_3 n1 := by kernel_rfl
theorem f34_eq (c : Orc) (lf : Nat) (l0_0 : List T) (n0_1 : Int) (l0_2 : List T) (b0_3 : Bool) (n1 : Int) : funK c env lf 6 fi34 [.st [.sl l0_0, .i .i64 n0_1, .sl l0_2, .b b0_3], .i .i64 n1] = f34 c lf l0_0 n0_1 l0_2 b0_3 n1 := by
 refine (f34_raw c lf l0_0 n0_1 l0_2 b0_3 n1).trans ?_
 have e0 : (fun (n1 n0_1 : Int) (r308 r311 : List T) (x313 : Int) (x314 : List T) => lpK c env lf 6 fi34 5 14 [] [1, 4, 6, 8, 10] (x34_14_0) lf (f34_0_c n1 n0_1 r308 r311 x313 x314)) = (fun (n1 n0_1 : Int) (r308 r311 : List T) (x313 : Int) (x314 : List T) => f34_0 c lf n1 n0_1 r308 r311 lf x313 x314) := by funext n1 n0_1 r308 r311 x313 x314; exact f34_0_eq c lf n1 n0_1 r308 r311 lf x313 x314
 have e1 : (fun (n1 n0_1 : Int) (r308 r311 : List T) (x317 : Int) (x318 : List T) => lpK c env lf 6 fi34 5 14 [] [1, 4, 6, 8, 10] (x34_14_0) lf (f34_1_c n1 n0_1 r308 r311 x317 x318)) = (fun (n1 n0_1 : Int) (r308 r311 : List T) (x317 : Int) (x318 : List T) => f34_1 c lf n1 n0_1 r308 r311 lf x317 x318) := by funext n1 n0_1 r308 r311 x317 x318; exact f34_1_eq c lf n1 n0_1 r308 r311 lf x317 x318
 rw [e0, e1]; rfl
def f26_0_s (c : Orc) (lf : Nat) (l0_0 : List T) (L : Int → Int → Int → Int → Bool → List T → List T → Option (List T)) (x351 x352 : Int) (x353 x354 : Int) (x355 : Bool) (x356 x357 : List T) : Option (List T) :=
 bif iLt 0 x351 then
  (c 17 [T.st [T.sl l0_0, T.i .i64 x352, T.i .i64 x353], T.i .i64 (x356.length : Int)]).bind fun r358 =>
  (c 17 [T.st [T.sl l0_0, T.i .i64 (asI (T.cell (nth r358 1) 1)), T.i .i64 (asI (T.cell (nth r358 1) 2))], T.i .i64 8]).bind fun r359 =>
  bif (asI (nth r359 0)) == 0 then
   (c 34 [T.st [T.sl x356, T.i .i64 x354, T.sl x357, T.b x355], T.i .i64 (asI (nth r358 0))]).bind fun r360 =>
   L (IntKind.wrap .i64 (x351 - 1)) (asI (T.cell (nth r359 1) 1)) (asI (T.cell (nth r359 1) 2)) (asI (T.cell (nth r360 0) 1)) (asB (T.cell (nth r360 0) 3)) (asL (T.cell (nth r360 0) 0)) (asL (T.cell (nth r360 0) 2))
  else
   bif (asI (nth r359 0)) == 1 then
    L (IntKind.wrap .i64 (x351 - 1)) (asI (T.cell (nth r359 1) 1)) (asI (T.cell (nth r359 1) 2)) x354 false x356 x357
   else
    (c 23 [T.st [T.sl l0_0, T.i .i64 (asI (T.cell (nth r359 1) 1)), T.i .i64 (asI (T.cell (nth r359 1) 2))]]).bind fun r361 =>
    (c 35 [T.st [T.sl x356, T.i .i64 x354, T.sl x357, T.b x355], T.i .i64 (asI (nth r358 0)), T.sl (asL (nth r361 0))]).bind fun r362 =>
    L (IntKind.wrap .i64 (x351 - 1)) (asI (T.cell (nth r361 1) 1)) (asI (T.cell (nth r361 1) 2)) (asI (T.cell (nth r362 0) 1)) (asB (T.cell (nth r362 0) 3)) (asL (T.cell (nth r362 0) 0)) (asL (T.cell (nth r362 0) 2))
 else
  some [T.i .i64 0, T.sl l0_0, T.i .i64 x352, T.i .i64 x353, T.i .i64 0, T.b false, T.sl ([] : List T), T.sl ([] : List T), T.i .i64 x354, T.b x355, T.sl x356, T.sl x357]
def f26_0_c (l0_0 : List T) (x351 x352 : Int) (x353 x354 : Int) (x355 : Bool) (x356 x357 : List T) : CSt := ⟨[.bp 0 0, .bp 4 0, .bp 7 0, .i .i64 x351], [.box [.ro 1 false [.i .u8] l0_0, .i .i64 x352, .i .i64 x353], .dead, .dead, .dead, .box [.rf 5 [] 0 none, .i .i64 0, .rf 6 [] 0 none, .b false], .row true [.sl true [.b, .sl false [.i .u8]], .i .i64, .b] ([] : List T) 0 false, .row true [.i .i64, .i .i64, .i .i64] ([] : List T) 0 false, .box [.rf 8 [] 0 none, .i .i64 x354, .rf 9 [] 0 none, .b x355], .row true [.sl true [.b, .sl false [.i .u8]], .i .i64, .b] x356 0 false, .row true [.i .i64, .i .i64, .i .i64] x357 0 false]⟩
theorem f26_0_round (c : Orc) (lf : Nat) (l0_0 : List T) (L : CSt → Option (List T)) (x351 x352 : Int) (x353 x354 : Int) (x355 : Bool) (x356 x357 : List T) :
 roundK c env lf 6 fi26 4 3 [] [0, 2, 3, 4] (x26_3_0) L (f26_0_c l0_0 x351 x352 x353 x354 x355 x356 x357) = f26_0_s c lf l0_0 (fun x351 x352 x353 x354 x355 x356 x357 => L (f26_0_c l0_0 x351 x352 x353 x354 x355 x356 x357)) x351 x352 x353 x354 x355 x356 x357 := by kernel_rfl
def f26_0 (c : Orc) (lf : Nat) (l0_0 : List T) : Nat → Int → Int → Int → Int → Bool → List T → List T → Option (List T)
 | 0 => fun _ _ _ _ _ _ _ => none
 | n + 1 => fun x351 x352 x353 x354 x355 x356 x357 => f26_0_s c lf l0_0 (f26_0 c lf l0_0 n) x351 x352 x353 x354 x355 x356 x357
theorem f26_0_u (c : Orc) (lf : Nat) (l0_0 : List T) (n : Nat) (x351 x352 : Int) (x353 x354 : Int) (x355 : Bool) (x356 x357 : List T) : f26_0 c lf l0_0 (n + 1) x351 x352 x353 x354 x355 x356 x357 = f26_0_s c lf l0_0 (f26_0 c lf l0_0 n) x351 x352 x353 x354 x355 x356 x357 := rfl
theorem f26_0_eq (c : Orc) (lf : Nat) (l0_0 : List T) (n : Nat) (x351 x352 : Int) (x353 x354 : Int) (x355 : Bool) (x356 x357 : List T) :
 lpK c env lf 6 fi26 4 3 [] [0, 2, 3, 4] (x26_3_0) n (f26_0_c l0_0 x351 x352 x353 x354 x355 x356 x357) = f26_0 c lf l0_0 n x351 x352 x353 x354 x355 x356 x357 := by
 induction n generalizing x351 x352 x353 x354 x355 x356 x357 with
 | zero => rfl
 | succ n ih =>
  refine (f26_0_round c lf l0_0 _ x351 x352 x353 x354 x355 x356 x357).trans ?_
  have e : (fun x351 x352 x353 x354 x355 x356 x357 => lpK c env lf 6 fi26 4 3 [] [0, 2, 3, 4] (x26_3_0) n (f26_0_c l0_0 x351 x352 x353 x354 x355 x356 x357)) = f26_0 c lf l0_0 n := by funext x351 x352 x353 x354 x355 x356 x357; exact ih x351 x352 x353 x354 x355 x356 x357
  show f26_0_s c lf l0_0 (fun x351 x352 x353 x354 x355 x356 x357 => lpK c env lf 6 fi26 4 3 [] [0, 2, 3, 4] (x26_3_0) n (f26_0_c l0_0 x351 x352 x353 x354 x355 x356 x357)) x351 x352 x353 x354 x355 x356 x357 = _
  rw [e]; rfl
def f26_t (c : Orc) (lf : Nat) (lp0 : List T → Int → Int → Int → Int → Bool → List T → List T → Option (List T)) (l0_0 : List T) (n0_1 n0_2 : Int) : Option (List T) :=
 (c 17 [T.st [T.sl l0_0, T.i .i64 n0_1, T.i .i64 n0_2], T.i .i64 3]).bind fun r342 =>
 (c 21 [T.st [T.sl l0_0, T.i .i64 (asI (T.cell (nth r342 1) 1)), T.i .i64 (asI (T.cell (nth r342 1) 2))]]).bind fun r343 =>
 (c 20 [T.i .i64 (IntKind.wrap .i64 (3 + (asI (nth r342 0)))), T.sl (asL (nth r343 0))]).bind fun r344 =>
 (c 17 [T.st [T.sl l0_0, T.i .i64 (asI (T.cell (nth r343 1) 1)), T.i .i64 (asI (T.cell (nth r343 1) 2))], T.i .i64 16]).bind fun r345 =>
 (lp0 l0_0 (asI (nth r345 0)) (asI (T.cell (nth r345 1) 1)) (asI (T.cell (nth r345 1) 2)) (asI (T.cell (nth r344 0) 1)) (asB (T.cell (nth r344 0) 3)) (asL (T.cell (nth r344 0) 0)) (asL (T.cell (nth r344 0) 2))).bind fun r363 =>
 some [T.st [T.sl (asL (nth r363 10)), T.i .i64 (asI (nth r363 8)), T.sl (asL (nth r363 11)), T.b (asB (nth r363 9))], T.st [T.sl (asL (nth r363 1)), T.i .i64 (asI (nth r363 2)), T.i .i64 (asI (nth r363 3))]]
def f26 (c : Orc) (lf : Nat) (l0_0 : List T) (n0_1 n0_2 : Int) : Option (List T) := f26_t c lf (fun (l0_0 : List T) (x351 x352 : Int) (x353 x354 : Int) (x355 : Bool) (x356 x357 : List T) => f26_0 c lf l0_0 lf x351 x352 x353 x354 x355 x356 x357) l0_0 n0_1 n0_2
theorem f26_raw (c : Orc) (lf : Nat) (l0_0 : List T) (n0_1 n0_2 : Int) : funK c env lf 6 fi26 [.st [.sl l0_0, .i .i64 n0_1, .i .i64 n0_2]] = f26_t c lf (fun (l0_0 : List T) (x351 x352 : Int) (x353 x354 : Int) (x355 : Bool) (x356 x357 : List T) => lpK c env lf 6 fi26 4 3 [] [0, 2, 3, 4] (x26_3_0) lf (f26_0_c l0_0 x351 x352 x353 x354 x355 x356 x357)) l0_0 n0_1 n0_2 := by kernel_rfl
theorem f26_eq (c : Orc) (lf : Nat) (l0_0 : List T) (n0_1 n0_2 : Int) : funK c env lf 6 fi26 [.st [.sl l0_0, .i .i64 n0_1, .i .i64 n0_2]] = f26 c lf l0_0 n0_1 n0_2 := by
 refine (f26_raw c lf l0_0 n0_1 n0_2).trans ?_
 have e0 : (fun (l0_0 : List T) (x351 x352 : Int) (x353 x354 : Int) (x355 : Bool) (x356 x357 : List T) => lpK c env lf 6 fi26 4 3 [] [0, 2, 3, 4] (x26_3_0) lf (f26_0_c l0_0 x351 x352 x353 x354 x355 x356 x357)) = (fun (l0_0 : List T) (x351 x352 : Int) (x353 x354 : Int) (x355 : Bool) (x356 x357 : List T) => f26_0 c lf l0_0 lf x351 x352 x353 x354 x355 x356 x357) := by funext l0_0 x351 x352 x353 x354 x355 x356 x357; exact f26_0_eq c lf l0_0 lf x351 x352 x353 x354 x355 x356 x357
 rw [e0]; rfl
def f36_0_s (c : Orc) (lf : Nat) (l0_0 : List T) (L : Int → Int → Int → List T → Option (List T)) (x392 x393 x394 : Int) (x395 : List T) : Option (List T) :=
 bif iLt 0 x392 then
  (c 17 [T.st [T.sl l0_0, T.i .i64 x393, T.i .i64 x394], T.i .i64 (x395.length : Int)]).bind fun r396 =>
  (c 24 [T.st [T.sl l0_0, T.i .i64 (asI (T.cell (nth r396 1) 1)), T.i .i64 (asI (T.cell (nth r396 1) 2))], T.i .i64 6]).bind fun r397 =>
  bif asB (nth r397 0) then
   (c 46 [T.st [T.sl x395], T.i .i64 (asI (nth r396 0))]).bind fun r398 =>
   L (IntKind.wrap .i64 (x392 - 1)) (asI (T.cell (nth r397 1) 1)) (asI (T.cell (nth r397 1) 2)) (asL (T.cell (nth r398 0) 0))
  else
   (c 23 [T.st [T.sl l0_0, T.i .i64 (asI (T.cell (nth r397 1) 1)), T.i .i64 (asI (T.cell (nth r397 1) 2))]]).bind fun r399 =>
   (c 48 [T.st [T.sl x395], T.i .i64 (asI (nth r396 0)), T.sl (asL (nth r399 0))]).bind fun r400 =>
   L (IntKind.wrap .i64 (x392 - 1)) (asI (T.cell (nth r399 1) 1)) (asI (T.cell (nth r399 1) 2)) (asL (T.cell (nth r400 0) 0))
 else
  some [T.i .i64 0, T.sl l0_0, T.i .i64 x393, T.i .i64 x394, T.sl ([] : List T), T.sl x395]
def f36_0_c (l0_0 : List T) (x392 x393 x394 : Int) (x395 : List T) : CSt := ⟨[.bp 0 0, .bp 4 0, .bp 6 0, .i .i64 x392], [.box [.ro 1 false [.i .u8] l0_0, .i .i64 x393, .i .i64 x394], .dead, .dead, .dead, .box [.rf 5 [] 0 none], .row true [.sl true [.b, .sl false [.i .u8]], .i .i64, .b] ([] : List T) 0 false, .box [.rf 7 [] 0 none], .row true [.sl true [.b, .sl false [.i .u8]], .i .i64, .b] x395 0 false]⟩
theorem f36_0_round (c : Orc) (lf : Nat) (l0_0 : List T) (L : CSt → Option (List T)) (x392 x393 x394 : Int) (x395 : List T) :
 roundK c env lf 6 fi36 4 3 [] [0, 2, 3, 4] (x36_3_0) L (f36_0_c l0_0 x392 x393 x394 x395) = f36_0_s c lf l0_0 (fun x392 x393 x394 x395 => L (f36_0_c l0_0 x392 x393 x394 x395)) x392 x393 x394 x395 := by kernel_rfl
def f36_0 (c : Orc) (lf : Nat) (l0_0 : List T) : Nat → Int → Int → Int → List T → Option (List T)
 | 0 => fun _ _ _ _ => none
 | n + 1 => fun x392 x393 x394 x395 => f36_0_s c lf l0_0 (f36_0 c lf l0_0 n) x392 x393 x394 x395
theorem f36_0_u (c : Orc) (lf : Nat) (l0_0 : List T) (n : Nat) (x392 x393 x394 : Int) (x395 : List T) : f36_0 c lf l0_0 (n + 1) x392 x393 x394 x395 = f36_0_s c lf l0_0 (f36_0 c lf l0_0 n) x392 x393 x394 x395 := rfl
theorem f36_0_eq (c : Orc) (lf : Nat) (l0_0 : List T) (n : Nat) (x392 x393 x394 : Int) (x395 : List T) :
 lpK c env lf 6 fi36 4 3 [] [0, 2, 3, 4] (x36_3_0) n (f36_0_c l0_0 x392 x393 x394 x395) = f36_0 c lf l0_0 n x392 x393 x394 x395 := by
 induction n generalizing x392 x393 x394 x395 with
 | zero => rfl
 | succ n ih =>
  refine (f36_0_round c lf l0_0 _ x392 x393 x394 x395).trans ?_
  have e : (fun x392 x393 x394 x395 => lpK c env lf 6 fi36 4 3 [] [0, 2, 3, 4] (x36_3_0) n (f36_0_c l0_0 x392 x393 x394 x395)) = f36_0 c lf l0_0 n := by funext x392 x393 x394 x395; exact ih x392 x393 x394 x395
  show f36_0_s c lf l0_0 (fun x392 x393 x394 x395 => lpK c env lf 6 fi36 4 3 [] [0, 2, 3, 4] (x36_3_0) n (f36_0_c l0_0 x392 x393 x394 x395)) x392 x393 x394 x395 = _
  rw [e]; rfl
def f36_t (c : Orc) (lf : Nat) (lp0 : List T → Int → Int → Int → List T → Option (List T)) (l0_0 : List T) (n0_1 n0_2 : Int) : Option (List T) :=
 (c 17 [T.st [T.sl l0_0, T.i .i64 n0_1, T.i .i64 n0_2], T.i .i64 3]).bind fun r384 =>
 (c 28 [T.i .i64 (IntKind.wrap .i64 (3 + (asI (nth r384 0))))]).bind fun r385 =>
 (c 17 [T.st [T.sl l0_0, T.i .i64 (asI (T.cell (nth r384 1) 1)), T.i .i64 (asI (T.cell (nth r384 1) 2))], T.i .i64 20]).bind fun r386 =>
 (lp0 l0_0 (asI (nth r386 0)) (asI (T.cell (nth r386 1) 1)) (asI (T.cell (nth r386 1) 2)) (asL (T.cell (nth r385 0) 0))).bind fun r401 =>
 (c 24 [T.st [T.sl (asL (nth r401 1)), T.i .i64 (asI (nth r401 2)), T.i .i64 (asI (nth r401 3))], T.i .i64 3]).bind fun r402 =>
 bif asB (nth r402 0) then
  (c 17 [T.st [T.sl (asL (nth r401 1)), T.i .i64 (asI (T.cell (nth r402 1) 1)), T.i .i64 (asI (T.cell (nth r402 1) 2))], T.i .i64 ((asL (nth r401 5)).length : Int)]).bind fun r403 =>
  bif inR (asI (nth r403 0)) ((asL (nth r401 5)).length) then
  some [T.st [T.sl ((asL (nth r401 5)).set ((asI (nth r403 0)).toNat) (T.setc ((asL (nth r401 5)).getD ((asI (nth r403 0)).toNat) T.u) 2 (T.b true)))], T.st [T.sl (asL (nth r401 1)), T.i .i64 (asI (T.cell (nth r403 1) 1)), T.i .i64 (asI (T.cell (nth r403 1) 2))]]
  else none
 else
  some [T.st [T.sl (asL (nth r401 5))], T.st [T.sl (asL (nth r401 1)), T.i .i64 (asI (T.cell (nth r402 1) 1)), T.i .i64 (asI (T.cell (nth r402 1) 2))]]
def f36 (c : Orc) (lf : Nat) (l0_0 : List T) (n0_1 n0_2 : Int) : Option (List T) := f36_t c lf (fun (l0_0 : List T) (x392 x393 x394 : Int) (x395 : List T) => f36_0 c lf l0_0 lf x392 x393 x394 x395) l0_0 n0_1 n0_2
theorem f36_raw (c : Orc) (lf : Nat) (l0_0 : List T) (n0_1 n0_2 : Int) : funK c env lf 6 fi36 [.st [.sl l0_0, .i .i64 n0_1, .i .i64 n0_2]] = f36_t c lf (fun (l0_0 : List T) (x392 x393 x394 : Int) (x395 : List T) => lpK c env lf 6 fi36 4 3 [] [0, 2, 3, 4] (x36_3_0) lf (f36_0_c l0_0 x392 x393 x394 x395)) l0_0 n0_1 n0_2 := by kernel_rfl
theorem f36_eq (c : Orc) (lf : Nat) (l0_0 : List T) (n0_1 n0_2 : Int) : funK c env lf 6 fi36 [.st [.sl l0_0, .i .i64 n0_1, .i .i64 n0_2]] = f36 c lf l0_0 n0_1 n0_2 := by
 refine (f36_raw c lf l0_0 n0_1 n0_2).trans ?_
 have e0 : (fun (l0_0 : List T) (x392 x393 x394 : Int) (x395 : List T) => lpK c env lf 6 fi36 4 3 [] [0, 2, 3, 4] (x36_3_0) lf (f36_0_c l0_0 x392 x393 x394 x395)) = (fun (l0_0 : List T) (x392 x393 x394 : Int) (x395 : List T) => f36_0 c lf l0_0 lf x392 x393 x394 x395) := by funext l0_0 x392 x393 x394 x395; exact f36_0_eq c lf l0_0 lf x392 x393 x394 x395
 rw [e0]; rfl
def f27_t (c : Orc) (lf : Nat) (l0_0 : List T) (n0_1 n0_2 : Int) : Option (List T) :=
 (c 36 [T.st [T.sl l0_0, T.i .i64 n0_1, T.i .i64 n0_2]]).bind fun r404 =>
 (c 17 [T.st [T.sl l0_0, T.i .i64 (asI (T.cell (nth r404 1) 1)), T.i .i64 (asI (T.cell (nth r404 1) 2))], T.i .i64 ((asL (T.cell (nth r404 0) 0)).length : Int)]).bind fun r405 =>
 (c 17 [T.st [T.sl l0_0, T.i .i64 (asI (T.cell (nth r405 1) 1)), T.i .i64 (asI (T.cell (nth r405 1) 2))], T.i .i64 16]).bind fun r406 =>
 bif (asI (nth r406 0)) == 0 then
  (c 13 [T.st [T.sl l0_0, T.i .i64 (asI (T.cell (nth r406 1) 1)), T.i .i64 (asI (T.cell (nth r406 1) 2))], T.sl ([T.i .i64 (-1), T.i .i64 100000, T.i .i64 100001] : List T)]).bind fun r407 =>
  bif inR (asI (nth r405 0)) ((asL (T.cell (nth r404 0) 0)).length) then
  some [T.st [T.sl ((asL (T.cell (nth r404 0) 0)).set ((asI (nth r405 0)).toNat) (T.setc ((asL (T.cell (nth r404 0) 0)).getD ((asI (nth r405 0)).toNat) T.u) 1 (T.i .i64 (asI (nth r407 0)))))], T.st [T.sl l0_0, T.i .i64 (asI (T.cell (nth r407 1) 1)), T.i .i64 (asI (T.cell (nth r407 1) 2))]]
  else none
 else
  bif (asI (nth r406 0)) == 1 then
   bif inR (asI (nth r405 0)) ((asL (T.cell (nth r404 0) 0)).length) then
   bif inR 7 ((asL (T.cell ((asL (T.cell (nth r404 0) 0)).getD ((asI (nth r405 0)).toNat) T.u) 0)).length) then
   some [T.st [T.sl ((asL (T.cell (nth r404 0) 0)).set ((asI (nth r405 0)).toNat) (T.setc ((asL (T.cell (nth r404 0) 0)).getD ((asI (nth r405 0)).toNat) T.u) 0 (T.sl ((asL (T.cell ((asL (T.cell (nth r404 0) 0)).getD ((asI (nth r405 0)).toNat) T.u) 0)).set 7 (T.setc ((asL (T.cell ((asL (T.cell (nth r404 0) 0)).getD ((asI (nth r405 0)).toNat) T.u) 0)).getD 7 T.u) 0 (T.b true))))))], T.st [T.sl l0_0, T.i .i64 (asI (T.cell (nth r406 1) 1)), T.i .i64 (asI (T.cell (nth r406 1) 2))]]
   else none
   else none
  else
   bif (asI (nth r406 0)) == 2 then
    bif inR (asI (nth r405 0)) ((asL (T.cell (nth r404 0) 0)).length) then
    bif inR 7 ((asL (T.cell ((asL (T.cell (nth r404 0) 0)).getD ((asI (nth r405 0)).toNat) T.u) 0)).length) then
    some [T.st [T.sl ((asL (T.cell (nth r404 0) 0)).set ((asI (nth r405 0)).toNat) (T.setc ((asL (T.cell (nth r404 0) 0)).getD ((asI (nth r405 0)).toNat) T.u) 0 (T.sl ((asL (T.cell ((asL (T.cell (nth r404 0) 0)).getD ((asI (nth r405 0)).toNat) T.u) 0)).set 7 (T.setc ((asL (T.cell ((asL (T.cell (nth r404 0) 0)).getD ((asI (nth r405 0)).toNat) T.u) 0)).getD 7 T.u) 1 (T.sl ([T.i .u8 1] : List T)))))))], T.st [T.sl l0_0, T.i .i64 (asI (T.cell (nth r406 1) 1)), T.i .i64 (asI (T.cell (nth r406 1) 2))]]
    else none
    else none
   else
    bif (asI (nth r406 0)) == 3 then
     bif inR (asI (nth r405 0)) ((asL (T.cell (nth r404 0) 0)).length) then
     bif iLe 0 1 && iLe 1 ((asL (T.cell ((asL (T.cell (nth r404 0) 0)).getD ((asI (nth r405 0)).toNat) T.u) 0)).length : Int) && iLe ((asL (T.cell ((asL (T.cell (nth r404 0) 0)).getD ((asI (nth r405 0)).toNat) T.u) 0)).length : Int) ((asL (T.cell ((asL (T.cell (nth r404 0) 0)).getD ((asI (nth r405 0)).toNat) T.u) 0)).length : Int) then
     bif inR (asI (nth r405 0)) ((asL (T.cell (nth r404 0) 0)).length) then
     bif (((okL true [.sl true [.b, .sl false [.i .u8]], .i .i64, .b] (((asL (T.cell (nth r404 0) 0)).set ((asI (nth r405 0)).toNat) (T.setc ((asL (T.cell (nth r404 0) 0)).getD ((asI (nth r405 0)).toNat) T.u) 0 T.u)).set ((asI (nth r405 0)).toNat) (T.setc (((asL (T.cell (nth r404 0) 0)).set ((asI (nth r405 0)).toNat) (T.setc ((asL (T.cell (nth r404 0) 0)).getD ((asI (nth r405 0)).toNat) T.u) 0 T.u)).getD ((asI (nth r405 0)).toNat) T.u) 0 (T.sl (((asL (T.cell ((asL (T.cell (nth r404 0) 0)).getD ((asI (nth r405 0)).toNat) T.u) 0)).drop 1).take ((((asL (T.cell ((asL (T.cell (nth r404 0) 0)).getD ((asI (nth r405 0)).toNat) T.u) 0)).length : Int).toNat) - 1)))))) && true) && true) && true then
     some [T.st [T.sl (((asL (T.cell (nth r404 0) 0)).set ((asI (nth r405 0)).toNat) (T.setc ((asL (T.cell (nth r404 0) 0)).getD ((asI (nth r405 0)).toNat) T.u) 0 T.u)).set ((asI (nth r405 0)).toNat) (T.setc (((asL (T.cell (nth r404 0) 0)).set ((asI (nth r405 0)).toNat) (T.setc ((asL (T.cell (nth r404 0) 0)).getD ((asI (nth r405 0)).toNat) T.u) 0 T.u)).getD ((asI (nth r405 0)).toNat) T.u) 0 (T.sl (((asL (T.cell ((asL (T.cell (nth r404 0) 0)).getD ((asI (nth r405 0)).toNat) T.u) 0)).drop 1).take ((((asL (T.cell ((asL (T.cell (nth r404 0) 0)).getD ((asI (nth r405 0)).toNat) T.u) 0)).length : Int).toNat) - 1)))))], T.st [T.sl l0_0, T.i .i64 (asI (T.cell (nth r406 1) 1)), T.i .i64 (asI (T.cell (nth r406 1) 2))]]
     else none
     else none
     else none
     else none
    else
     bif (asI (nth r406 0)) == 4 then
      bif iLe 0 0 && iLe 0 2 && iLe 2 ((asL (T.cell (nth r404 0) 0)).length : Int) then
      some [T.st [T.sl (((asL (T.cell (nth r404 0) 0)).drop 0).take (2 - 0))], T.st [T.sl l0_0, T.i .i64 (asI (T.cell (nth r406 1) 1)), T.i .i64 (asI (T.cell (nth r406 1) 2))]]
      else none
     else
      some [T.st [T.sl (asL (T.cell (nth r404 0) 0))], T.st [T.sl l0_0, T.i .i64 (asI (T.cell (nth r406 1) 1)), T.i .i64 (asI (T.cell (nth r406 1) 2))]]
def f27 (c : Orc) (lf : Nat) (l0_0 : List T) (n0_1 n0_2 : Int) : Option (List T) := f27_t c lf l0_0 n0_1 n0_2
theorem f27_eq (c : Orc) (lf : Nat) (l0_0 : List T) (n0_1 n0_2 : Int) : funK c env lf 6 fi27 [.st [.sl l0_0, .i .i64 n0_1, .i .i64 n0_2]] = f27 c lf l0_0 n0_1 n0_2 := by kernel_rfl
def f18_t (c : Orc) (lf : Nat) (l0_0 : List T) (n0_1 n0_2 : Int) : Option (List T) :=
 (c 26 [T.st [T.sl l0_0, T.i .i64 n0_1, T.i .i64 n0_2]]).bind fun r408 =>
 (c 17 [T.st [T.sl l0_0, T.i .i64 (asI (T.cell (nth r408 1) 1)), T.i .i64 (asI (T.cell (nth r408 1) 2))], T.i .i64 16]).bind fun r409 =>
 bif (asI (nth r409 0)) == 0 then
  (c 13 [T.st [T.sl l0_0, T.i .i64 (asI (T.cell (nth r409 1) 1)), T.i .i64 (asI (T.cell (nth r409 1) 2))], T.sl ([T.i .i64 (-1), T.i .i64 100000, T.i .i64 100001] : List T)]).bind fun r410 =>
  some [T.st [T.sl (asL (T.cell (nth r408 0) 0)), T.i .i64 (asI (nth r410 0)), T.sl (asL (T.cell (nth r408 0) 2)), T.b (asB (T.cell (nth r408 0) 3))], T.st [T.sl l0_0, T.i .i64 (asI (T.cell (nth r410 1) 1)), T.i .i64 (asI (T.cell (nth r410 1) 2))]]
 else
  bif (asI (nth r409 0)) == 1 then
   (c 13 [T.st [T.sl l0_0, T.i .i64 (asI (T.cell (nth r409 1) 1)), T.i .i64 (asI (T.cell (nth r409 1) 2))], T.sl ([T.i .i64 0, T.i .i64 100000, T.i .i64 100001] : List T)]).bind fun r411 =>
   (c 17 [T.st [T.sl l0_0, T.i .i64 (asI (T.cell (nth r411 1) 1)), T.i .i64 (asI (T.cell (nth r411 1) 2))], T.i .i64 4]).bind fun r412 =>
   (c 13 [T.st [T.sl l0_0, T.i .i64 (asI (T.cell (nth r412 1) 1)), T.i .i64 (asI (T.cell (nth r412 1) 2))], T.sl ([T.i .i64 (-1), T.i .i64 0, T.i .i64 401] : List T)]).bind fun r413 =>
   bif nLe ((asL (T.cell (nth r408 0) 2)).length + ([T.st [T.i .i64 (asI (nth r411 0)), T.i .i64 (asI (nth r412 0)), T.i .i64 (asI (nth r413 0))]] : List T).length) LIM then
   some [T.st [T.sl (asL (T.cell (nth r408 0) 0)), T.i .i64 (asI (T.cell (nth r408 0) 1)), T.sl ((asL (T.cell (nth r408 0) 2)) ++ ([T.st [T.i .i64 (asI (nth r411 0)), T.i .i64 (asI (nth r412 0)), T.i .i64 (asI (nth r413 0))]] : List T)), T.b (asB (T.cell (nth r408 0) 3))], T.st [T.sl l0_0, T.i .i64 (asI (T.cell (nth r413 1) 1)), T.i .i64 (asI (T.cell (nth r413 1) 2))]]
   else none
  else
   bif (asI (nth r409 0)) == 2 then
    (c 27 [T.st [T.sl l0_0, T.i .i64 (asI (T.cell (nth r409 1) 1)), T.i .i64 (asI (T.cell (nth r409 1) 2))]]).bind fun r414 =>
    some [T.st [T.sl (asL (T.cell (nth r414 0) 0)), T.i .i64 (asI (T.cell (nth r408 0) 1)), T.sl (asL (T.cell (nth r408 0) 2)), T.b (asB (T.cell (nth r408 0) 3))], T.st [T.sl l0_0, T.i .i64 (asI (T.cell (nth r414 1) 1)), T.i .i64 (asI (T.cell (nth r414 1) 2))]]
   else
    some [T.st [T.sl (asL (T.cell (nth r408 0) 0)), T.i .i64 (asI (T.cell (nth r408 0) 1)), T.sl (asL (T.cell (nth r408 0) 2)), T.b (asB (T.cell (nth r408 0) 3))], T.st [T.sl l0_0, T.i .i64 (asI (T.cell (nth r409 1) 1)), T.i .i64 (asI (T.cell (nth r409 1) 2))]]
def f18 (c : Orc) (lf : Nat) (l0_0 : List T) (n0_1 n0_2 : Int) : Option (List T) := f18_t c lf l0_0 n0_1 n0_2
theorem f18_eq (c : Orc) (lf : Nat) (l0_0 : List T) (n0_1 n0_2 : Int) : funK c env lf 6 fi18 [.st [.sl l0_0, .i .i64 n0_1, .i .i64 n0_2]] = f18 c lf l0_0 n0_1 n0_2 := by kernel_rfl
def f12_t (c : Orc) (lf : Nat) (l0_0 : List T) (n0_1 n0_2 : Int) : Option (List T) :=
 (c 16 [T.st [T.sl l0_0, T.i .i64 n0_1, T.i .i64 n0_2]]).bind fun r415 =>
 (c 17 [T.st [T.sl l0_0, T.i .i64 (asI (T.cell (nth r415 1) 1)), T.i .i64 (asI (T.cell (nth r415 1) 2))], T.i .i64 12]).bind fun r416 =>
 bif (asI (nth r416 0)) == 0 then
  (c 13 [T.st [T.sl l0_0, T.i .i64 (asI (T.cell (nth r416 1) 1)), T.i .i64 (asI (T.cell (nth r416 1) 2))], T.sl ([T.i .i64 (-1), T.i .i64 0, T.i .i64 1000000, T.i .i64 1000001] : List T)]).bind fun r417 =>
  some [T.st [T.sl (asL (T.cell (nth r415 0) 0)), T.i .i64 (asI (T.cell (nth r415 0) 1)), T.sl (asL (T.cell (nth r415 0) 2)), T.b (asB (T.cell (nth r415 0) 3)), T.i .i64 (asI (nth r417 0))], T.st [T.sl l0_0, T.i .i64 (asI (T.cell (nth r417 1) 1)), T.i .i64 (asI (T.cell (nth r417 1) 2))]]
 else
  bif (asI (nth r416 0)) == 1 then
   (c 18 [T.st [T.sl l0_0, T.i .i64 (asI (T.cell (nth r416 1) 1)), T.i .i64 (asI (T.cell (nth r416 1) 2))]]).bind fun r418 =>
   some [T.st [T.sl (asL (T.cell (nth r418 0) 0)), T.i .i64 (asI (T.cell (nth r418 0) 1)), T.sl (asL (T.cell (nth r418 0) 2)), T.b (asB (T.cell (nth r418 0) 3)), T.i .i64 (asI (T.cell (nth r415 0) 4))], T.st [T.sl l0_0, T.i .i64 (asI (T.cell (nth r418 1) 1)), T.i .i64 (asI (T.cell (nth r418 1) 2))]]
  else
   some [T.st [T.sl (asL (T.cell (nth r415 0) 0)), T.i .i64 (asI (T.cell (nth r415 0) 1)), T.sl (asL (T.cell (nth r415 0) 2)), T.b (asB (T.cell (nth r415 0) 3)), T.i .i64 (asI (T.cell (nth r415 0) 4))], T.st [T.sl l0_0, T.i .i64 (asI (T.cell (nth r416 1) 1)), T.i .i64 (asI (T.cell (nth r416 1) 2))]]
def f12 (c : Orc) (lf : Nat) (l0_0 : List T) (n0_1 n0_2 : Int) : Option (List T) := f12_t c lf l0_0 n0_1 n0_2
theorem f12_eq (c : Orc) (lf : Nat) (l0_0 : List T) (n0_1 n0_2 : Int) : funK c env lf 6 fi12 [.st [.sl l0_0, .i .i64 n0_1, .i .i64 n0_2]] = f12 c lf l0_0 n0_1 n0_2 := by kernel_rfl
def f5_t (c : Orc) (lf : Nat) (l0 : List T) : Option (List T) :=
 (c 11 [T.sl l0]).bind fun r419 =>
 (c 12 [T.st [T.sl (asL (T.cell (nth r419 0) 0)), T.i .i64 (asI (T.cell (nth r419 0) 1)), T.i .i64 (asI (T.cell (nth r419 0) 2))]]).bind fun r420 =>
 (c 13 [T.st [T.sl (asL (T.cell (nth r419 0) 0)), T.i .i64 (asI (T.cell (nth r420 1) 1)), T.i .i64 (asI (T.cell (nth r420 1) 2))], T.sl ([T.i .i64 0, T.i .i64 1, T.i .i64 2, T.i .i64 (-1)] : List T)]).bind fun r421 =>
 some [T.st [T.sl (asL (T.cell (nth r420 0) 0)), T.i .i64 (asI (T.cell (nth r420 0) 1)), T.sl (asL (T.cell (nth r420 0) 2)), T.b (asB (T.cell (nth r420 0) 3)), T.i .i64 (asI (T.cell (nth r420 0) 4))], T.i .i64 (asI (nth r421 0))]
def f5 (c : Orc) (lf : Nat) (l0 : List T) : Option (List T) := f5_t c lf l0
theorem f5_eq (c : Orc) (lf : Nat) (l0 : List T) : funK c env lf 6 fi5 [.sl l0] = f5 c lf l0 := by kernel_rfl
def f19_t (c : Orc) (lf : Nat) (n0 n1 n2 : Int) : Option (List T) :=
 bif iLe n1 n0 then
  some [T.b (iLe n0 n2)]
 else
  some [T.b false]
def f19 (c : Orc) (lf : Nat) (n0 n1 n2 : Int) : Option (List T) := f19_t c lf n0 n1 n2
theorem f19_eq (c : Orc) (lf : Nat) (n0 n1 n2 : Int) : funK c env lf 6 fi19 [.i .i64 n0, .i .i64 n1, .i .i64 n2] = f19 c lf n0 n1 n2 := by kernel_rfl
def f15_t (c : Orc) (lf : Nat) (l0_0 : List T) (n1 : Int) : Option (List T) :=
 (c 19 [T.i .i64 n1, T.i .i64 0, T.i .i64 (IntKind.wrap .i64 ((l0_0.length : Int) - 1))]).bind fun r422 =>
 some [T.b (asB (nth r422 0))]
def f15 (c : Orc) (lf : Nat) (l0_0 : List T) (n1 : Int) : Option (List T) := f15_t c lf l0_0 n1
theorem f15_eq (c : Orc) (lf : Nat) (l0_0 : List T) (n1 : Int) : funK c env lf 6 fi15 [.st [.sl l0_0], .i .i64 n1] = f15 c lf l0_0 n1 := by kernel_rfl
def f10_0_s (c : Orc) (lf : Nat) (l0_0 : List T) (n1 : Int) (L : Int → Int → Option (List T)) (x428 x429 : Int) : Option (List T) :=
 bif iLt x429 ((asL (T.cell (l0_0.getD n1.toNat T.u) 0)).length : Int) then
  bif inR x429 ((asL (T.cell (l0_0.getD n1.toNat T.u) 0)).length) then
  bif asB (T.cell ((asL (T.cell (l0_0.getD n1.toNat T.u) 0)).getD x429.toNat T.u) 0) then
   L (IntKind.wrap .i64 (x428 + 1)) (IntKind.wrap .i64 (x429 + 1))
  else
   L x428 (IntKind.wrap .i64 (x429 + 1))
  else none
 else
  some [T.i .i64 0, T.i .i64 x428]
def f10_0_c (l0_0 : List T) (n1 x428 x429 : Int) : CSt := ⟨[.i .i64 x428, .ro 0 true [.b, .sl false [.i .u8]] (asL (T.cell (l0_0.getD n1.toNat T.u) 0)), .i .i64 ((asL (T.cell (l0_0.getD n1.toNat T.u) 0)).length : Int), .i .i64 x429], [.dead, .dead]⟩
theorem f10_0_round (c : Orc) (lf : Nat) (l0_0 : List T) (n1 : Int) (L : CSt → Option (List T)) (x428 x429 : Int) :
 roundK c env lf 6 fi10 2 5 [] [5, 17, 18, 19] (x10_5_0) L (f10_0_c l0_0 n1 x428 x429) = f10_0_s c lf l0_0 n1 (fun x428 x429 => L (f10_0_c l0_0 n1 x428 x429)) x428 x429 := by kernel_rfl
def f10_0 (c : Orc) (lf : Nat) (l0_0 : List T) (n1 : Int) : Nat → Int → Int → Option (List T)
 | 0 => fun _ _ => none
 | n + 1 => fun x428 x429 => f10_0_s c lf l0_0 n1 (f10_0 c lf l0_0 n1 n) x428 x429
theorem f10_0_u (c : Orc) (lf : Nat) (l0_0 : List T) (n1 : Int) (n : Nat) (x428 x429 : Int) : f10_0 c lf l0_0 n1 (n + 1) x428 x429 = f10_0_s c lf l0_0 n1 (f10_0 c lf l0_0 n1 n) x428 x429 := rfl
theorem f10_0_eq (c : Orc) (lf : Nat) (l0_0 : List T) (n1 : Int) (n : Nat) (x428 x429 : Int) :
 lpK c env lf 6 fi10 2 5 [] [5, 17, 18, 19] (x10_5_0) n (f10_0_c l0_0 n1 x428 x429) = f10_0 c lf l0_0 n1 n x428 x429 := by
 induction n generalizing x428 x429 with
 | zero => rfl
 | succ n ih =>
  refine (f10_0_round c lf l0_0 n1 _ x428 x429).trans ?_
  have e : (fun x428 x429 => lpK c env lf 6 fi10 2 5 [] [5, 17, 18, 19] (x10_5_0) n (f10_0_c l0_0 n1 x428 x429)) = f10_0 c lf l0_0 n1 n := by funext x428 x429; exact ih x428 x429
  show f10_0_s c lf l0_0 n1 (fun x428 x429 => lpK c env lf 6 fi10 2 5 [] [5, 17, 18, 19] (x10_5_0) n (f10_0_c l0_0 n1 x428 x429)) x428 x429 = _
  rw [e]; rfl
def f10_t (c : Orc) (lf : Nat) (lp0 : List T → Int → Int → Int → Option (List T)) (l0_0 : List T) (n1 : Int) : Option (List T) :=
 (c 15 [T.st [T.sl l0_0], T.i .i64 n1]).bind fun r427 =>
 bif !(asB (nth r427 0)) then
  some [T.i .i64 (-1)]
 else
  bif inR n1 l0_0.length then
  (lp0 l0_0 n1 0 0).bind fun r430 =>
  some [T.i .i64 (asI (nth r430 1))]
  else none
def f10 (c : Orc) (lf : Nat) (l0_0 : List T) (n1 : Int) : Option (List T) := f10_t c lf (fun (l0_0 : List T) (n1 x428 x429 : Int) => f10_0 c lf l0_0 n1 lf x428 x429) l0_0 n1
theorem f10_raw (c : Orc) (lf : Nat) (l0_0 : List T) (n1 : Int) : funK c env lf 6 fi10 [.st [.sl l0_0], .i .i64 n1] = f10_t c lf (fun (l0_0 : List T) (n1 x428 x429 : Int) => lpK c env lf 6 fi10 2 5 [] [5, 17, 18, 19] (x10_5_0) lf (f10_0_c l0_0 n1 x428 x429)) l0_0 n1 := by kernel_rfl
theorem f10_eq (c : Orc) (lf : Nat) (l0_0 : List T) (n1 : Int) : funK c env lf 6 fi10 [.st [.sl l0_0], .i .i64 n1] = f10 c lf l0_0 n1 := by
 refine (f10_raw c lf l0_0 n1).trans ?_
 have e0 : (fun (l0_0 : List T) (n1 x428 x429 : Int) => lpK c env lf 6 fi10 2 5 [] [5, 17, 18, 19] (x10_5_0) lf (f10_0_c l0_0 n1 x428 x429)) = (fun (l0_0 : List T) (n1 x428 x429 : Int) => f10_0 c lf l0_0 n1 lf x428 x429) := by funext l0_0 n1 x428 x429; exact f10_0_eq c lf l0_0 n1 lf x428 x429
 rw [e0]; rfl
def f7_0_s (c : Orc) (lf : Nat) (b0_3 : Bool) (l0_0 l0_2 : List T) (n0_1 n0_4 : Int) (L : Int → Int → Option (List T)) (x437 x438 : Int) : Option (List T) :=
 bif iLt x438 (l0_0.length : Int) then
  bif inR x438 l0_0.length then
  bif !(asB (T.cell (l0_0.getD x438.toNat T.u) 2)) then
   (c 10 [T.st [T.sl l0_0], T.i .i64 x438]).bind fun r439 =>
   bif (asI (nth r439 0)) == 0 then
    L (IntKind.wrap .i64 (x437 + 1)) (IntKind.wrap .i64 (x438 + 1))
   else
    L x437 (IntKind.wrap .i64 (x438 + 1))
  else
   L x437 (IntKind.wrap .i64 (x438 + 1))
  else none
 else
  some [T.i .i64 0, T.i .i64 x437]
def f7_0_c (b0_3 : Bool) (l0_0 l0_2 : List T) (n0_1 n0_4 : Int) (x437 x438 : Int) : CSt := ⟨[.bp 5 0, .i .i64 x437, .ro 0 true [.sl true [.b, .sl false [.i .u8]], .i .i64, .b] l0_0, .i .i64 (l0_0.length : Int), .i .i64 x438], [.dead, .dead, .dead, .dead, .dead, .box [.ro 0 true [.sl true [.b, .sl false [.i .u8]], .i .i64, .b] l0_0, .i .i64 n0_1, .ro 0 true [.i .i64, .i .i64, .i .i64] l0_2, .b b0_3, .i .i64 n0_4]]⟩
theorem f7_0_round (c : Orc) (lf : Nat) (b0_3 : Bool) (l0_0 l0_2 : List T) (n0_1 n0_4 : Int) (L : CSt → Option (List T)) (x437 x438 : Int) :
 roundK c env lf 6 fi7 5 3 [] [1, 3, 9, 10, 11] (x7_3_0) L (f7_0_c b0_3 l0_0 l0_2 n0_1 n0_4 x437 x438) = f7_0_s c lf b0_3 l0_0 l0_2 n0_1 n0_4 (fun x437 x438 => L (f7_0_c b0_3 l0_0 l0_2 n0_1 n0_4 x437 x438)) x437 x438 := by kernel_rfl
def f7_0 (c : Orc) (lf : Nat) (b0_3 : Bool) (l0_0 l0_2 : List T) (n0_1 n0_4 : Int) : Nat → Int → Int → Option (List T)
 | 0 => fun _ _ => none
 | n + 1 => fun x437 x438 => f7_0_s c lf b0_3 l0_0 l0_2 n0_1 n0_4 (f7_0 c lf b0_3 l0_0 l0_2 n0_1 n0_4 n) x437 x438
theorem f7_0_u (c : Orc) (lf : Nat) (b0_3 : Bool) (l0_0 l0_2 : List T) (n0_1 n0_4 : Int) (n : Nat) (x437 x438 : Int) : f7_0 c lf b0_3 l0_0 l0_2 n0_1 n0_4 (n + 1) x437 x438 = f7_0_s c lf b0_3 l0_0 l0_2 n0_1 n0_4 (f7_0 c lf b0_3 l0_0 l0_2 n0_1 n0_4 n) x437 x438 := rfl
theorem f7_0_eq (c : Orc) (lf : Nat) (b0_3 : Bool) (l0_0 l0_2 : List T) (n0_1 n0_4 : Int) (n : Nat) (x437 x438 : Int) :
 lpK c env lf 6 fi7 5 3 [] [1, 3, 9, 10, 11] (x7_3_0) n (f7_0_c b0_3 l0_0 l0_2 n0_1 n0_4 x437 x438) = f7_0 c lf b0_3 l0_0 l0_2 n0_1 n0_4 n x437 x438 := by
 induction n generalizing x437 x438 with
 | zero => rfl
 | succ n ih =>
  refine (f7_0_round c lf b0_3 l0_0 l0_2 n0_1 n0_4 _ x437 x438).trans ?_
  have e : (fun x437 x438 => lpK c env lf 6 fi7 5 3 [] [1, 3, 9, 10, 11] (x7_3_0) n (f7_0_c b0_3 l0_0 l0_2 n0_1 n0_4 x437 x438)) = f7_0 c lf b0_3 l0_0 l0_2 n0_1 n0_4 n := by funext x437 x438; exact ih x437 x438
  show f7_0_s c lf b0_3 l0_0 l0_2 n0_1 n0_4 (fun x437 x438 => lpK c env lf 6 fi7 5 3 [] [1, 3, 9, 10, 11] (x7_3_0) n (f7_0_c b0_3 l0_0 l0_2 n0_1 n0_4 x437 x438)) x437 x438 = _
  rw [e]; rfl
def f7_t (c : Orc) (lf : Nat) (lp0 : Bool → List T → List T → Int → Int → Int → Int → Option (List T)) (l0_0 : List T) (n0_1 : Int) (l0_2 : List T) (b0_3 : Bool) (n0_4 : Int) : Option (List T) :=
 (lp0 b0_3 l0_0 l0_2 n0_1 n0_4 0 0).bind fun r440 =>
 some [T.i .i64 (asI (nth r440 1))]
def f7 (c : Orc) (lf : Nat) (l0_0 : List T) (n0_1 : Int) (l0_2 : List T) (b0_3 : Bool) (n0_4 : Int) : Option (List T) := f7_t c lf (fun (b0_3 : Bool) (l0_0 l0_2 : List T) (n0_1 n0_4 : Int) (x437 x438 : Int) => f7_0 c lf b0_3 l0_0 l0_2 n0_1 n0_4 lf x437 x438) l0_0 n0_1 l0_2 b0_3 n0_4
theorem f7_raw (c : Orc) (lf : Nat) (l0_0 : List T) (n0_1 : Int) (l0_2 : List T) (b0_3 : Bool) (n0_4 : Int) : funK c env lf 6 fi7 [.st [.sl l0_0, .i .i64 n0_1, .sl l0_2, .b b0_3, .i .i64 n0_4]] = f7_t c lf (fun (b0_3 : Bool) (l0_0 l0_2 : List T) (n0_1 n0_4 : Int) (x437 x438 : Int) => lpK c env lf 6 fi7 5 3 [] [1, 3, 9, 10, 11] (x7_3_0) lf (f7_0_c b0_3 l0_0 l0_2 n0_1 n0_4 x437 x438)) l0_0 n0_1 l0_2 b0_3 n0_4 := by kernel_rfl
theorem f7_eq (c : Orc) (lf : Nat) (l0_0 : List T) (n0_1 : Int) (l0_2 : List T) (b0_3 : Bool) (n0_4 : Int) : funK c env lf 6 fi7 [.st [.sl l0_0, .i .i64 n0_1, .sl l0_2, .b b0_3, .i .i64 n0_4]] = f7 c lf l0_0 n0_1 l0_2 b0_3 n0_4 := by
 refine (f7_raw c lf l0_0 n0_1 l0_2 b0_3 n0_4).trans ?_
 have e0 : (fun (b0_3 : Bool) (l0_0 l0_2 : List T) (n0_1 n0_4 : Int) (x437 x438 : Int) => lpK c env lf 6 fi7 5 3 [] [1, 3, 9, 10, 11] (x7_3_0) lf (f7_0_c b0_3 l0_0 l0_2 n0_1 n0_4 x437 x438)) = (fun (b0_3 : Bool) (l0_0 l0_2 : List T) (n0_1 n0_4 : Int) (x437 x438 : Int) => f7_0 c lf b0_3 l0_0 l0_2 n0_1 n0_4 lf x437 x438) := by funext b0_3 l0_0 l0_2 n0_1 n0_4 x437 x438; exact f7_0_eq c lf b0_3 l0_0 l0_2 n0_1 n0_4 lf x437 x438
 rw [e0]; rfl
def f6_0_s (c : Orc) (lf : Nat) (b0_3 : Bool) (l0_0 l0_2 : List T) (n1 n0_1 n0_4 : Int) (L : Int → Int → Option (List T)) (x449 x448 : Int) : Option (List T) :=
 bif iLt x448 (l0_0.length : Int) then
  bif inR x448 l0_0.length then
  (c 10 [T.st [T.sl l0_0], T.i .i64 x448]).bind fun r450 =>
  bif asB (T.cell (l0_0.getD x448.toNat T.u) 2) then
   L x449 (IntKind.wrap .i64 (x448 + 1))
  else
   bif iLt 0 (asI (nth r450 0)) then
    bif iLt (asI (nth r450 0)) ((asL (T.cell (l0_0.getD x448.toNat T.u) 0)).length : Int) then
     some [T.i .i64 0, T.i .i64 x448]
    else
     bif (asI (nth r450 0)) == 0 then
      bif iLt x449 0 then
       L x448 (IntKind.wrap .i64 (x448 + 1))
      else
       L x449 (IntKind.wrap .i64 (x448 + 1))
     else
      L x449 (IntKind.wrap .i64 (x448 + 1))
   else
    bif (asI (nth r450 0)) == 0 then
     bif iLt x449 0 then
      L x448 (IntKind.wrap .i64 (x448 + 1))
     else
      L x449 (IntKind.wrap .i64 (x448 + 1))
    else
     L x449 (IntKind.wrap .i64 (x448 + 1))
  else none
 else
  some [T.i .i64 1, T.i .i64 n1, T.i .i64 x449, T.sl l0_0, T.i .i64 n0_1, T.sl l0_2, T.b b0_3, T.i .i64 n0_4]
def f6_0_c (b0_3 : Bool) (l0_0 l0_2 : List T) (n1 n0_1 : Int) (n0_4 x449 x448 : Int) : CSt := ⟨[.i .i64 n1, .bp 6 0, .i .i64 x449, .ro 0 true [.sl true [.b, .sl false [.i .u8]], .i .i64, .b] l0_0, .i .i64 (l0_0.length : Int), .i .i64 x448], [.dead, .dead, .dead, .dead, .dead, .dead, .box [.ro 0 true [.sl true [.b, .sl false [.i .u8]], .i .i64, .b] l0_0, .i .i64 n0_1, .ro 0 true [.i .i64, .i .i64, .i .i64] l0_2, .b b0_3, .i .i64 n0_4]]⟩
theorem f6_0_round (c : Orc) (lf : Nat) (b0_3 : Bool) (l0_0 l0_2 : List T) (n1 n0_1 n0_4 : Int) (L : CSt → Option (List T)) (x449 x448 : Int) :
 roundK c env lf 6 fi6 6 3 [] [1, 2, 5, 12, 13, 14] (x6_3_0) L (f6_0_c b0_3 l0_0 l0_2 n1 n0_1 n0_4 x449 x448) = f6_0_s c lf b0_3 l0_0 l0_2 n1 n0_1 n0_4 (fun x449 x448 => L (f6_0_c b0_3 l0_0 l0_2 n1 n0_1 n0_4 x449 x448)) x449 x448 := by kernel_rfl
def f6_0 (c : Orc) (lf : Nat) (b0_3 : Bool) (l0_0 l0_2 : List T) (n1 n0_1 n0_4 : Int) : Nat → Int → Int → Option (List T)
 | 0 => fun _ _ => none
 | n + 1 => fun x449 x448 => f6_0_s c lf b0_3 l0_0 l0_2 n1 n0_1 n0_4 (f6_0 c lf b0_3 l0_0 l0_2 n1 n0_1 n0_4 n) x449 x448
theorem f6_0_u (c : Orc) (lf : Nat) (b0_3 : Bool) (l0_0 l0_2 : List T) (n1 n0_1 n0_4 : Int) (n : Nat) (x449 x448 : Int) : f6_0 c lf b0_3 l0_0 l0_2 n1 n0_1 n0_4 (n + 1) x449 x448 = f6_0_s c lf b0_3 l0_0 l0_2 n1 n0_1 n0_4 (f6_0 c lf b0_3 l0_0 l0_2 n1 n0_1 n0_4 n) x449 x448 := rfl
theorem f6_0_eq (c : Orc) (lf : Nat) (b0_3 : Bool) (l0_0 l0_2 : List T) (n1 n0_1 n0_4 : Int) (n : Nat) (x449 x448 : Int) :
 lpK c env lf 6 fi6 6 3 [] [1, 2, 5, 12, 13, 14] (x6_3_0) n (f6_0_c b0_3 l0_0 l0_2 n1 n0_1 n0_4 x449 x448) = f6_0 c lf b0_3 l0_0 l0_2 n1 n0_1 n0_4 n x449 x448 := by
 induction n generalizing x449 x448 with
 | zero => rfl
 | succ n ih =>
  refine (f6_0_round c lf b0_3 l0_0 l0_2 n1 n0_1 n0_4 _ x449 x448).trans ?_
  have e : (fun x449 x448 => lpK c env lf 6 fi6 6 3 [] [1, 2, 5, 12, 13, 14] (x6_3_0) n (f6_0_c b0_3 l0_0 l0_2 n1 n0_1 n0_4 x449 x448)) = f6_0 c lf b0_3 l0_0 l0_2 n1 n0_1 n0_4 n := by funext x449 x448; exact ih x449 x448
  show f6_0_s c lf b0_3 l0_0 l0_2 n1 n0_1 n0_4 (fun x449 x448 => lpK c env lf 6 fi6 6 3 [] [1, 2, 5, 12, 13, 14] (x6_3_0) n (f6_0_c b0_3 l0_0 l0_2 n1 n0_1 n0_4 x449 x448)) x449 x448 = _
  rw [e]; rfl
def f6_t (c : Orc) (lf : Nat) (lp0 : Bool → List T → List T → Int → Int → Int → Int → Int → Option (List T)) (l0_0 : List T) (n0_1 : Int) (l0_2 : List T) (b0_3 : Bool) (n0_4 n1 : Int) : Option (List T) :=
 (lp0 b0_3 l0_0 l0_2 n1 n0_1 n0_4 (-1) 0).bind fun r451 =>
 bif asI (nth r451 0) == 0 then
  some [T.i .i64 (asI (nth r451 1))]
 else
  (c 7 [T.st [T.sl (asL (nth r451 3)), T.i .i64 (asI (nth r451 4)), T.sl (asL (nth r451 5)), T.b (asB (nth r451 6)), T.i .i64 (asI (nth r451 7))]]).bind fun r452 =>
  bif iLt (asI (nth r451 1)) (asI (nth r452 0)) then
   some [T.i .i64 (asI (nth r451 2))]
  else
   some [T.i .i64 (-1)]
def f6 (c : Orc) (lf : Nat) (l0_0 : List T) (n0_1 : Int) (l0_2 : List T) (b0_3 : Bool) (n0_4 n1 : Int) : Option (List T) := f6_t c lf (fun (b0_3 : Bool) (l0_0 l0_2 : List T) (n1 n0_1 : Int) (n0_4 x449 x448 : Int) => f6_0 c lf b0_3 l0_0 l0_2 n1 n0_1 n0_4 lf x449 x448) l0_0 n0_1 l0_2 b0_3 n0_4 n1
theorem f6_raw (c : Orc) (lf : Nat) (l0_0 : List T) (n0_1 : Int) (l0_2 : List T) (b0_3 : Bool) (n0_4 n1 : Int) : funK c env lf 6 fi6 [.st [.sl l0_0, .i .i64 n0_1, .sl l0_2, .b b0_3, .i .i64 n0_4], .i .i64 n1] = f6_t c lf (fun (b0_3 : Bool) (l0_0 l0_2 : List T) (n1 n0_1 : Int) (n0_4 x449 x448 : Int) => lpK c env lf 6 fi6 6 3 [] [1, 2, 5, 12, 13, 14] (x6_3_0) lf (f6_0_c b0_3 l0_0 l0_2 n1 n0_1 n0_4 x449 x448)) l0_0 n0_1 l0_2 b0_3 n0_4 n1 := by kernel_rfl
theorem f6_eq (c : Orc) (lf : Nat) (l0_0 : List T) (n0_1 : Int) (l0_2 : List T) (b0_3 : Bool) (n0_4 n1 : Int) : funK c env lf 6 fi6 [.st [.sl l0_0, .i .i64 n0_1, .sl l0_2, .b b0_3, .i .i64 n0_4], .i .i64 n1] = f6 c lf l0_0 n0_1 l0_2 b0_3 n0_4 n1 := by
 refine (f6_raw c lf l0_0 n0_1 l0_2 b0_3 n0_4 n1).trans ?_
 have e0 : (fun (b0_3 : Bool) (l0_0 l0_2 : List T) (n1 n0_1 : Int) (n0_4 x449 x448 : Int) => lpK c env lf 6 fi6 6 3 [] [1, 2, 5, 12, 13, 14] (x6_3_0) lf (f6_0_c b0_3 l0_0 l0_2 n1 n0_1 n0_4 x449 x448)) = (fun (b0_3 : Bool) (l0_0 l0_2 : List T) (n1 n0_1 : Int) (n0_4 x449 x448 : Int) => f6_0 c lf b0_3 l0_0 l0_2 n1 n0_1 n0_4 lf x449 x448) := by funext b0_3 l0_0 l0_2 n1 n0_1 n0_4 x449 x448; exact f6_0_eq c lf b0_3 l0_0 l0_2 n1 n0_1 n0_4 lf x449 x448
 rw [e0]; rfl
def f3_t (c : Orc) (lf : Nat) (l0 : List T) : Option (List T) :=
 (c 4 [T.sl l0]).bind fun r453 =>
 bif asB (nth r453 0) then
  some [T.b true]
 else
  (c 5 [T.sl l0]).bind fun r454 =>
  (c 6 [T.st [T.sl (asL (T.cell (nth r454 0) 0)), T.i .i64 (asI (T.cell (nth r454 0) 1)), T.sl (asL (T.cell (nth r454 0) 2)), T.b (asB (T.cell (nth r454 0) 3)), T.i .i64 (asI (T.cell (nth r454 0) 4))], T.i .i64 (asI (nth r454 1))]).bind fun r455 =>
  (c 7 [T.st [T.sl (asL (T.cell (nth r454 0) 0)), T.i .i64 (asI (T.cell (nth r454 0) 1)), T.sl (asL (T.cell (nth r454 0) 2)), T.b (asB (T.cell (nth r454 0) 3)), T.i .i64 (asI (T.cell (nth r454 0) 4))]]).bind fun r456 =>
  (c 8 [T.st [T.sl (asL (T.cell (nth r454 0) 0)), T.i .i64 (asI (T.cell (nth r454 0) 1)), T.sl (asL (T.cell (nth r454 0) 2)), T.b (asB (T.cell (nth r454 0) 3)), T.i .i64 (asI (T.cell (nth r454 0) 4))], T.i .i64 (asI (nth r454 1))]).bind fun r457 =>
  bif (asI (nth r455 0)) != (asI (nth r457 0)) then
   some [T.b false]
  else
   (c 9 [T.st [T.sl (asL (T.cell (nth r454 0) 0)), T.i .i64 (asI (T.cell (nth r454 0) 1)), T.sl (asL (T.cell (nth r454 0) 2)), T.b (asB (T.cell (nth r454 0) 3)), T.i .i64 (asI (T.cell (nth r454 0) 4))]]).bind fun r458 =>
   bif (asI (nth r456 0)) != (asI (nth r458 0)) then
    some [T.b false]
   else
    bif (asI (nth r455 0)) == (-1) then
     bif iLe (asI (nth r456 0)) (asI (nth r454 1)) then
      some [T.b true]
     else
      some [T.b ((asI (nth r456 0)) == 0)]
    else
     (c 10 [T.st [T.sl (asL (T.cell (nth r454 0) 0))], T.i .i64 (asI (nth r455 0))]).bind fun r459 =>
     bif inR (asI (nth r455 0)) ((asL (T.cell (nth r454 0) 0)).length) then
     bif !(asB (T.cell ((asL (T.cell (nth r454 0) 0)).getD ((asI (nth r455 0)).toNat) T.u) 2)) then
      bif iLe 0 (asI (nth r459 0)) then
       bif inR (asI (nth r455 0)) ((asL (T.cell (nth r454 0) 0)).length) then
       bif iLt (asI (nth r459 0)) ((asL (T.cell ((asL (T.cell (nth r454 0) 0)).getD ((asI (nth r455 0)).toNat) T.u) 0)).length : Int) then
        bif iLt 0 (asI (nth r459 0)) then
         some [T.b true]
        else
         some [T.b (iLt (asI (nth r454 1)) (asI (nth r456 0)))]
       else
        some [T.b false]
       else none
      else
       some [T.b false]
     else
      some [T.b false]
     else none
def f3 (c : Orc) (lf : Nat) (l0 : List T) : Option (List T) := f3_t c lf l0
theorem f3_eq (c : Orc) (lf : Nat) (l0 : List T) : funK c env lf 6 fi3 [.sl l0] = f3 c lf l0 := by kernel_rfl
end Go.Proofs.Ytjhocjbenmoeaaa.T
