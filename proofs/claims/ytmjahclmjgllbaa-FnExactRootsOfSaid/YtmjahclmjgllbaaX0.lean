/- What functions of the law FnExactRootsOf come to, in trees; no condition. -/
import Derived.Test.YtmjahclmjgllbaaRows
import Derived.Test.YtmjahclmjgllbaaV3
import Derived.KernelRfl
set_option linter.unusedVariables false
set_option linter.constructorNameAsVariable false
set_option linter.unusedSimpArgs false
set_option linter.unnecessarySimpa false
namespace Go.Proofs.Ytmjahclmjgllbaa.T
open Go Go.Proofs.YtmjahclmjgllbaaV
def tyTab : List (Nat × Ti) := [
 (3, ⟨false, [.i .i64], .o⟩),
 (4, ⟨false, [.b], .o⟩),
 (5, ⟨false, [.i .u8], .o⟩),
 (9, ⟨false, [.s], .o⟩),
 (22, ⟨false, [.sl true [.sl true [.b, .sl false [.i .u8]], .i .i64, .b]], .sl 105⟩),
 (24, ⟨true, [.sl true [.sl true [.b, .sl false [.i .u8]], .i .i64, .b]], .st [(0, 22)]⟩),
 (25, ⟨false, [.sl true [.i .i64, .i .i64, .i .i64]], .sl 96⟩),
 (27, ⟨true, [.sl true [.sl true [.b, .sl false [.i .u8]], .i .i64, .b], .i .i64, .sl true [.i .i64, .i .i64, .i .i64], .b], .st [(0, 24), (1, 3), (2, 25), (3, 4)]⟩),
 (29, ⟨true, [.sl true [.sl true [.b, .sl false [.i .u8]], .i .i64, .b], .i .i64, .sl true [.i .i64, .i .i64, .i .i64], .b, .i .i64], .st [(0, 27), (4, 3)]⟩),
 (31, ⟨false, [.sl false [.i .i64]], .sl 3⟩),
 (33, ⟨false, [.sl true [.sl true [.b, .sl false [.i .u8]], .i .i64, .b]], .sl 81⟩),
 (35, ⟨true, [.sl true [.sl true [.b, .sl false [.i .u8]], .i .i64, .b]], .st [(0, 33)]⟩),
 (36, ⟨false, [.sl true [.i .i64, .i .i64, .i .i64]], .sl 94⟩),
 (38, ⟨true, [.sl true [.sl true [.b, .sl false [.i .u8]], .i .i64, .b], .i .i64, .sl true [.i .i64, .i .i64, .i .i64], .b], .st [(0, 35), (1, 3), (2, 36), (3, 4)]⟩),
 (40, ⟨true, [.sl true [.sl true [.b, .sl false [.i .u8]], .i .i64, .b], .i .i64, .sl true [.i .i64, .i .i64, .i .i64], .b, .i .i64], .st [(0, 38), (4, 3)]⟩),
 (48, ⟨false, [.sl false [.i .u8]], .sl 5⟩),
 (50, ⟨true, [.i .i64, .i .i64, .sl false [.i .u8]], .st [(0, 3), (1, 3), (2, 48)]⟩),
 (54, ⟨false, [.sl true [.i .i64, .i .i64]], .sl 57⟩),
 (57, ⟨true, [.i .i64, .i .i64], .st [(0, 3), (1, 3)]⟩),
 (58, ⟨false, [.o], .o⟩),
 (61, ⟨false, [.o], .o⟩),
 (79, ⟨false, [.sl true [.b, .sl false [.i .u8]]], .sl 83⟩),
 (81, ⟨true, [.sl true [.b, .sl false [.i .u8]], .i .i64, .b], .st [(0, 79), (1, 3), (2, 4)]⟩),
 (83, ⟨true, [.b, .sl false [.i .u8]], .st [(0, 4), (1, 48)]⟩),
 (84, ⟨false, [.i .u64], .o⟩),
 (85, ⟨false, [.o], .o⟩),
 (87, ⟨true, [.sl false [.i .u8], .i .i64, .b], .st [(0, 48), (1, 3), (2, 4)]⟩),
 (94, ⟨true, [.i .i64, .i .i64, .i .i64], .st [(0, 3), (1, 3), (2, 3)]⟩),
 (96, ⟨true, [.i .i64, .i .i64, .i .i64], .st [(0, 3), (1, 3), (2, 3)]⟩),
 (103, ⟨false, [.sl true [.b, .sl false [.i .u8]]], .sl 128⟩),
 (105, ⟨true, [.sl true [.b, .sl false [.i .u8]], .i .i64, .b], .st [(0, 103), (1, 3), (2, 4)]⟩),
 (115, ⟨false, [.o], .o⟩),
 (117, ⟨true, [.sl false [.i .u8], .i .i64, .b], .st [(0, 48), (1, 3), (2, 4)]⟩),
 (128, ⟨true, [.b, .sl false [.i .u8]], .st [(0, 4), (1, 48)]⟩),
 (131, ⟨false, [.i .u32], .o⟩)]
noncomputable def fi78 : Fi := ⟨Try.f78, [], false, [.ro (.sl false [.i .u8]), .v (.i .i64)], [.v (.i .i64)]⟩
noncomputable def fi74 : Fi := ⟨Try.f74, [], false, [.ag [.v (.b), .ro (.sl false [.i .u8])], .v (.i .i64)], [.v (.i .i64)]⟩
def x66_5_0 : List (Ex × List Nat × CSt) := [(.ret, [4], ⟨[.i .i64 0], [.dead, .dead]⟩), ((.ex 0), [1], ⟨[.i .i64 0], [.dead, .dead]⟩)]
noncomputable def fi66 : Fi := ⟨Try.f66, [⟨5, [0, 1, 5], [], [(⟨[.ro 0 true [.b, .sl false [.i .u8]] [], .i .i64 0, .i .i64 0], [.dead, .dead]⟩, x66_5_0)]⟩], false, [.ro (.sl true [.b, .sl false [.i .u8]]), .v (.i .i64)], [.v (.i .i64)]⟩
noncomputable def fi50 : Fi := ⟨Try.f50, [], false, [.ag [.ro (.sl true [.b, .sl false [.i .u8]]), .v (.i .i64), .v (.b)], .v (.i .i64)], [.v (.i .i64)]⟩
def x36_5_0 : List (Ex × List Nat × CSt) := [(.ret, [4], ⟨[.i .i64 0], [.dead, .dead]⟩), ((.ex 0), [1], ⟨[.i .i64 0], [.dead, .dead]⟩)]
noncomputable def fi36 : Fi := ⟨Try.f36, [⟨5, [0, 1, 5], [], [(⟨[.ro 0 true [.sl true [.b, .sl false [.i .u8]], .i .i64, .b] [], .i .i64 0, .i .i64 0], [.dead, .dead]⟩, x36_5_0)]⟩], false, [.ro (.sl true [.sl true [.b, .sl false [.i .u8]], .i .i64, .b]), .v (.i .i64)], [.v (.i .i64)]⟩
noncomputable def fi23 : Fi := ⟨Try.f23, [], false, [.ag [.ro (.sl true [.sl true [.b, .sl false [.i .u8]], .i .i64, .b])], .v (.i .i64)], [.v (.i .i64)]⟩
noncomputable def fi24 : Fi := ⟨Try.f24, [], false, [.ro (.sl true [.i .i64, .i .i64, .i .i64]), .v (.i .i64)], [.v (.i .i64)]⟩
noncomputable def fi13 : Fi := ⟨Try.f13, [], false, [.ag [.ro (.sl true [.sl true [.b, .sl false [.i .u8]], .i .i64, .b]), .v (.i .i64), .ro (.sl true [.i .i64, .i .i64, .i .i64]), .v (.b)], .v (.i .i64)], [.v (.i .i64)]⟩
noncomputable def fi4 : Fi := ⟨Try.f4, [], false, [.ag [.ro (.sl true [.sl true [.b, .sl false [.i .u8]], .i .i64, .b]), .v (.i .i64), .ro (.sl true [.i .i64, .i .i64, .i .i64]), .v (.b), .v (.i .i64)], .v (.i .i64)], [.v (.i .i64)]⟩
def x79_3_0 : List (Ex × List Nat × CSt) := [((.ex 0), [3], ⟨[.rf 1 [] 0 none], [.dead, .row false [.i .u8] [] 0 false]⟩)]
noncomputable def fi79 : Fi := ⟨Try.f79, [⟨3, [0, 3, 4], [], [(⟨[.ro 0 false [.i .u8] [], .rf 1 [] 0 none, .i .i64 0], [.dead, .row false [.i .u8] [] 0 false]⟩, x79_3_0)]⟩], false, [.ro (.sl false [.i .u8])], [.ow (.sl false [.i .u8])]⟩
noncomputable def fi75 : Fi := ⟨Try.f75, [], false, [.ag [.v (.b), .ro (.sl false [.i .u8])]], [.ag [.v (.b), .ow (.sl false [.i .u8])]]⟩
def x67_3_0 : List (Ex × List Nat × CSt) := [((.ex 0), [3], ⟨[.rf 1 [] 0 none], [.dead, .row true [.b, .sl false [.i .u8]] [] 0 false]⟩)]
noncomputable def fi67 : Fi := ⟨Try.f67, [⟨3, [0, 3, 4], [], [(⟨[.ro 0 true [.b, .sl false [.i .u8]] [], .rf 1 [] 0 none, .i .i64 0], [.dead, .row true [.b, .sl false [.i .u8]] [] 0 false]⟩, x67_3_0)]⟩], false, [.ro (.sl true [.b, .sl false [.i .u8]])], [.ow (.sl true [.b, .sl false [.i .u8]])]⟩
noncomputable def fi54 : Fi := ⟨Try.f54, [], false, [.ag [.ro (.sl true [.b, .sl false [.i .u8]]), .v (.i .i64), .v (.b)]], [.ag [.ow (.sl true [.b, .sl false [.i .u8]]), .v (.i .i64), .v (.b)]]⟩
def x41_3_0 : List (Ex × List Nat × CSt) := [((.ex 0), [3], ⟨[.rf 1 [] 0 none], [.dead, .row true [.sl true [.b, .sl false [.i .u8]], .i .i64, .b] [] 0 false]⟩)]
noncomputable def fi41 : Fi := ⟨Try.f41, [⟨3, [0, 3, 4], [], [(⟨[.ro 0 true [.sl true [.b, .sl false [.i .u8]], .i .i64, .b] [], .rf 1 [] 0 none, .i .i64 0], [.dead, .row true [.sl true [.b, .sl false [.i .u8]], .i .i64, .b] [] 0 false]⟩, x41_3_0)]⟩], false, [.ro (.sl true [.sl true [.b, .sl false [.i .u8]], .i .i64, .b])], [.ow (.sl true [.sl true [.b, .sl false [.i .u8]], .i .i64, .b])]⟩
noncomputable def fi27 : Fi := ⟨Try.f27, [], false, [.ag [.ro (.sl true [.sl true [.b, .sl false [.i .u8]], .i .i64, .b])]], [.ag [.ow (.sl true [.sl true [.b, .sl false [.i .u8]], .i .i64, .b])]]⟩
noncomputable def fi42 : Fi := ⟨Try.f42, [], false, [.ag [.v (.i .i64), .v (.i .i64), .v (.i .i64)]], [.ag [.v (.i .i64), .v (.i .i64), .v (.i .i64)]]⟩
def x28_3_0 : List (Ex × List Nat × CSt) := [((.ex 0), [3], ⟨[.rf 1 [] 0 none], [.dead, .row true [.i .i64, .i .i64, .i .i64] [] 0 false]⟩)]
noncomputable def fi28 : Fi := ⟨Try.f28, [⟨3, [0, 3, 4], [], [(⟨[.ro 0 true [.i .i64, .i .i64, .i .i64] [], .rf 1 [] 0 none, .i .i64 0], [.dead, .row true [.i .i64, .i .i64, .i .i64] [] 0 false]⟩, x28_3_0)]⟩], false, [.ro (.sl true [.i .i64, .i .i64, .i .i64])], [.ow (.sl true [.i .i64, .i .i64, .i .i64])]⟩
noncomputable def fi15 : Fi := ⟨Try.f15, [], false, [.ag [.ro (.sl true [.sl true [.b, .sl false [.i .u8]], .i .i64, .b]), .v (.i .i64), .ro (.sl true [.i .i64, .i .i64, .i .i64]), .v (.b)]], [.ag [.ow (.sl true [.sl true [.b, .sl false [.i .u8]], .i .i64, .b]), .v (.i .i64), .ow (.sl true [.i .i64, .i .i64, .i .i64]), .v (.b)]]⟩
noncomputable def fi6 : Fi := ⟨Try.f6, [], false, [.ag [.ro (.sl true [.sl true [.b, .sl false [.i .u8]], .i .i64, .b]), .v (.i .i64), .ro (.sl true [.i .i64, .i .i64, .i .i64]), .v (.b), .v (.i .i64)]], [.ag [.ow (.sl true [.sl true [.b, .sl false [.i .u8]], .i .i64, .b]), .v (.i .i64), .ow (.sl true [.i .i64, .i .i64, .i .i64]), .v (.b), .v (.i .i64)]]⟩
noncomputable def fi25 : Fi := ⟨Try.f25, [], false, [.ag [.ro (.sl true [.sl true [.b, .sl false [.i .u8]], .i .i64, .b])], .v (.i .i64), .v (.i .i64)], [.ow (.sl false [.i .u8]), .v (.b)]⟩
def x51_3_0 : List (Ex × List Nat × CSt) := [(.ret, [4, 5, 6], ⟨[.i .i64 0, .i .i64 0, .b false], [.dead, .dead]⟩), ((.ex 0), [], ⟨[], [.dead, .dead]⟩)]
noncomputable def fi51 : Fi := ⟨Try.f51, [⟨3, [0, 1, 7, 8], [], [(⟨[.ro 0 false [.i .u8] [], .i .i64 0, .i .i64 0, .i .i64 0], [.dead, .dead]⟩, x51_3_0)]⟩], false, [.ro (.sl false [.i .u8]), .v (.i .i64)], [.v (.i .i64), .v (.i .i64), .v (.b)]⟩
noncomputable def fi37 : Fi := ⟨Try.f37, [], false, [.bx [.ro (.sl false [.i .u8]), .v (.i .i64), .v (.b)]], [.v (.i .i64)]⟩
noncomputable def fi52 : Fi := ⟨Try.f52, [], false, [.ro (.sl false [.i .u8]), .v (.i .i64)], [.v (.s), .v (.i .i64), .v (.b)]⟩
noncomputable def fi38 : Fi := ⟨Try.f38, [], false, [.bx [.ro (.sl false [.i .u8]), .v (.i .i64), .v (.b)]], [.v (.s)]⟩
def x39_3_0 : List (Ex × List Nat × CSt) := [((.ex 0), [3], ⟨[.i .i64 0], [.dead]⟩)]
def x39_7_0 : List (Ex × List Nat × CSt) := [((.ex 2), [0, 3, 4], ⟨[.ro 0 false [.i .u8] [], .i .i64 0, .i .i64 0], [.dead]⟩)]
noncomputable def fi39 : Fi := ⟨Try.f39, [⟨3, [0, 3, 4], [], [(⟨[.ro 0 false [.i .u8] [], .i .i64 0, .i .i64 0], [.dead]⟩, x39_3_0)]⟩, ⟨7, [0, 3, 4, 5], [], [(⟨[.ro 0 false [.i .u8] [], .i .i64 0, .i .i64 0, .i .i64 0], [.dead]⟩, x39_7_0)]⟩], false, [.ro (.sl false [.i .u8])], [.v (.i .i64)]⟩
noncomputable def fi53 : Fi := ⟨Try.f53, [], false, [.v (.i .i64), .v (.i .i64), .v (.i .i64)], [.v (.b)]⟩
noncomputable def fi40 : Fi := ⟨Try.f40, [], false, [.ag [.v (.i .i64), .v (.i .i64), .ro (.sl false [.i .u8])]], [.v (.b)]⟩
def x26_6_0 : List (Ex × List Nat × CSt) := [((.ex 0), [0, 2, 4, 5], ⟨[.ro 0 false [.i .u8] [], .bp 1 0, .i .i64 0, .i .i64 0], [.dead, .box [.i .i64 0, .i .i64 0, .rf 2 [] 0 none], .row false [.i .u8] [] 0 false]⟩)]
noncomputable def fi26 : Fi := ⟨Try.f26, [⟨6, [0, 2, 4, 5, 6], [], [(⟨[.ro 0 false [.i .u8] [], .bp 1 0, .i .i64 0, .i .i64 0, .i .i64 0], [.dead, .box [.i .i64 0, .i .i64 0, .rf 2 [] 0 none], .row false [.i .u8] [] 0 false]⟩, x26_6_0)]⟩], false, [.ro (.sl false [.i .u8])], [.ag [.v (.i .i64), .v (.i .i64), .ow (.sl false [.i .u8])], .v (.b)]⟩
noncomputable def fi14 : Fi := ⟨Try.f14, [], false, [.ag [.ro (.sl true [.sl true [.b, .sl false [.i .u8]], .i .i64, .b]), .v (.i .i64), .ro (.sl true [.i .i64, .i .i64, .i .i64]), .v (.b), .v (.i .i64)], .v (.i .i64), .v (.i .i64)], [.ag [.v (.i .i64), .v (.i .i64), .ow (.sl false [.i .u8])], .v (.b)]⟩
def x5_4_0 : List (Ex × List Nat × CSt) := [((.ex 0), [3], ⟨[.rf 5 [] 0 none], [.dead, .dead, .dead, .dead, .dead, .row false [.i .i64] [] 0 false]⟩)]
def x5_11_0 : List (Ex × List Nat × CSt) := [((.ex 2), [1, 3, 4, 5, 6, 8], ⟨[.bp 5 0, .rf 6 [] 0 none, .rf 7 [] 0 none, .i .i64 0, .bp 8 0, .i .i64 0], [.dead, .dead, .dead, .dead, .dead, .box [.ro 0 true [.sl true [.b, .sl false [.i .u8]], .i .i64, .b] [], .i .i64 0, .ro 0 true [.i .i64, .i .i64, .i .i64] [], .b false, .i .i64 0], .row false [.i .i64] [] 0 false, .row false [.i .i64] [] 0 false, .box [.i .i64 0, .i .i64 0, .rf 9 [] 0 none], .row false [.i .u8] [] 0 false]⟩)]
noncomputable def fi5 : Fi := ⟨Try.f5, [⟨4, [1, 3, 4, 5], [], [(⟨[.bp 5 0, .rf 6 [] 0 none, .rf 7 [] 0 none, .i .i64 0], [.dead, .dead, .dead, .dead, .dead, .box [.ro 0 true [.sl true [.b, .sl false [.i .u8]], .i .i64, .b] [], .i .i64 0, .ro 0 true [.i .i64, .i .i64, .i .i64] [], .b false, .i .i64 0], .row false [.i .i64] [] 0 false, .row false [.i .i64] [] 0 false]⟩, x5_4_0)]⟩, ⟨11, [1, 3, 4, 5, 6, 8], [], [(⟨[.bp 5 0, .rf 6 [] 0 none, .rf 7 [] 0 none, .i .i64 0, .bp 8 0, .i .i64 0], [.dead, .dead, .dead, .dead, .dead, .box [.ro 0 true [.sl true [.b, .sl false [.i .u8]], .i .i64, .b] [], .i .i64 0, .ro 0 true [.i .i64, .i .i64, .i .i64] [], .b false, .i .i64 0], .row false [.i .i64] [] 0 false, .row false [.i .i64] [] 0 false, .box [.i .i64 0, .i .i64 0, .rf 9 [] 0 none], .row false [.i .u8] [] 0 false]⟩, x5_11_0)]⟩], false, [.ag [.ro (.sl true [.sl true [.b, .sl false [.i .u8]], .i .i64, .b]), .v (.i .i64), .ro (.sl true [.i .i64, .i .i64, .i .i64]), .v (.b), .v (.i .i64)]], [.ow (.sl false [.i .i64])]⟩
noncomputable def fi17 : Fi := ⟨Try.f17, [], true, [], []⟩
noncomputable def fi56 : Fi := ⟨Try.f56, [], false, [.v (.i .i64), .v (.i .i64), .v (.i .i64)], [.v (.b)]⟩
noncomputable def fi55 : Fi := ⟨Try.f55, [], false, [.ag [.ro (.sl true [.sl true [.b, .sl false [.i .u8]], .i .i64, .b])], .v (.i .i64)], [.v (.b)]⟩
noncomputable def fi57 : Fi := ⟨Try.f57, [], false, [.ro (.sl false [.i .u8])], [.ow (.sl false [.i .u8])]⟩
noncomputable def fi43 : Fi := ⟨Try.f43, [], false, [.ag [.ro (.sl true [.sl true [.b, .sl false [.i .u8]], .i .i64, .b])], .v (.i .i64), .v (.i .i64)], [.ow (.sl false [.i .u8]), .v (.b)]⟩
def x76_3_0 : List (Ex × List Nat × CSt) := [((.ex 0), [3], ⟨[.i .u32 0], [.dead]⟩)]
def x76_7_0 : List (Ex × List Nat × CSt) := [((.ex 2), [3, 7, 8, 9], ⟨[.i .u32 0, .ro 0 false [.i .u8] [], .i .i64 0, .i .i64 0], [.dead]⟩)]
noncomputable def fi76 : Fi := ⟨Try.f76, [⟨3, [3, 7, 8, 9], [], [(⟨[.i .u32 0, .ro 0 false [.i .u8] [], .i .i64 0, .i .i64 0], [.dead]⟩, x76_3_0)]⟩, ⟨7, [3, 7, 8, 9, 17], [], [(⟨[.i .u32 0, .ro 0 false [.i .u8] [], .i .i64 0, .i .i64 0, .i .i64 0], [.dead]⟩, x76_7_0)]⟩], false, [.ro (.sl false [.i .u8])], [.v (.i .i64)]⟩
noncomputable def fi68 : Fi := ⟨Try.f68, [], false, [.ro (.sl false [.i .u8])], [.ow (.sl false [.i .u8])]⟩
noncomputable def fi58 : Fi := ⟨Try.f58, [], false, [.ro (.sl false [.i .u8])], [.ro (.sl false [.i .u8]), .v (.b)]⟩
def x69_6_0 : List (Ex × List Nat × CSt) := [((.ex 0), [], ⟨[], [.dead, .dead]⟩), (.ret, [4, 5, 6], ⟨[.i .i64 0, .i .i64 0, .b false], [.dead, .dead]⟩)]
noncomputable def fi69 : Fi := ⟨Try.f69, [⟨6, [0, 1, 7, 8, 9], [], [(⟨[.ro 0 false [.i .u8] [], .i .i64 0, .i .i64 0, .i .i64 0, .i .i64 0], [.dead, .dead]⟩, x69_6_0)]⟩], false, [.ro (.sl false [.i .u8]), .v (.i .i64)], [.v (.i .i64), .v (.i .i64), .v (.b)]⟩
noncomputable def fi59 : Fi := ⟨Try.f59, [], false, [.bx [.ro (.sl false [.i .u8]), .v (.i .i64), .v (.b)]], [.v (.i .i64)]⟩
noncomputable def fi70 : Fi := ⟨Try.f70, [], false, [.ro (.sl false [.i .u8]), .v (.i .i64)], [.v (.s), .v (.i .i64), .v (.b)]⟩
noncomputable def fi60 : Fi := ⟨Try.f60, [], false, [.bx [.ro (.sl false [.i .u8]), .v (.i .i64), .v (.b)]], [.v (.s)]⟩
noncomputable def fi61 : Fi := ⟨Try.f61, [], false, [.bx [.ro (.sl false [.i .u8]), .v (.i .i64), .v (.b)]], [.v (.b)]⟩
noncomputable def fi62 : Fi := ⟨Try.f62, [], false, [.ag [.v (.i .i64), .v (.i .i64), .ro (.sl false [.i .u8])]], [.v (.b)]⟩
noncomputable def fi44 : Fi := ⟨Try.f44, [], false, [.ro (.sl false [.i .u8])], [.ag [.v (.i .i64), .v (.i .i64), .ow (.sl false [.i .u8])], .v (.b)]⟩
noncomputable def fi29 : Fi := ⟨Try.f29, [], false, [.ag [.ro (.sl true [.sl true [.b, .sl false [.i .u8]], .i .i64, .b]), .v (.i .i64), .ro (.sl true [.i .i64, .i .i64, .i .i64]), .v (.b), .v (.i .i64)], .v (.i .i64)], [.ag [.v (.i .i64), .v (.i .i64), .ow (.sl false [.i .u8])], .v (.b)]⟩
def x16_2_0 : List (Ex × List Nat × CSt) := [((.ex 0), [], ⟨[], [.box [.rf 1 [] 0 none], .row true [.i .i64, .i .i64] [] 0 false]⟩)]
noncomputable def fi16 : Fi := ⟨Try.f16, [⟨2, [1, 2, 12, 13], [], [(⟨[.fn 17 [.bp 0 0], .bp 2 0, .i .i64 0, .i .i64 0], [.box [.rf 1 [] 0 none], .row true [.i .i64, .i .i64] [] 0 false, .box [.ro 0 true [.sl true [.b, .sl false [.i .u8]], .i .i64, .b] [], .i .i64 0, .ro 0 true [.i .i64, .i .i64, .i .i64] [], .b false, .i .i64 0]]⟩, x16_2_0)]⟩], true, [], []⟩
def x45_1_0 : List (Ex × List Nat × CSt) := [((.ex 0), [], ⟨[], [.row true [.i .i64, .i .i64] [] 0 false, .dead, .dead, .dead]⟩)]
def x45_4_0 : List (Ex × List Nat × CSt) := [((.ex 2), [0, 1, 2, 3, 8], ⟨[.rf 0 [] 0 none, .i .i64 0, .i .i64 0, .fn 19 [], .i .i64 0], [.row true [.i .i64, .i .i64] [] 0 false, .dead, .dead, .dead]⟩)]
noncomputable def fi45 : Fi := ⟨Try.f45, [⟨1, [0, 1, 2, 3, 8], [], [(⟨[.rf 0 [] 0 none, .i .i64 0, .i .i64 0, .fn 19 [], .i .i64 0], [.row true [.i .i64, .i .i64] [] 0 false, .dead, .dead, .dead]⟩, x45_1_0)]⟩, ⟨4, [0, 1, 2, 3, 8, 9], [], [(⟨[.rf 0 [] 0 none, .i .i64 0, .i .i64 0, .fn 19 [], .i .i64 0, .i .i64 0], [.row true [.i .i64, .i .i64] [] 0 false, .dead, .dead, .dead]⟩, x45_4_0)]⟩], false, [.ow (.sl true [.i .i64, .i .i64]), .v (.i .i64), .v (.i .i64), .fn 19], []⟩
def x71_1_0 : List (Ex × List Nat × CSt) := [((.ex 0), [], ⟨[], [.row true [.i .i64, .i .i64] [] 0 false, .dead, .dead, .dead, .dead]⟩)]
noncomputable def fi71 : Fi := ⟨Try.f71, [⟨1, [0, 1, 2, 3, 10], [], [(⟨[.rf 0 [] 0 none, .i .i64 0, .i .i64 0, .i .i64 0, .i .i64 0], [.row true [.i .i64, .i .i64] [] 0 false, .dead, .dead, .dead, .dead]⟩, x71_1_0)]⟩], false, [.ow (.sl true [.i .i64, .i .i64]), .v (.i .i64), .v (.i .i64), .v (.i .i64), .fn 19], []⟩
def x63_2_0 : List (Ex × List Nat × CSt) := [((.ex 0), [0, 2, 4, 10], ⟨[.rf 0 [] 0 none, .i .i64 0, .fn 19 [], .i .i64 0], [.row true [.i .i64, .i .i64] [] 0 false, .dead, .dead, .dead, .dead]⟩)]
noncomputable def fi63 : Fi := ⟨Try.f63, [⟨2, [0, 2, 4, 10, 11], [], [(⟨[.rf 0 [] 0 none, .i .i64 0, .fn 19 [], .i .i64 0, .i .i64 0], [.row true [.i .i64, .i .i64] [] 0 false, .dead, .dead, .dead, .dead]⟩, x63_2_0)]⟩], false, [.ow (.sl true [.i .i64, .i .i64]), .v (.i .i64), .v (.i .i64), .v (.i .i64), .fn 19], []⟩
def x46_3_0 : List (Ex × List Nat × CSt) := [((.ex 0), [0, 1, 10], ⟨[.rf 0 [] 0 none, .i .i64 0, .i .i64 0], [.row true [.i .i64, .i .i64] [] 0 false, .dead, .dead, .dead, .dead]⟩)]
def x46_9_0 : List (Ex × List Nat × CSt) := [((.ex 2), [], ⟨[], [.row true [.i .i64, .i .i64] [] 0 false, .dead, .dead, .dead, .dead]⟩)]
def x46_15_0 : List (Ex × List Nat × CSt) := [((.ex 4), [0, 2, 14], ⟨[.rf 0 [] 0 none, .i .i64 0, .i .i64 0], [.row true [.i .i64, .i .i64] [] 0 false, .dead, .dead, .dead, .dead]⟩)]
def x46_21_0 : List (Ex × List Nat × CSt) := [((.ex 6), [], ⟨[], [.row true [.i .i64, .i .i64] [] 0 false, .dead, .dead, .dead, .dead]⟩)]
def x46_33_0 : List (Ex × List Nat × CSt) := [((.ex 8), [0, 1, 2, 3, 4, 18, 19, 20], ⟨[.rf 0 [] 0 none, .i .i64 0, .i .i64 0, .i .i64 0, .fn 19 [], .i .i64 0, .i .i64 0, .i .i64 0], [.row true [.i .i64, .i .i64] [] 0 false, .dead, .dead, .dead, .dead]⟩)]
noncomputable def fi46 : Fi := ⟨Try.f46, [⟨3, [0, 1, 4, 10, 11], [], [(⟨[.rf 0 [] 0 none, .i .i64 0, .fn 19 [], .i .i64 0, .i .i64 0], [.row true [.i .i64, .i .i64] [] 0 false, .dead, .dead, .dead, .dead]⟩, x46_3_0)]⟩, ⟨9, [0, 10, 13], [], [(⟨[.rf 0 [] 0 none, .i .i64 0, .i .i64 0], [.row true [.i .i64, .i .i64] [] 0 false, .dead, .dead, .dead, .dead]⟩, x46_9_0)]⟩, ⟨15, [0, 2, 4, 14, 15], [], [(⟨[.rf 0 [] 0 none, .i .i64 0, .fn 19 [], .i .i64 0, .i .i64 0], [.row true [.i .i64, .i .i64] [] 0 false, .dead, .dead, .dead, .dead]⟩, x46_15_0)]⟩, ⟨21, [0, 14, 17], [], [(⟨[.rf 0 [] 0 none, .i .i64 0, .i .i64 0], [.row true [.i .i64, .i .i64] [] 0 false, .dead, .dead, .dead, .dead]⟩, x46_21_0)]⟩, ⟨33, [0, 1, 2, 3, 4, 18, 19, 20, 21, 22], [], [(⟨[.rf 0 [] 0 none, .i .i64 0, .i .i64 0, .i .i64 0, .fn 19 [], .i .i64 0, .i .i64 0, .i .i64 0, .i .i64 0, .i .i64 0], [.row true [.i .i64, .i .i64] [] 0 false, .dead, .dead, .dead, .dead]⟩, x46_33_0)]⟩], false, [.ow (.sl true [.i .i64, .i .i64]), .v (.i .i64), .v (.i .i64), .v (.i .i64), .fn 19], []⟩
def x30_2_0 : List (Ex × List Nat × CSt) := [((.ex 0), [0, 1, 2, 6, 7], ⟨[.rf 0 [] 0 none, .i .i64 0, .fn 19 [], .i .i64 0, .i .i64 0], [.row true [.i .i64, .i .i64] [] 0 false, .dead, .dead]⟩)]
def x30_7_0 : List (Ex × List Nat × CSt) := [((.ex 2), [], ⟨[], [.row true [.i .i64, .i .i64] [] 0 false, .dead, .dead]⟩)]
def x30_9_0 : List (Ex × List Nat × CSt) := [((.ex 4), [0, 1, 2, 6, 7], ⟨[.rf 0 [] 0 none, .i .i64 0, .fn 19 [], .i .i64 0, .i .i64 0], [.row true [.i .i64, .i .i64] [] 0 false, .dead, .dead]⟩)]
noncomputable def fi30 : Fi := ⟨Try.f30, [⟨2, [0, 1, 2, 6, 7, 8], [], [(⟨[.rf 0 [] 0 none, .i .i64 0, .fn 19 [], .i .i64 0, .i .i64 0, .i .i64 0], [.row true [.i .i64, .i .i64] [] 0 false, .dead, .dead]⟩, x30_2_0)]⟩, ⟨7, [0, 1, 2, 6], [], [(⟨[.rf 0 [] 0 none, .i .i64 0, .fn 19 [], .i .i64 0], [.row true [.i .i64, .i .i64] [] 0 false, .dead, .dead]⟩, x30_7_0)]⟩, ⟨9, [0, 1, 2, 6, 7, 8], [], [(⟨[.rf 0 [] 0 none, .i .i64 0, .fn 19 [], .i .i64 0, .i .i64 0, .i .i64 0], [.row true [.i .i64, .i .i64] [] 0 false, .dead, .dead]⟩, x30_9_0)]⟩], false, [.ow (.sl true [.i .i64, .i .i64]), .v (.i .i64), .fn 19], []⟩
noncomputable def fi18 : Fi := ⟨Try.f18, [], false, [.ow (.sl true [.i .i64, .i .i64]), .fn 19], []⟩
noncomputable def fi31 : Fi := ⟨Try.f31, [], false, [.v (.i .i64)], [.v (.b)]⟩
noncomputable def fi20 : Fi := ⟨Try.f20, [], false, [.v (.i .i64), .v (.i .i64)], [.v (.i .i64)]⟩
noncomputable def fi19 : Fi := ⟨Try.f19, [], false, [.ag [.v (.i .i64), .v (.i .i64)], .ag [.v (.i .i64), .v (.i .i64)]], [.v (.i .i64)]⟩
def x7_6_0 : List (Ex × List Nat × CSt) := [((.ex 0), [4], ⟨[.rf 5 [] 0 none], [.dead, .dead, .dead, .dead, .dead, .row false [.i .i64] [] 0 false]⟩)]
noncomputable def fi7 : Fi := ⟨Try.f7, [⟨6, [4, 14, 15, 16], [], [(⟨[.rf 5 [] 0 none, .rf 6 [] 0 none, .i .i64 0, .i .i64 0], [.dead, .dead, .dead, .dead, .dead, .row false [.i .i64] [] 0 false, .row true [.i .i64, .i .i64] [] 0 false]⟩, x7_6_0)]⟩], false, [.ag [.ro (.sl true [.sl true [.b, .sl false [.i .u8]], .i .i64, .b]), .v (.i .i64), .ro (.sl true [.i .i64, .i .i64, .i .i64]), .v (.b), .v (.i .i64)]], [.ow (.sl false [.i .i64])]⟩
def x8_4_0 : List (Ex × List Nat × CSt) := [(.ret, [4], ⟨[.b false], [.dead, .dead]⟩), ((.ex 0), [], ⟨[], [.dead, .dead]⟩)]
noncomputable def fi8 : Fi := ⟨Try.f8, [⟨4, [0, 1, 5], [], [(⟨[.ro 0 false [.i .i64] [], .ro 0 false [.i .i64] [], .i .i64 0], [.dead, .dead]⟩, x8_4_0)]⟩], false, [.ro (.sl false [.i .i64]), .ro (.sl false [.i .i64])], [.v (.b)]⟩
def x80_4_0 : List (Ex × List Nat × CSt) := [(.ret, [4], ⟨[.b false], [.dead, .dead]⟩), ((.ex 0), [], ⟨[], [.dead, .dead]⟩)]
noncomputable def fi80 : Fi := ⟨Try.f80, [⟨4, [0, 1, 5], [], [(⟨[.ro 0 false [.i .u8] [], .ro 0 false [.i .u8] [], .i .i64 0], [.dead, .dead]⟩, x80_4_0)]⟩], false, [.ro (.sl false [.i .u8]), .ro (.sl false [.i .u8])], [.v (.b)]⟩
noncomputable def fi77 : Fi := ⟨Try.f77, [], false, [.ag [.v (.b), .ro (.sl false [.i .u8])], .ag [.v (.b), .ro (.sl false [.i .u8])]], [.v (.b)]⟩
def x72_4_0 : List (Ex × List Nat × CSt) := [(.ret, [4], ⟨[.b false], [.dead, .dead]⟩), ((.ex 0), [], ⟨[], [.dead, .dead]⟩)]
noncomputable def fi72 : Fi := ⟨Try.f72, [⟨4, [0, 1, 5], [], [(⟨[.ro 0 true [.b, .sl false [.i .u8]] [], .ro 0 true [.b, .sl false [.i .u8]] [], .i .i64 0], [.dead, .dead]⟩, x72_4_0)]⟩], false, [.ro (.sl true [.b, .sl false [.i .u8]]), .ro (.sl true [.b, .sl false [.i .u8]])], [.v (.b)]⟩
noncomputable def fi64 : Fi := ⟨Try.f64, [], false, [.ag [.ro (.sl true [.b, .sl false [.i .u8]]), .v (.i .i64), .v (.b)], .ag [.ro (.sl true [.b, .sl false [.i .u8]]), .v (.i .i64), .v (.b)]], [.v (.b)]⟩
def x47_4_0 : List (Ex × List Nat × CSt) := [(.ret, [4], ⟨[.b false], [.dead, .dead]⟩), ((.ex 0), [], ⟨[], [.dead, .dead]⟩)]
noncomputable def fi47 : Fi := ⟨Try.f47, [⟨4, [0, 1, 5], [], [(⟨[.ro 0 true [.sl true [.b, .sl false [.i .u8]], .i .i64, .b] [], .ro 0 true [.sl true [.b, .sl false [.i .u8]], .i .i64, .b] [], .i .i64 0], [.dead, .dead]⟩, x47_4_0)]⟩], false, [.ro (.sl true [.sl true [.b, .sl false [.i .u8]], .i .i64, .b]), .ro (.sl true [.sl true [.b, .sl false [.i .u8]], .i .i64, .b])], [.v (.b)]⟩
noncomputable def fi32 : Fi := ⟨Try.f32, [], false, [.ag [.ro (.sl true [.sl true [.b, .sl false [.i .u8]], .i .i64, .b])], .ag [.ro (.sl true [.sl true [.b, .sl false [.i .u8]], .i .i64, .b])]], [.v (.b)]⟩
noncomputable def fi48 : Fi := ⟨Try.f48, [], false, [.ag [.v (.i .i64), .v (.i .i64), .v (.i .i64)], .ag [.v (.i .i64), .v (.i .i64), .v (.i .i64)]], [.v (.b)]⟩
def x33_4_0 : List (Ex × List Nat × CSt) := [(.ret, [4], ⟨[.b false], [.dead, .dead]⟩), ((.ex 0), [], ⟨[], [.dead, .dead]⟩)]
noncomputable def fi33 : Fi := ⟨Try.f33, [⟨4, [0, 1, 5], [], [(⟨[.ro 0 true [.i .i64, .i .i64, .i .i64] [], .ro 0 true [.i .i64, .i .i64, .i .i64] [], .i .i64 0], [.dead, .dead]⟩, x33_4_0)]⟩], false, [.ro (.sl true [.i .i64, .i .i64, .i .i64]), .ro (.sl true [.i .i64, .i .i64, .i .i64])], [.v (.b)]⟩
noncomputable def fi21 : Fi := ⟨Try.f21, [], false, [.ag [.ro (.sl true [.sl true [.b, .sl false [.i .u8]], .i .i64, .b]), .v (.i .i64), .ro (.sl true [.i .i64, .i .i64, .i .i64]), .v (.b)], .ag [.ro (.sl true [.sl true [.b, .sl false [.i .u8]], .i .i64, .b]), .v (.i .i64), .ro (.sl true [.i .i64, .i .i64, .i .i64]), .v (.b)]], [.v (.b)]⟩
noncomputable def fi9 : Fi := ⟨Try.f9, [], false, [.ag [.ro (.sl true [.sl true [.b, .sl false [.i .u8]], .i .i64, .b]), .v (.i .i64), .ro (.sl true [.i .i64, .i .i64, .i .i64]), .v (.b), .v (.i .i64)], .ag [.ro (.sl true [.sl true [.b, .sl false [.i .u8]], .i .i64, .b]), .v (.i .i64), .ro (.sl true [.i .i64, .i .i64, .i .i64]), .v (.b), .v (.i .i64)]], [.v (.b)]⟩
def x73_2_0 : List (Ex × List Nat × CSt) := [((.ex 0), [1], ⟨[.i .i64 0], [.row false [.i .u8] [] 0 false, .dead]⟩)]
noncomputable def fi73 : Fi := ⟨Try.f73, [⟨2, [0, 1, 5], [], [(⟨[.rf 0 [] 0 none, .i .i64 0, .i .i64 0], [.row false [.i .u8] [] 0 false, .dead]⟩, x73_2_0)]⟩], false, [.ow (.sl false [.i .u8]), .v (.i .i64)], [.v (.i .i64)]⟩
def x65_2_0 : List (Ex × List Nat × CSt) := [((.ex 0), [1], ⟨[.i .i64 0], [.row true [.b, .sl false [.i .u8]] [] 0 false, .dead]⟩)]
noncomputable def fi65 : Fi := ⟨Try.f65, [⟨2, [0, 1, 5], [], [(⟨[.rf 0 [] 0 none, .i .i64 0, .i .i64 0], [.row true [.b, .sl false [.i .u8]] [] 0 false, .dead]⟩, x65_2_0)]⟩], false, [.ow (.sl true [.b, .sl false [.i .u8]]), .v (.i .i64)], [.v (.i .i64)]⟩
def x49_2_0 : List (Ex × List Nat × CSt) := [((.ex 0), [1], ⟨[.i .i64 0], [.row true [.sl true [.b, .sl false [.i .u8]], .i .i64, .b] [] 0 false, .dead]⟩)]
noncomputable def fi49 : Fi := ⟨Try.f49, [⟨2, [0, 1, 5], [], [(⟨[.rf 0 [] 0 none, .i .i64 0, .i .i64 0], [.row true [.sl true [.b, .sl false [.i .u8]], .i .i64, .b] [] 0 false, .dead]⟩, x49_2_0)]⟩], false, [.ow (.sl true [.sl true [.b, .sl false [.i .u8]], .i .i64, .b]), .v (.i .i64)], [.v (.i .i64)]⟩
noncomputable def fi34 : Fi := ⟨Try.f34, [], false, [.ag [.ow (.sl true [.sl true [.b, .sl false [.i .u8]], .i .i64, .b])], .v (.i .i64)], [.v (.i .i64)]⟩
def x35_2_0 : List (Ex × List Nat × CSt) := [((.ex 0), [1], ⟨[.i .i64 0], [.row true [.i .i64, .i .i64, .i .i64] [] 0 false, .dead]⟩)]
noncomputable def fi35 : Fi := ⟨Try.f35, [⟨2, [0, 1, 5], [], [(⟨[.rf 0 [] 0 none, .i .i64 0, .i .i64 0], [.row true [.i .i64, .i .i64, .i .i64] [] 0 false, .dead]⟩, x35_2_0)]⟩], false, [.ow (.sl true [.i .i64, .i .i64, .i .i64]), .v (.i .i64)], [.v (.i .i64)]⟩
noncomputable def fi22 : Fi := ⟨Try.f22, [], false, [.ag [.ow (.sl true [.sl true [.b, .sl false [.i .u8]], .i .i64, .b]), .v (.i .i64), .ow (.sl true [.i .i64, .i .i64, .i .i64]), .v (.b)], .v (.i .i64)], [.v (.i .i64)]⟩
noncomputable def fi10 : Fi := ⟨Try.f10, [], false, [.ag [.ow (.sl true [.sl true [.b, .sl false [.i .u8]], .i .i64, .b]), .v (.i .i64), .ow (.sl true [.i .i64, .i .i64, .i .i64]), .v (.b), .v (.i .i64)], .v (.i .i64)], [.v (.i .i64)]⟩
def x11_2_0 : List (Ex × List Nat × CSt) := [((.ex 0), [1], ⟨[.i .i64 0], [.row false [.i .i64] [] 0 false, .dead]⟩)]
noncomputable def fi11 : Fi := ⟨Try.f11, [⟨2, [0, 1, 5], [], [(⟨[.rf 0 [] 0 none, .i .i64 0, .i .i64 0], [.row false [.i .i64] [] 0 false, .dead]⟩, x11_2_0)]⟩], false, [.ow (.sl false [.i .i64]), .v (.i .i64)], [.v (.i .i64)]⟩
def x12_2_0 : List (Ex × List Nat × CSt) := [(.ret, [4], ⟨[.i .i64 0], [.dead, .dead]⟩), ((.ex 0), [1], ⟨[.i .i64 0], [.dead, .dead]⟩)]
noncomputable def fi12 : Fi := ⟨Try.f12, [⟨2, [0, 1, 5], [], [(⟨[.ro 0 false [.i .i64] [], .i .i64 0, .i .i64 0], [.dead, .dead]⟩, x12_2_0)]⟩], false, [.ro (.sl false [.i .i64]), .v (.i .i64)], [.v (.i .i64)]⟩
noncomputable def fi3 : Fi := ⟨Try.f3, [], false, [.ag [.ro (.sl true [.sl true [.b, .sl false [.i .u8]], .i .i64, .b]), .v (.i .i64), .ro (.sl true [.i .i64, .i .i64, .i .i64]), .v (.b), .v (.i .i64)]], [.v (.b)]⟩
noncomputable def fiTab : List (Nat × Fi) := [(78, fi78), (74, fi74), (66, fi66), (50, fi50), (36, fi36), (23, fi23), (24, fi24), (13, fi13), (4, fi4), (79, fi79), (75, fi75), (67, fi67), (54, fi54), (41, fi41), (27, fi27), (42, fi42), (28, fi28), (15, fi15), (6, fi6), (25, fi25), (51, fi51), (37, fi37), (52, fi52), (38, fi38), (39, fi39), (53, fi53), (40, fi40), (26, fi26), (14, fi14), (5, fi5), (17, fi17), (56, fi56), (55, fi55), (57, fi57), (43, fi43), (76, fi76), (68, fi68), (58, fi58), (69, fi69), (59, fi59), (70, fi70), (60, fi60), (61, fi61), (62, fi62), (44, fi44), (29, fi29), (16, fi16), (45, fi45), (71, fi71), (63, fi63), (46, fi46), (30, fi30), (18, fi18), (31, fi31), (20, fi20), (19, fi19), (7, fi7), (8, fi8), (80, fi80), (77, fi77), (72, fi72), (64, fi64), (47, fi47), (32, fi32), (48, fi48), (33, fi33), (21, fi21), (9, fi9), (73, fi73), (65, fi65), (49, fi49), (34, fi34), (35, fi35), (22, fi22), (10, fi10), (11, fi11), (12, fi12), (3, fi3)]
def X : Nat → Option (List T → Option (List T)) := lookN [(57, cloneF)]
noncomputable def env : Env := ⟨lookN fiTab, lookN tyTab⟩
def f78_t (c : Orc) (lf : Nat) (l0 : List T) (n1 : Int) : Option (List T) :=
 bif iLt (IntKind.wrap .i64 (n1 - (l0.length : Int))) 0 then
  some [T.i .i64 (-1)]
 else
  some [T.i .i64 (IntKind.wrap .i64 (n1 - (l0.length : Int)))]
def f78 (c : Orc) (lf : Nat) (l0 : List T) (n1 : Int) : Option (List T) := f78_t c lf l0 n1
theorem f78_eq (c : Orc) (lf : Nat) (l0 : List T) (n1 : Int) : funK c env lf 6 fi78 [.sl l0, .i .i64 n1] = f78 c lf l0 n1 := by kernel_rfl
def f74_t (c : Orc) (lf : Nat) (b0_0 : Bool) (l0_1 : List T) (n1 : Int) : Option (List T) :=
 (c 78 [T.sl l0_1, T.i .i64 n1]).bind fun r1 =>
 bif iLt (asI (nth r1 0)) 0 then
  some [T.i .i64 (-1)]
 else
  some [T.i .i64 (asI (nth r1 0))]
def f74 (c : Orc) (lf : Nat) (b0_0 : Bool) (l0_1 : List T) (n1 : Int) : Option (List T) := f74_t c lf b0_0 l0_1 n1
theorem f74_eq (c : Orc) (lf : Nat) (b0_0 : Bool) (l0_1 : List T) (n1 : Int) : funK c env lf 6 fi74 [.st [.b b0_0, .sl l0_1], .i .i64 n1] = f74 c lf b0_0 l0_1 n1 := by kernel_rfl
def f66_0_s (c : Orc) (lf : Nat) (l0 : List T) (L : Int → Int → Option (List T)) (x8 x9 : Int) : Option (List T) :=
 bif iLt x9 (l0.length : Int) then
  bif inR x9 l0.length then
  (c 74 [T.st [T.b (asB (T.cell (l0.getD x9.toNat T.u) 0)), T.sl (asL (T.cell (l0.getD x9.toNat T.u) 1))], T.i .i64 x8]).bind fun r10 =>
  bif iLt (asI (nth r10 0)) 0 then
   some [T.i .i64 0, T.i .i64 (-1)]
  else
   L (asI (nth r10 0)) (IntKind.wrap .i64 (x9 + 1))
  else none
 else
  some [T.i .i64 1, T.i .i64 x8]
def f66_0_c (l0 : List T) (x8 x9 : Int) : CSt := ⟨[.ro 0 true [.b, .sl false [.i .u8]] l0, .i .i64 x8, .i .i64 x9], [.dead, .dead]⟩
theorem f66_0_round (c : Orc) (lf : Nat) (l0 : List T) (L : CSt → Option (List T)) (x8 x9 : Int) :
 roundK c env lf 6 fi66 2 5 [] [0, 1, 5] (x66_5_0) L (f66_0_c l0 x8 x9) = f66_0_s c lf l0 (fun x8 x9 => L (f66_0_c l0 x8 x9)) x8 x9 := by kernel_rfl
def f66_0 (c : Orc) (lf : Nat) (l0 : List T) : Nat → Int → Int → Option (List T)
 | 0 => fun _ _ => none
 | n + 1 => fun x8 x9 => f66_0_s c lf l0 (f66_0 c lf l0 n) x8 x9
theorem f66_0_eq (c : Orc) (lf : Nat) (l0 : List T) (n : Nat) (x8 x9 : Int) :
 lpK c env lf 6 fi66 2 5 [] [0, 1, 5] (x66_5_0) n (f66_0_c l0 x8 x9) = f66_0 c lf l0 n x8 x9 := by
 induction n generalizing x8 x9 with
 | zero => rfl
 | succ n ih =>
  refine (f66_0_round c lf l0 _ x8 x9).trans ?_
  have e : (fun x8 x9 => lpK c env lf 6 fi66 2 5 [] [0, 1, 5] (x66_5_0) n (f66_0_c l0 x8 x9)) = f66_0 c lf l0 n := by funext x8 x9; exact ih x8 x9
  show f66_0_s c lf l0 (fun x8 x9 => lpK c env lf 6 fi66 2 5 [] [0, 1, 5] (x66_5_0) n (f66_0_c l0 x8 x9)) x8 x9 = _
  rw [e]; rfl
def f66_t (c : Orc) (lf : Nat) (lp0 : List T → Int → Int → Option (List T)) (l0 : List T) (n1 : Int) : Option (List T) :=
 bif iLt (IntKind.wrap .i64 (n1 - (l0.length : Int))) 0 then
  some [T.i .i64 (-1)]
 else
  (lp0 l0 (IntKind.wrap .i64 (n1 - (l0.length : Int))) 0).bind fun r11 =>
  bif asI (nth r11 0) == 0 then
   some [T.i .i64 (asI (nth r11 1))]
  else
   some [T.i .i64 (asI (nth r11 1))]
def f66 (c : Orc) (lf : Nat) (l0 : List T) (n1 : Int) : Option (List T) := f66_t c lf (fun (l0 : List T) (x8 x9 : Int) => f66_0 c lf l0 lf x8 x9) l0 n1
theorem f66_raw (c : Orc) (lf : Nat) (l0 : List T) (n1 : Int) : funK c env lf 6 fi66 [.sl l0, .i .i64 n1] = f66_t c lf (fun (l0 : List T) (x8 x9 : Int) => lpK c env lf 6 fi66 2 5 [] [0, 1, 5] (x66_5_0) lf (f66_0_c l0 x8 x9)) l0 n1 := by kernel_rfl
theorem f66_eq (c : Orc) (lf : Nat) (l0 : List T) (n1 : Int) : funK c env lf 6 fi66 [.sl l0, .i .i64 n1] = f66 c lf l0 n1 := by
 refine (f66_raw c lf l0 n1).trans ?_
 have e0 : (fun (l0 : List T) (x8 x9 : Int) => lpK c env lf 6 fi66 2 5 [] [0, 1, 5] (x66_5_0) lf (f66_0_c l0 x8 x9)) = (fun (l0 : List T) (x8 x9 : Int) => f66_0 c lf l0 lf x8 x9) := by funext l0 x8 x9; exact f66_0_eq c lf l0 lf x8 x9
 rw [e0]; rfl
def f50_t (c : Orc) (lf : Nat) (l0_0 : List T) (n0_1 : Int) (b0_2 : Bool) (n1 : Int) : Option (List T) :=
 (c 66 [T.sl l0_0, T.i .i64 n1]).bind fun r12 =>
 bif iLt (asI (nth r12 0)) 0 then
  some [T.i .i64 (-1)]
 else
  some [T.i .i64 (asI (nth r12 0))]
def f50 (c : Orc) (lf : Nat) (l0_0 : List T) (n0_1 : Int) (b0_2 : Bool) (n1 : Int) : Option (List T) := f50_t c lf l0_0 n0_1 b0_2 n1
theorem f50_eq (c : Orc) (lf : Nat) (l0_0 : List T) (n0_1 : Int) (b0_2 : Bool) (n1 : Int) : funK c env lf 6 fi50 [.st [.sl l0_0, .i .i64 n0_1, .b b0_2], .i .i64 n1] = f50 c lf l0_0 n0_1 b0_2 n1 := by kernel_rfl
def f36_0_s (c : Orc) (lf : Nat) (l0 : List T) (L : Int → Int → Option (List T)) (x19 x20 : Int) : Option (List T) :=
 bif iLt x20 (l0.length : Int) then
  bif inR x20 l0.length then
  (c 50 [T.st [T.sl (asL (T.cell (l0.getD x20.toNat T.u) 0)), T.i .i64 (asI (T.cell (l0.getD x20.toNat T.u) 1)), T.b (asB (T.cell (l0.getD x20.toNat T.u) 2))], T.i .i64 x19]).bind fun r21 =>
  bif iLt (asI (nth r21 0)) 0 then
   some [T.i .i64 0, T.i .i64 (-1)]
  else
   L (asI (nth r21 0)) (IntKind.wrap .i64 (x20 + 1))
  else none
 else
  some [T.i .i64 1, T.i .i64 x19]
def f36_0_c (l0 : List T) (x19 x20 : Int) : CSt := ⟨[.ro 0 true [.sl true [.b, .sl false [.i .u8]], .i .i64, .b] l0, .i .i64 x19, .i .i64 x20], [.dead, .dead]⟩
theorem f36_0_round (c : Orc) (lf : Nat) (l0 : List T) (L : CSt → Option (List T)) (x19 x20 : Int) :
 roundK c env lf 6 fi36 2 5 [] [0, 1, 5] (x36_5_0) L (f36_0_c l0 x19 x20) = f36_0_s c lf l0 (fun x19 x20 => L (f36_0_c l0 x19 x20)) x19 x20 := by kernel_rfl
def f36_0 (c : Orc) (lf : Nat) (l0 : List T) : Nat → Int → Int → Option (List T)
 | 0 => fun _ _ => none
 | n + 1 => fun x19 x20 => f36_0_s c lf l0 (f36_0 c lf l0 n) x19 x20
theorem f36_0_eq (c : Orc) (lf : Nat) (l0 : List T) (n : Nat) (x19 x20 : Int) :
 lpK c env lf 6 fi36 2 5 [] [0, 1, 5] (x36_5_0) n (f36_0_c l0 x19 x20) = f36_0 c lf l0 n x19 x20 := by
 induction n generalizing x19 x20 with
 | zero => rfl
 | succ n ih =>
  refine (f36_0_round c lf l0 _ x19 x20).trans ?_
  have e : (fun x19 x20 => lpK c env lf 6 fi36 2 5 [] [0, 1, 5] (x36_5_0) n (f36_0_c l0 x19 x20)) = f36_0 c lf l0 n := by funext x19 x20; exact ih x19 x20
  show f36_0_s c lf l0 (fun x19 x20 => lpK c env lf 6 fi36 2 5 [] [0, 1, 5] (x36_5_0) n (f36_0_c l0 x19 x20)) x19 x20 = _
  rw [e]; rfl
def f36_t (c : Orc) (lf : Nat) (lp0 : List T → Int → Int → Option (List T)) (l0 : List T) (n1 : Int) : Option (List T) :=
 bif iLt (IntKind.wrap .i64 (n1 - (l0.length : Int))) 0 then
  some [T.i .i64 (-1)]
 else
  (lp0 l0 (IntKind.wrap .i64 (n1 - (l0.length : Int))) 0).bind fun r22 =>
  bif asI (nth r22 0) == 0 then
   some [T.i .i64 (asI (nth r22 1))]
  else
   some [T.i .i64 (asI (nth r22 1))]
def f36 (c : Orc) (lf : Nat) (l0 : List T) (n1 : Int) : Option (List T) := f36_t c lf (fun (l0 : List T) (x19 x20 : Int) => f36_0 c lf l0 lf x19 x20) l0 n1
theorem f36_raw (c : Orc) (lf : Nat) (l0 : List T) (n1 : Int) : funK c env lf 6 fi36 [.sl l0, .i .i64 n1] = f36_t c lf (fun (l0 : List T) (x19 x20 : Int) => lpK c env lf 6 fi36 2 5 [] [0, 1, 5] (x36_5_0) lf (f36_0_c l0 x19 x20)) l0 n1 := by kernel_rfl
theorem f36_eq (c : Orc) (lf : Nat) (l0 : List T) (n1 : Int) : funK c env lf 6 fi36 [.sl l0, .i .i64 n1] = f36 c lf l0 n1 := by
 refine (f36_raw c lf l0 n1).trans ?_
 have e0 : (fun (l0 : List T) (x19 x20 : Int) => lpK c env lf 6 fi36 2 5 [] [0, 1, 5] (x36_5_0) lf (f36_0_c l0 x19 x20)) = (fun (l0 : List T) (x19 x20 : Int) => f36_0 c lf l0 lf x19 x20) := by funext l0 x19 x20; exact f36_0_eq c lf l0 lf x19 x20
 rw [e0]; rfl
def f23_t (c : Orc) (lf : Nat) (l0_0 : List T) (n1 : Int) : Option (List T) :=
 (c 36 [T.sl l0_0, T.i .i64 n1]).bind fun r23 =>
 bif iLt (asI (nth r23 0)) 0 then
  some [T.i .i64 (-1)]
 else
  some [T.i .i64 (asI (nth r23 0))]
def f23 (c : Orc) (lf : Nat) (l0_0 : List T) (n1 : Int) : Option (List T) := f23_t c lf l0_0 n1
theorem f23_eq (c : Orc) (lf : Nat) (l0_0 : List T) (n1 : Int) : funK c env lf 6 fi23 [.st [.sl l0_0], .i .i64 n1] = f23 c lf l0_0 n1 := by kernel_rfl
def f24_t (c : Orc) (lf : Nat) (l0 : List T) (n1 : Int) : Option (List T) :=
 bif iLt (IntKind.wrap .i64 (n1 - (l0.length : Int))) 0 then
  some [T.i .i64 (-1)]
 else
  some [T.i .i64 (IntKind.wrap .i64 (n1 - (l0.length : Int)))]
def f24 (c : Orc) (lf : Nat) (l0 : List T) (n1 : Int) : Option (List T) := f24_t c lf l0 n1
theorem f24_eq (c : Orc) (lf : Nat) (l0 : List T) (n1 : Int) : funK c env lf 6 fi24 [.sl l0, .i .i64 n1] = f24 c lf l0 n1 := by kernel_rfl
def f13_t (c : Orc) (lf : Nat) (l0_0 : List T) (n0_1 : Int) (l0_2 : List T) (b0_3 : Bool) (n1 : Int) : Option (List T) :=
 (c 23 [T.st [T.sl l0_0], T.i .i64 n1]).bind fun r24 =>
 bif iLt (asI (nth r24 0)) 0 then
  some [T.i .i64 (-1)]
 else
  (c 24 [T.sl l0_2, T.i .i64 (asI (nth r24 0))]).bind fun r25 =>
  bif iLt (asI (nth r25 0)) 0 then
   some [T.i .i64 (-1)]
  else
   some [T.i .i64 (asI (nth r25 0))]
def f13 (c : Orc) (lf : Nat) (l0_0 : List T) (n0_1 : Int) (l0_2 : List T) (b0_3 : Bool) (n1 : Int) : Option (List T) := f13_t c lf l0_0 n0_1 l0_2 b0_3 n1
theorem f13_eq (c : Orc) (lf : Nat) (l0_0 : List T) (n0_1 : Int) (l0_2 : List T) (b0_3 : Bool) (n1 : Int) : funK c env lf 6 fi13 [.st [.sl l0_0, .i .i64 n0_1, .sl l0_2, .b b0_3], .i .i64 n1] = f13 c lf l0_0 n0_1 l0_2 b0_3 n1 := by kernel_rfl
def f4_t (c : Orc) (lf : Nat) (l0_0 : List T) (n0_1 : Int) (l0_2 : List T) (b0_3 : Bool) (n0_4 n1 : Int) : Option (List T) :=
 (c 13 [T.st [T.sl l0_0, T.i .i64 n0_1, T.sl l0_2, T.b b0_3], T.i .i64 n1]).bind fun r26 =>
 bif iLt (asI (nth r26 0)) 0 then
  some [T.i .i64 (-1)]
 else
  some [T.i .i64 (asI (nth r26 0))]
def f4 (c : Orc) (lf : Nat) (l0_0 : List T) (n0_1 : Int) (l0_2 : List T) (b0_3 : Bool) (n0_4 n1 : Int) : Option (List T) := f4_t c lf l0_0 n0_1 l0_2 b0_3 n0_4 n1
theorem f4_eq (c : Orc) (lf : Nat) (l0_0 : List T) (n0_1 : Int) (l0_2 : List T) (b0_3 : Bool) (n0_4 n1 : Int) : funK c env lf 6 fi4 [.st [.sl l0_0, .i .i64 n0_1, .sl l0_2, .b b0_3, .i .i64 n0_4], .i .i64 n1] = f4 c lf l0_0 n0_1 l0_2 b0_3 n0_4 n1 := by kernel_rfl
def f79_0_s (c : Orc) (lf : Nat) (l0 : List T) (L : Int → List T → Option (List T)) (x30 : Int) (x31 : List T) : Option (List T) :=
 bif iLt x30 (l0.length : Int) then
  bif inR x30 l0.length then
  bif inR x30 x31.length then
  L (IntKind.wrap .i64 (x30 + 1)) (x31.set x30.toNat (T.i .u8 (asI (l0.getD x30.toNat T.u))))
  else none
  else none
 else
  some [T.i .i64 0, T.sl x31]
def f79_0_c (l0 : List T) (x30 : Int) (x31 : List T) : CSt := ⟨[.ro 0 false [.i .u8] l0, .rf 1 [] 0 none, .i .i64 x30], [.dead, .row false [.i .u8] x31 0 false]⟩
theorem f79_0_round (c : Orc) (lf : Nat) (l0 : List T) (L : CSt → Option (List T)) (x30 : Int) (x31 : List T) :
 roundK c env lf 6 fi79 1 3 [] [0, 3, 4] (x79_3_0) L (f79_0_c l0 x30 x31) = f79_0_s c lf l0 (fun x30 x31 => L (f79_0_c l0 x30 x31)) x30 x31 := by kernel_rfl
def f79_0 (c : Orc) (lf : Nat) (l0 : List T) : Nat → Int → List T → Option (List T)
 | 0 => fun _ _ => none
 | n + 1 => fun x30 x31 => f79_0_s c lf l0 (f79_0 c lf l0 n) x30 x31
theorem f79_0_eq (c : Orc) (lf : Nat) (l0 : List T) (n : Nat) (x30 : Int) (x31 : List T) :
 lpK c env lf 6 fi79 1 3 [] [0, 3, 4] (x79_3_0) n (f79_0_c l0 x30 x31) = f79_0 c lf l0 n x30 x31 := by
 induction n generalizing x30 x31 with
 | zero => rfl
 | succ n ih =>
  refine (f79_0_round c lf l0 _ x30 x31).trans ?_
  have e : (fun x30 x31 => lpK c env lf 6 fi79 1 3 [] [0, 3, 4] (x79_3_0) n (f79_0_c l0 x30 x31)) = f79_0 c lf l0 n := by funext x30 x31; exact ih x30 x31
  show f79_0_s c lf l0 (fun x30 x31 => lpK c env lf 6 fi79 1 3 [] [0, 3, 4] (x79_3_0) n (f79_0_c l0 x30 x31)) x30 x31 = _
  rw [e]; rfl
def f79_t (c : Orc) (lf : Nat) (lp0 : List T → Int → List T → Option (List T)) (l0 : List T) : Option (List T) :=
 bif iLe 0 (l0.length : Int) && iLe (l0.length : Int) (LIM : Int) && ((l0.length : Int) == (l0.length : Int)) then
 (lp0 l0 0 (List.replicate (l0.length : Int).toNat (T.i .u8 0))).bind fun r32 =>
 some [T.sl (asL (nth r32 1))]
 else none
def f79 (c : Orc) (lf : Nat) (l0 : List T) : Option (List T) := f79_t c lf (fun (l0 : List T) (x30 : Int) (x31 : List T) => f79_0 c lf l0 lf x30 x31) l0
theorem f79_raw (c : Orc) (lf : Nat) (l0 : List T) : funK c env lf 6 fi79 [.sl l0] = f79_t c lf (fun (l0 : List T) (x30 : Int) (x31 : List T) => lpK c env lf 6 fi79 1 3 [] [0, 3, 4] (x79_3_0) lf (f79_0_c l0 x30 x31)) l0 := by kernel_rfl
theorem f79_eq (c : Orc) (lf : Nat) (l0 : List T) : funK c env lf 6 fi79 [.sl l0] = f79 c lf l0 := by
 refine (f79_raw c lf l0).trans ?_
 have e0 : (fun (l0 : List T) (x30 : Int) (x31 : List T) => lpK c env lf 6 fi79 1 3 [] [0, 3, 4] (x79_3_0) lf (f79_0_c l0 x30 x31)) = (fun (l0 : List T) (x30 : Int) (x31 : List T) => f79_0 c lf l0 lf x30 x31) := by funext l0 x30 x31; exact f79_0_eq c lf l0 lf x30 x31
 rw [e0]; rfl
def f75_t (c : Orc) (lf : Nat) (b0_0 : Bool) (l0_1 : List T) : Option (List T) :=
 (c 79 [T.sl l0_1]).bind fun r33 =>
 some [T.st [T.b b0_0, T.sl (asL (nth r33 0))]]
def f75 (c : Orc) (lf : Nat) (b0_0 : Bool) (l0_1 : List T) : Option (List T) := f75_t c lf b0_0 l0_1
theorem f75_eq (c : Orc) (lf : Nat) (b0_0 : Bool) (l0_1 : List T) : funK c env lf 6 fi75 [.st [.b b0_0, .sl l0_1]] = f75 c lf b0_0 l0_1 := by kernel_rfl
def f67_0_s (c : Orc) (lf : Nat) (l0 : List T) (L : Int → List T → Option (List T)) (x40 : Int) (x41 : List T) : Option (List T) :=
 bif iLt x40 (l0.length : Int) then
  bif inR x40 l0.length then
  (c 75 [T.st [T.b (asB (T.cell (l0.getD x40.toNat T.u) 0)), T.sl (asL (T.cell (l0.getD x40.toNat T.u) 1))]]).bind fun r42 =>
  bif inR x40 x41.length then
  L (IntKind.wrap .i64 (x40 + 1)) (x41.set x40.toNat (T.st [T.b (asB (T.cell (nth r42 0) 0)), T.sl (asL (T.cell (nth r42 0) 1))]))
  else none
  else none
 else
  some [T.i .i64 0, T.sl x41]
def f67_0_c (l0 : List T) (x40 : Int) (x41 : List T) : CSt := ⟨[.ro 0 true [.b, .sl false [.i .u8]] l0, .rf 1 [] 0 none, .i .i64 x40], [.dead, .row true [.b, .sl false [.i .u8]] x41 0 false]⟩
theorem f67_0_round (c : Orc) (lf : Nat) (l0 : List T) (L : CSt → Option (List T)) (x40 : Int) (x41 : List T) :
 roundK c env lf 6 fi67 1 3 [] [0, 3, 4] (x67_3_0) L (f67_0_c l0 x40 x41) = f67_0_s c lf l0 (fun x40 x41 => L (f67_0_c l0 x40 x41)) x40 x41 := by kernel_rfl
def f67_0 (c : Orc) (lf : Nat) (l0 : List T) : Nat → Int → List T → Option (List T)
 | 0 => fun _ _ => none
 | n + 1 => fun x40 x41 => f67_0_s c lf l0 (f67_0 c lf l0 n) x40 x41
theorem f67_0_eq (c : Orc) (lf : Nat) (l0 : List T) (n : Nat) (x40 : Int) (x41 : List T) :
 lpK c env lf 6 fi67 1 3 [] [0, 3, 4] (x67_3_0) n (f67_0_c l0 x40 x41) = f67_0 c lf l0 n x40 x41 := by
 induction n generalizing x40 x41 with
 | zero => rfl
 | succ n ih =>
  refine (f67_0_round c lf l0 _ x40 x41).trans ?_
  have e : (fun x40 x41 => lpK c env lf 6 fi67 1 3 [] [0, 3, 4] (x67_3_0) n (f67_0_c l0 x40 x41)) = f67_0 c lf l0 n := by funext x40 x41; exact ih x40 x41
  show f67_0_s c lf l0 (fun x40 x41 => lpK c env lf 6 fi67 1 3 [] [0, 3, 4] (x67_3_0) n (f67_0_c l0 x40 x41)) x40 x41 = _
  rw [e]; rfl
def f67_t (c : Orc) (lf : Nat) (lp0 : List T → Int → List T → Option (List T)) (l0 : List T) : Option (List T) :=
 bif iLe 0 (l0.length : Int) && iLe (l0.length : Int) (LIM : Int) && ((l0.length : Int) == (l0.length : Int)) then
 (lp0 l0 0 (List.replicate (l0.length : Int).toNat (T.st [T.b false, T.sl []]))).bind fun r43 =>
 some [T.sl (asL (nth r43 1))]
 else none
def f67 (c : Orc) (lf : Nat) (l0 : List T) : Option (List T) := f67_t c lf (fun (l0 : List T) (x40 : Int) (x41 : List T) => f67_0 c lf l0 lf x40 x41) l0
theorem f67_raw (c : Orc) (lf : Nat) (l0 : List T) : funK c env lf 6 fi67 [.sl l0] = f67_t c lf (fun (l0 : List T) (x40 : Int) (x41 : List T) => lpK c env lf 6 fi67 1 3 [] [0, 3, 4] (x67_3_0) lf (f67_0_c l0 x40 x41)) l0 := by kernel_rfl
theorem f67_eq (c : Orc) (lf : Nat) (l0 : List T) : funK c env lf 6 fi67 [.sl l0] = f67 c lf l0 := by
 refine (f67_raw c lf l0).trans ?_
 have e0 : (fun (l0 : List T) (x40 : Int) (x41 : List T) => lpK c env lf 6 fi67 1 3 [] [0, 3, 4] (x67_3_0) lf (f67_0_c l0 x40 x41)) = (fun (l0 : List T) (x40 : Int) (x41 : List T) => f67_0 c lf l0 lf x40 x41) := by funext l0 x40 x41; exact f67_0_eq c lf l0 lf x40 x41
 rw [e0]; rfl
def f54_t (c : Orc) (lf : Nat) (l0_0 : List T) (n0_1 : Int) (b0_2 : Bool) : Option (List T) :=
 (c 67 [T.sl l0_0]).bind fun r44 =>
 some [T.st [T.sl (asL (nth r44 0)), T.i .i64 n0_1, T.b b0_2]]
def f54 (c : Orc) (lf : Nat) (l0_0 : List T) (n0_1 : Int) (b0_2 : Bool) : Option (List T) := f54_t c lf l0_0 n0_1 b0_2
theorem f54_eq (c : Orc) (lf : Nat) (l0_0 : List T) (n0_1 : Int) (b0_2 : Bool) : funK c env lf 6 fi54 [.st [.sl l0_0, .i .i64 n0_1, .b b0_2]] = f54 c lf l0_0 n0_1 b0_2 := by kernel_rfl
def f41_0_s (c : Orc) (lf : Nat) (l0 : List T) (L : Int → List T → Option (List T)) (x51 : Int) (x52 : List T) : Option (List T) :=
 bif iLt x51 (l0.length : Int) then
  bif inR x51 l0.length then
  (c 54 [T.st [T.sl (asL (T.cell (l0.getD x51.toNat T.u) 0)), T.i .i64 (asI (T.cell (l0.getD x51.toNat T.u) 1)), T.b (asB (T.cell (l0.getD x51.toNat T.u) 2))]]).bind fun r53 =>
  bif inR x51 x52.length then
  L (IntKind.wrap .i64 (x51 + 1)) (x52.set x51.toNat (T.st [T.sl (asL (T.cell (nth r53 0) 0)), T.i .i64 (asI (T.cell (nth r53 0) 1)), T.b (asB (T.cell (nth r53 0) 2))]))
  else none
  else none
 else
  some [T.i .i64 0, T.sl x52]
def f41_0_c (l0 : List T) (x51 : Int) (x52 : List T) : CSt := ⟨[.ro 0 true [.sl true [.b, .sl false [.i .u8]], .i .i64, .b] l0, .rf 1 [] 0 none, .i .i64 x51], [.dead, .row true [.sl true [.b, .sl false [.i .u8]], .i .i64, .b] x52 0 false]⟩
theorem f41_0_round (c : Orc) (lf : Nat) (l0 : List T) (L : CSt → Option (List T)) (x51 : Int) (x52 : List T) :
 roundK c env lf 6 fi41 1 3 [] [0, 3, 4] (x41_3_0) L (f41_0_c l0 x51 x52) = f41_0_s c lf l0 (fun x51 x52 => L (f41_0_c l0 x51 x52)) x51 x52 := by kernel_rfl
def f41_0 (c : Orc) (lf : Nat) (l0 : List T) : Nat → Int → List T → Option (List T)
 | 0 => fun _ _ => none
 | n + 1 => fun x51 x52 => f41_0_s c lf l0 (f41_0 c lf l0 n) x51 x52
theorem f41_0_eq (c : Orc) (lf : Nat) (l0 : List T) (n : Nat) (x51 : Int) (x52 : List T) :
 lpK c env lf 6 fi41 1 3 [] [0, 3, 4] (x41_3_0) n (f41_0_c l0 x51 x52) = f41_0 c lf l0 n x51 x52 := by
 induction n generalizing x51 x52 with
 | zero => rfl
 | succ n ih =>
  refine (f41_0_round c lf l0 _ x51 x52).trans ?_
  have e : (fun x51 x52 => lpK c env lf 6 fi41 1 3 [] [0, 3, 4] (x41_3_0) n (f41_0_c l0 x51 x52)) = f41_0 c lf l0 n := by funext x51 x52; exact ih x51 x52
  show f41_0_s c lf l0 (fun x51 x52 => lpK c env lf 6 fi41 1 3 [] [0, 3, 4] (x41_3_0) n (f41_0_c l0 x51 x52)) x51 x52 = _
  rw [e]; rfl
def f41_t (c : Orc) (lf : Nat) (lp0 : List T → Int → List T → Option (List T)) (l0 : List T) : Option (List T) :=
 bif iLe 0 (l0.length : Int) && iLe (l0.length : Int) (LIM : Int) && ((l0.length : Int) == (l0.length : Int)) then
 (lp0 l0 0 (List.replicate (l0.length : Int).toNat (T.st [T.sl [], T.i .i64 0, T.b false]))).bind fun r54 =>
 some [T.sl (asL (nth r54 1))]
 else none
def f41 (c : Orc) (lf : Nat) (l0 : List T) : Option (List T) := f41_t c lf (fun (l0 : List T) (x51 : Int) (x52 : List T) => f41_0 c lf l0 lf x51 x52) l0
theorem f41_raw (c : Orc) (lf : Nat) (l0 : List T) : funK c env lf 6 fi41 [.sl l0] = f41_t c lf (fun (l0 : List T) (x51 : Int) (x52 : List T) => lpK c env lf 6 fi41 1 3 [] [0, 3, 4] (x41_3_0) lf (f41_0_c l0 x51 x52)) l0 := by kernel_rfl
theorem f41_eq (c : Orc) (lf : Nat) (l0 : List T) : funK c env lf 6 fi41 [.sl l0] = f41 c lf l0 := by
 refine (f41_raw c lf l0).trans ?_
 have e0 : (fun (l0 : List T) (x51 : Int) (x52 : List T) => lpK c env lf 6 fi41 1 3 [] [0, 3, 4] (x41_3_0) lf (f41_0_c l0 x51 x52)) = (fun (l0 : List T) (x51 : Int) (x52 : List T) => f41_0 c lf l0 lf x51 x52) := by funext l0 x51 x52; exact f41_0_eq c lf l0 lf x51 x52
 rw [e0]; rfl
def f27_t (c : Orc) (lf : Nat) (l0_0 : List T) : Option (List T) :=
 (c 41 [T.sl l0_0]).bind fun r55 =>
 some [T.st [T.sl (asL (nth r55 0))]]
def f27 (c : Orc) (lf : Nat) (l0_0 : List T) : Option (List T) := f27_t c lf l0_0
theorem f27_eq (c : Orc) (lf : Nat) (l0_0 : List T) : funK c env lf 6 fi27 [.st [.sl l0_0]] = f27 c lf l0_0 := by kernel_rfl
def f42_t (c : Orc) (lf : Nat) (n0_0 n0_1 n0_2 : Int) : Option (List T) :=
 some [T.st [T.i .i64 n0_0, T.i .i64 n0_1, T.i .i64 n0_2]]
def f42 (c : Orc) (lf : Nat) (n0_0 n0_1 n0_2 : Int) : Option (List T) := f42_t c lf n0_0 n0_1 n0_2
theorem f42_eq (c : Orc) (lf : Nat) (n0_0 n0_1 n0_2 : Int) : funK c env lf 6 fi42 [.st [.i .i64 n0_0, .i .i64 n0_1, .i .i64 n0_2]] = f42 c lf n0_0 n0_1 n0_2 := by kernel_rfl
def f28_0_s (c : Orc) (lf : Nat) (l0 : List T) (L : Int → List T → Option (List T)) (x62 : Int) (x63 : List T) : Option (List T) :=
 bif iLt x62 (l0.length : Int) then
  bif inR x62 l0.length then
  (c 42 [T.st [T.i .i64 (asI (T.cell (l0.getD x62.toNat T.u) 0)), T.i .i64 (asI (T.cell (l0.getD x62.toNat T.u) 1)), T.i .i64 (asI (T.cell (l0.getD x62.toNat T.u) 2))]]).bind fun r64 =>
  bif inR x62 x63.length then
  L (IntKind.wrap .i64 (x62 + 1)) (x63.set x62.toNat (T.st [T.i .i64 (asI (T.cell (nth r64 0) 0)), T.i .i64 (asI (T.cell (nth r64 0) 1)), T.i .i64 (asI (T.cell (nth r64 0) 2))]))
  else none
  else none
 else
  some [T.i .i64 0, T.sl x63]
def f28_0_c (l0 : List T) (x62 : Int) (x63 : List T) : CSt := ⟨[.ro 0 true [.i .i64, .i .i64, .i .i64] l0, .rf 1 [] 0 none, .i .i64 x62], [.dead, .row true [.i .i64, .i .i64, .i .i64] x63 0 false]⟩
theorem f28_0_round (c : Orc) (lf : Nat) (l0 : List T) (L : CSt → Option (List T)) (x62 : Int) (x63 : List T) :
 roundK c env lf 6 fi28 1 3 [] [0, 3, 4] (x28_3_0) L (f28_0_c l0 x62 x63) = f28_0_s c lf l0 (fun x62 x63 => L (f28_0_c l0 x62 x63)) x62 x63 := by kernel_rfl
def f28_0 (c : Orc) (lf : Nat) (l0 : List T) : Nat → Int → List T → Option (List T)
 | 0 => fun _ _ => none
 | n + 1 => fun x62 x63 => f28_0_s c lf l0 (f28_0 c lf l0 n) x62 x63
theorem f28_0_eq (c : Orc) (lf : Nat) (l0 : List T) (n : Nat) (x62 : Int) (x63 : List T) :
 lpK c env lf 6 fi28 1 3 [] [0, 3, 4] (x28_3_0) n (f28_0_c l0 x62 x63) = f28_0 c lf l0 n x62 x63 := by
 induction n generalizing x62 x63 with
 | zero => rfl
 | succ n ih =>
  refine (f28_0_round c lf l0 _ x62 x63).trans ?_
  have e : (fun x62 x63 => lpK c env lf 6 fi28 1 3 [] [0, 3, 4] (x28_3_0) n (f28_0_c l0 x62 x63)) = f28_0 c lf l0 n := by funext x62 x63; exact ih x62 x63
  show f28_0_s c lf l0 (fun x62 x63 => lpK c env lf 6 fi28 1 3 [] [0, 3, 4] (x28_3_0) n (f28_0_c l0 x62 x63)) x62 x63 = _
  rw [e]; rfl
def f28_t (c : Orc) (lf : Nat) (lp0 : List T → Int → List T → Option (List T)) (l0 : List T) : Option (List T) :=
 bif iLe 0 (l0.length : Int) && iLe (l0.length : Int) (LIM : Int) && ((l0.length : Int) == (l0.length : Int)) then
 (lp0 l0 0 (List.replicate (l0.length : Int).toNat (T.st [T.i .i64 0, T.i .i64 0, T.i .i64 0]))).bind fun r65 =>
 some [T.sl (asL (nth r65 1))]
 else none
def f28 (c : Orc) (lf : Nat) (l0 : List T) : Option (List T) := f28_t c lf (fun (l0 : List T) (x62 : Int) (x63 : List T) => f28_0 c lf l0 lf x62 x63) l0
theorem f28_raw (c : Orc) (lf : Nat) (l0 : List T) : funK c env lf 6 fi28 [.sl l0] = f28_t c lf (fun (l0 : List T) (x62 : Int) (x63 : List T) => lpK c env lf 6 fi28 1 3 [] [0, 3, 4] (x28_3_0) lf (f28_0_c l0 x62 x63)) l0 := by kernel_rfl
theorem f28_eq (c : Orc) (lf : Nat) (l0 : List T) : funK c env lf 6 fi28 [.sl l0] = f28 c lf l0 := by
 refine (f28_raw c lf l0).trans ?_
 have e0 : (fun (l0 : List T) (x62 : Int) (x63 : List T) => lpK c env lf 6 fi28 1 3 [] [0, 3, 4] (x28_3_0) lf (f28_0_c l0 x62 x63)) = (fun (l0 : List T) (x62 : Int) (x63 : List T) => f28_0 c lf l0 lf x62 x63) := by funext l0 x62 x63; exact f28_0_eq c lf l0 lf x62 x63
 rw [e0]; rfl
def f15_t (c : Orc) (lf : Nat) (l0_0 : List T) (n0_1 : Int) (l0_2 : List T) (b0_3 : Bool) : Option (List T) :=
 (c 27 [T.st [T.sl l0_0]]).bind fun r66 =>
 (c 28 [T.sl l0_2]).bind fun r67 =>
 some [T.st [T.sl (asL (T.cell (nth r66 0) 0)), T.i .i64 n0_1, T.sl (asL (nth r67 0)), T.b b0_3]]
def f15 (c : Orc) (lf : Nat) (l0_0 : List T) (n0_1 : Int) (l0_2 : List T) (b0_3 : Bool) : Option (List T) := f15_t c lf l0_0 n0_1 l0_2 b0_3
theorem f15_eq (c : Orc) (lf : Nat) (l0_0 : List T) (n0_1 : Int) (l0_2 : List T) (b0_3 : Bool) : funK c env lf 6 fi15 [.st [.sl l0_0, .i .i64 n0_1, .sl l0_2, .b b0_3]] = f15 c lf l0_0 n0_1 l0_2 b0_3 := by kernel_rfl
def f6_t (c : Orc) (lf : Nat) (l0_0 : List T) (n0_1 : Int) (l0_2 : List T) (b0_3 : Bool) (n0_4 : Int) : Option (List T) :=
 (c 15 [T.st [T.sl l0_0, T.i .i64 n0_1, T.sl l0_2, T.b b0_3]]).bind fun r68 =>
 some [T.st [T.sl (asL (T.cell (nth r68 0) 0)), T.i .i64 (asI (T.cell (nth r68 0) 1)), T.sl (asL (T.cell (nth r68 0) 2)), T.b (asB (T.cell (nth r68 0) 3)), T.i .i64 n0_4]]
def f6 (c : Orc) (lf : Nat) (l0_0 : List T) (n0_1 : Int) (l0_2 : List T) (b0_3 : Bool) (n0_4 : Int) : Option (List T) := f6_t c lf l0_0 n0_1 l0_2 b0_3 n0_4
theorem f6_eq (c : Orc) (lf : Nat) (l0_0 : List T) (n0_1 : Int) (l0_2 : List T) (b0_3 : Bool) (n0_4 : Int) : funK c env lf 6 fi6 [.st [.sl l0_0, .i .i64 n0_1, .sl l0_2, .b b0_3, .i .i64 n0_4]] = f6 c lf l0_0 n0_1 l0_2 b0_3 n0_4 := by kernel_rfl
def f25_t (c : Orc) (lf : Nat) (l0_0 : List T) (n1 n2 : Int) : Option (List T) :=
 bif iLt n1 0 then
  some [T.sl ([] : List T), T.b false]
 else
  bif iLe (l0_0.length : Int) n1 then
   some [T.sl ([] : List T), T.b false]
  else
   bif iLt n2 0 then
    some [T.sl ([] : List T), T.b false]
   else
    bif inR n1 l0_0.length then
    bif iLe ((asL (T.cell (l0_0.getD n1.toNat T.u) 0)).length : Int) n2 then
     some [T.sl ([] : List T), T.b false]
    else
     bif inR n1 l0_0.length then
     bif inR n2 ((asL (T.cell (l0_0.getD n1.toNat T.u) 0)).length) then
     bif !(asB (T.cell ((asL (T.cell (l0_0.getD n1.toNat T.u) 0)).getD n2.toNat T.u) 0)) then
      some [T.sl ([] : List T), T.b false]
     else
      bif inR n1 l0_0.length then
      bif inR n2 ((asL (T.cell (l0_0.getD n1.toNat T.u) 0)).length) then
      bif nLe (([] : List T).length + (asL (T.cell ((asL (T.cell (l0_0.getD n1.toNat T.u) 0)).getD n2.toNat T.u) 1)).length) LIM then
      some [T.sl (([] : List T) ++ (asL (T.cell ((asL (T.cell (l0_0.getD n1.toNat T.u) 0)).getD n2.toNat T.u) 1))), T.b true]
      else none
      else none
      else none
     else none
     else none
    else none
def f25 (c : Orc) (lf : Nat) (l0_0 : List T) (n1 n2 : Int) : Option (List T) := f25_t c lf l0_0 n1 n2
theorem f25_eq (c : Orc) (lf : Nat) (l0_0 : List T) (n1 n2 : Int) : funK c env lf 6 fi25 [.st [.sl l0_0], .i .i64 n1, .i .i64 n2] = f25 c lf l0_0 n1 n2 := by kernel_rfl
def f51_0_s (c : Orc) (lf : Nat) (l0 : List T) (n1 : Int) (L : Int → Int → Option (List T)) (x72 x73 : Int) : Option (List T) :=
 bif iLt x73 3 then
  bif iLe 0 n1 then
   bif iLt n1 (l0.length : Int) then
    bif iLt (IntKind.wrap .i64 (n1 + x73)) (l0.length : Int) then
     bif inR (IntKind.wrap .i64 (n1 + x73)) l0.length then
     bif iLe 0 (IntKind.wrap .u64 (IntKind.wrap .i64 (7 * x73))) then
     bif iLt 127 (IntKind.wrap .i64 (asI (l0.getD ((IntKind.wrap .i64 (n1 + x73)).toNat) T.u))) then
      L (intBits .or .i64 x72 (shiftI .shl .i64 (intBits .and .i64 (IntKind.wrap .i64 (asI (l0.getD ((IntKind.wrap .i64 (n1 + x73)).toNat) T.u))) 127) (IntKind.wrap .u64 (IntKind.wrap .i64 (7 * x73))))) (IntKind.wrap .i64 (x73 + 1))
     else
      bif iLt 0 x73 then
       bif (IntKind.wrap .i64 (asI (l0.getD ((IntKind.wrap .i64 (n1 + x73)).toNat) T.u))) == 0 then
        some [T.i .i64 0, T.i .i64 0, T.i .i64 0, T.b false]
       else
        bif iLt 1000000 (intBits .or .i64 x72 (shiftI .shl .i64 (intBits .and .i64 (IntKind.wrap .i64 (asI (l0.getD ((IntKind.wrap .i64 (n1 + x73)).toNat) T.u))) 127) (IntKind.wrap .u64 (IntKind.wrap .i64 (7 * x73))))) then
         some [T.i .i64 0, T.i .i64 0, T.i .i64 0, T.b false]
        else
         some [T.i .i64 0, T.i .i64 (intBits .or .i64 x72 (shiftI .shl .i64 (intBits .and .i64 (IntKind.wrap .i64 (asI (l0.getD ((IntKind.wrap .i64 (n1 + x73)).toNat) T.u))) 127) (IntKind.wrap .u64 (IntKind.wrap .i64 (7 * x73))))), T.i .i64 (IntKind.wrap .i64 ((IntKind.wrap .i64 (n1 + x73)) + 1)), T.b true]
      else
       bif iLt 1000000 (intBits .or .i64 x72 (shiftI .shl .i64 (intBits .and .i64 (IntKind.wrap .i64 (asI (l0.getD ((IntKind.wrap .i64 (n1 + x73)).toNat) T.u))) 127) (IntKind.wrap .u64 (IntKind.wrap .i64 (7 * x73))))) then
        some [T.i .i64 0, T.i .i64 0, T.i .i64 0, T.b false]
       else
        some [T.i .i64 0, T.i .i64 (intBits .or .i64 x72 (shiftI .shl .i64 (intBits .and .i64 (IntKind.wrap .i64 (asI (l0.getD ((IntKind.wrap .i64 (n1 + x73)).toNat) T.u))) 127) (IntKind.wrap .u64 (IntKind.wrap .i64 (7 * x73))))), T.i .i64 (IntKind.wrap .i64 ((IntKind.wrap .i64 (n1 + x73)) + 1)), T.b true]
     else none
     else none
    else
     some [T.i .i64 1]
   else
    some [T.i .i64 1]
  else
   some [T.i .i64 1]
 else
  some [T.i .i64 1]
def f51_0_c (l0 : List T) (n1 x72 x73 : Int) : CSt := ⟨[.ro 0 false [.i .u8] l0, .i .i64 n1, .i .i64 x72, .i .i64 x73], [.dead, .dead]⟩
theorem f51_0_round (c : Orc) (lf : Nat) (l0 : List T) (n1 : Int) (L : CSt → Option (List T)) (x72 x73 : Int) :
 roundK c env lf 6 fi51 2 3 [] [0, 1, 7, 8] (x51_3_0) L (f51_0_c l0 n1 x72 x73) = f51_0_s c lf l0 n1 (fun x72 x73 => L (f51_0_c l0 n1 x72 x73)) x72 x73 := by kernel_rfl
def f51_0 (c : Orc) (lf : Nat) (l0 : List T) (n1 : Int) : Nat → Int → Int → Option (List T)
 | 0 => fun _ _ => none
 | n + 1 => fun x72 x73 => f51_0_s c lf l0 n1 (f51_0 c lf l0 n1 n) x72 x73
theorem f51_0_u (c : Orc) (lf : Nat) (l0 : List T) (n1 : Int) (n : Nat) (x72 x73 : Int) : f51_0 c lf l0 n1 (n + 1) x72 x73 = f51_0_s c lf l0 n1 (f51_0 c lf l0 n1 n) x72 x73 := rfl
theorem f51_0_eq (c : Orc) (lf : Nat) (l0 : List T) (n1 : Int) (n : Nat) (x72 x73 : Int) :
 lpK c env lf 6 fi51 2 3 [] [0, 1, 7, 8] (x51_3_0) n (f51_0_c l0 n1 x72 x73) = f51_0 c lf l0 n1 n x72 x73 := by
 induction n generalizing x72 x73 with
 | zero => rfl
 | succ n ih =>
  refine (f51_0_round c lf l0 n1 _ x72 x73).trans ?_
  have e : (fun x72 x73 => lpK c env lf 6 fi51 2 3 [] [0, 1, 7, 8] (x51_3_0) n (f51_0_c l0 n1 x72 x73)) = f51_0 c lf l0 n1 n := by funext x72 x73; exact ih x72 x73
  show f51_0_s c lf l0 n1 (fun x72 x73 => lpK c env lf 6 fi51 2 3 [] [0, 1, 7, 8] (x51_3_0) n (f51_0_c l0 n1 x72 x73)) x72 x73 = _
  rw [e]; rfl
def f51_t (c : Orc) (lf : Nat) (lp0 : List T → Int → Int → Int → Option (List T)) (l0 : List T) (n1 : Int) : Option (List T) :=
 (lp0 l0 n1 0 0).bind fun r74 =>
 bif asI (nth r74 0) == 0 then
  some [T.i .i64 (asI (nth r74 1)), T.i .i64 (asI (nth r74 2)), T.b (asB (nth r74 3))]
 else
  some [T.i .i64 0, T.i .i64 0, T.b false]
def f51 (c : Orc) (lf : Nat) (l0 : List T) (n1 : Int) : Option (List T) := f51_t c lf (fun (l0 : List T) (n1 x72 x73 : Int) => f51_0 c lf l0 n1 lf x72 x73) l0 n1
theorem f51_raw (c : Orc) (lf : Nat) (l0 : List T) (n1 : Int) : funK c env lf 6 fi51 [.sl l0, .i .i64 n1] = f51_t c lf (fun (l0 : List T) (n1 x72 x73 : Int) => lpK c env lf 6 fi51 2 3 [] [0, 1, 7, 8] (x51_3_0) lf (f51_0_c l0 n1 x72 x73)) l0 n1 := by kernel_rfl
theorem f51_eq (c : Orc) (lf : Nat) (l0 : List T) (n1 : Int) : funK c env lf 6 fi51 [.sl l0, .i .i64 n1] = f51 c lf l0 n1 := by
 refine (f51_raw c lf l0 n1).trans ?_
 have e0 : (fun (l0 : List T) (n1 x72 x73 : Int) => lpK c env lf 6 fi51 2 3 [] [0, 1, 7, 8] (x51_3_0) lf (f51_0_c l0 n1 x72 x73)) = (fun (l0 : List T) (n1 x72 x73 : Int) => f51_0 c lf l0 n1 lf x72 x73) := by funext l0 n1 x72 x73; exact f51_0_eq c lf l0 n1 lf x72 x73
 rw [e0]; rfl
def f37_t (c : Orc) (lf : Nat) (l0_0 : List T) (n0_1 : Int) (b0_2 : Bool) : Option (List T) :=
 (c 51 [T.sl l0_0, T.i .i64 n0_1]).bind fun r75 =>
 bif b0_2 then
  some [T.i .i64 0, T.st [T.sl l0_0, T.i .i64 n0_1, T.b true]]
 else
  bif !(asB (nth r75 2)) then
   some [T.i .i64 0, T.st [T.sl l0_0, T.i .i64 n0_1, T.b true]]
  else
   some [T.i .i64 (asI (nth r75 0)), T.st [T.sl l0_0, T.i .i64 (asI (nth r75 1)), T.b b0_2]]
def f37 (c : Orc) (lf : Nat) (l0_0 : List T) (n0_1 : Int) (b0_2 : Bool) : Option (List T) := f37_t c lf l0_0 n0_1 b0_2
theorem f37_eq (c : Orc) (lf : Nat) (l0_0 : List T) (n0_1 : Int) (b0_2 : Bool) : funK c env lf 6 fi37 [.st [.sl l0_0, .i .i64 n0_1, .b b0_2]] = f37 c lf l0_0 n0_1 b0_2 := by kernel_rfl
def f52_t (c : Orc) (lf : Nat) (l0 : List T) (n1 : Int) : Option (List T) :=
 (c 51 [T.sl l0, T.i .i64 n1]).bind fun r76 =>
 bif !(asB (nth r76 2)) then
  some [T.s (⟨#[]⟩ : ByteArray), T.i .i64 0, T.b false]
 else
  bif iLt (IntKind.wrap .i64 ((l0.length : Int) - (asI (nth r76 1)))) (asI (nth r76 0)) then
   some [T.s (⟨#[]⟩ : ByteArray), T.i .i64 0, T.b false]
  else
   bif iLe 0 (asI (nth r76 1)) && iLe (asI (nth r76 1)) (IntKind.wrap .i64 ((asI (nth r76 1)) + (asI (nth r76 0)))) && iLe (IntKind.wrap .i64 ((asI (nth r76 1)) + (asI (nth r76 0)))) (l0.length : Int) then
   some [T.s (bytesOf ((l0.drop ((asI (nth r76 1)).toNat)).take (((IntKind.wrap .i64 ((asI (nth r76 1)) + (asI (nth r76 0)))).toNat) - ((asI (nth r76 1)).toNat)))), T.i .i64 (IntKind.wrap .i64 ((asI (nth r76 1)) + (asI (nth r76 0)))), T.b true]
   else none
def f52 (c : Orc) (lf : Nat) (l0 : List T) (n1 : Int) : Option (List T) := f52_t c lf l0 n1
theorem f52_eq (c : Orc) (lf : Nat) (l0 : List T) (n1 : Int) : funK c env lf 6 fi52 [.sl l0, .i .i64 n1] = f52 c lf l0 n1 := by kernel_rfl
def f38_t (c : Orc) (lf : Nat) (l0_0 : List T) (n0_1 : Int) (b0_2 : Bool) : Option (List T) :=
 (c 52 [T.sl l0_0, T.i .i64 n0_1]).bind fun r77 =>
 bif b0_2 then
  some [T.s (⟨#[]⟩ : ByteArray), T.st [T.sl l0_0, T.i .i64 n0_1, T.b true]]
 else
  bif !(asB (nth r77 2)) then
   some [T.s (⟨#[]⟩ : ByteArray), T.st [T.sl l0_0, T.i .i64 n0_1, T.b true]]
  else
   some [T.s (asS (nth r77 0)), T.st [T.sl l0_0, T.i .i64 (asI (nth r77 1)), T.b b0_2]]
def f38 (c : Orc) (lf : Nat) (l0_0 : List T) (n0_1 : Int) (b0_2 : Bool) : Option (List T) := f38_t c lf l0_0 n0_1 b0_2
theorem f38_eq (c : Orc) (lf : Nat) (l0_0 : List T) (n0_1 : Int) (b0_2 : Bool) : funK c env lf 6 fi38 [.st [.sl l0_0, .i .i64 n0_1, .b b0_2]] = f38 c lf l0_0 n0_1 b0_2 := by kernel_rfl
def f39_1_s (c : Orc) (lf : Nat) (x91 : List T) (x93 : Int) (L : Int → Int → Option (List T)) (x94 x95 : Int) : Option (List T) :=
 bif iLt x95 8 then
  bif (intBits .and .i64 x94 1) == 1 then
   L (intBits .xor .i64 (shiftI .shr .i64 x94 1) 2197175160) (IntKind.wrap .i64 (x95 + 1))
  else
   L (shiftI .shr .i64 x94 1) (IntKind.wrap .i64 (x95 + 1))
 else
  some [T.i .i64 0, T.sl x91, T.i .i64 x94, T.i .i64 x93]
def f39_1_c (x91 : List T) (x93 x94 x95 : Int) : CSt := ⟨[.ro 0 false [.i .u8] x91, .i .i64 x94, .i .i64 x93, .i .i64 x95], [.dead]⟩
theorem f39_1_round (c : Orc) (lf : Nat) (x91 : List T) (x93 : Int) (L : CSt → Option (List T)) (x94 x95 : Int) :
 roundK c env lf 6 fi39 1 7 [] [0, 3, 4, 5] (x39_7_0) L (f39_1_c x91 x93 x94 x95) = f39_1_s c lf x91 x93 (fun x94 x95 => L (f39_1_c x91 x93 x94 x95)) x94 x95 := by kernel_rfl
def f39_1 (c : Orc) (lf : Nat) (x91 : List T) (x93 : Int) : Nat → Int → Int → Option (List T)
 | 0 => fun _ _ => none
 | n + 1 => fun x94 x95 => f39_1_s c lf x91 x93 (f39_1 c lf x91 x93 n) x94 x95
theorem f39_1_u (c : Orc) (lf : Nat) (x91 : List T) (x93 : Int) (n : Nat) (x94 x95 : Int) : f39_1 c lf x91 x93 (n + 1) x94 x95 = f39_1_s c lf x91 x93 (f39_1 c lf x91 x93 n) x94 x95 := rfl
theorem f39_1_eq (c : Orc) (lf : Nat) (x91 : List T) (x93 : Int) (n : Nat) (x94 x95 : Int) :
 lpK c env lf 6 fi39 1 7 [] [0, 3, 4, 5] (x39_7_0) n (f39_1_c x91 x93 x94 x95) = f39_1 c lf x91 x93 n x94 x95 := by
 induction n generalizing x94 x95 with
 | zero => rfl
 | succ n ih =>
  refine (f39_1_round c lf x91 x93 _ x94 x95).trans ?_
  have e : (fun x94 x95 => lpK c env lf 6 fi39 1 7 [] [0, 3, 4, 5] (x39_7_0) n (f39_1_c x91 x93 x94 x95)) = f39_1 c lf x91 x93 n := by funext x94 x95; exact ih x94 x95
  show f39_1_s c lf x91 x93 (fun x94 x95 => lpK c env lf 6 fi39 1 7 [] [0, 3, 4, 5] (x39_7_0) n (f39_1_c x91 x93 x94 x95)) x94 x95 = _
  rw [e]; rfl
def f39_0_s (c : Orc) (lf : Nat) (L : List T → Int → Int → Option (List T)) (lp0 : List T → Int → Int → Int → Option (List T)) (x91 : List T) (x92 x93 : Int) : Option (List T) :=
 bif iLt x93 (x91.length : Int) then
  bif inR x93 x91.length then
  (lp0 x91 x93 (intBits .xor .i64 x92 (IntKind.wrap .i64 (asI (x91.getD x93.toNat T.u)))) 0).bind fun r96 =>
  L (asL (nth r96 1)) (asI (nth r96 2)) (IntKind.wrap .i64 ((asI (nth r96 3)) + 1))
  else none
 else
  some [T.i .i64 0, T.i .i64 x92]
def f39_0_c (x91 : List T) (x92 x93 : Int) : CSt := ⟨[.ro 0 false [.i .u8] x91, .i .i64 x92, .i .i64 x93], [.dead]⟩
theorem f39_0_round (c : Orc) (lf : Nat) (L : CSt → Option (List T)) (x91 : List T) (x92 x93 : Int) :
 roundK c env lf 6 fi39 1 3 [] [0, 3, 4] (x39_3_0) L (f39_0_c x91 x92 x93) = f39_0_s c lf (fun x91 x92 x93 => L (f39_0_c x91 x92 x93)) (fun (x91 : List T) (x93 x94 x95 : Int) => lpK c env lf 6 fi39 1 7 [] [0, 3, 4, 5] (x39_7_0) lf (f39_1_c x91 x93 x94 x95)) x91 x92 x93 := by kernel_rfl
def f39_0 (c : Orc) (lf : Nat) : Nat → List T → Int → Int → Option (List T)
 | 0 => fun _ _ _ => none
 | n + 1 => fun x91 x92 x93 => f39_0_s c lf (f39_0 c lf n) (fun (x91 : List T) (x93 x94 x95 : Int) => f39_1 c lf x91 x93 lf x94 x95) x91 x92 x93
theorem f39_0_u (c : Orc) (lf n : Nat) (x91 : List T) (x92 x93 : Int) : f39_0 c lf (n + 1) x91 x92 x93 = f39_0_s c lf (f39_0 c lf n) (fun (x91 : List T) (x93 x94 x95 : Int) => f39_1 c lf x91 x93 lf x94 x95) x91 x92 x93 := rfl
theorem f39_0_eq (c : Orc) (lf n : Nat) (x91 : List T) (x92 x93 : Int) :
 lpK c env lf 6 fi39 1 3 [] [0, 3, 4] (x39_3_0) n (f39_0_c x91 x92 x93) = f39_0 c lf n x91 x92 x93 := by
 induction n generalizing x91 x92 x93 with
 | zero => rfl
 | succ n ih =>
  refine (f39_0_round c lf _ x91 x92 x93).trans ?_
  have e : (fun x91 x92 x93 => lpK c env lf 6 fi39 1 3 [] [0, 3, 4] (x39_3_0) n (f39_0_c x91 x92 x93)) = f39_0 c lf n := by funext x91 x92 x93; exact ih x91 x92 x93
  have e0 : (fun (x91 : List T) (x93 x94 x95 : Int) => lpK c env lf 6 fi39 1 7 [] [0, 3, 4, 5] (x39_7_0) lf (f39_1_c x91 x93 x94 x95)) = (fun (x91 : List T) (x93 x94 x95 : Int) => f39_1 c lf x91 x93 lf x94 x95) := by funext x91 x93 x94 x95; exact f39_1_eq c lf x91 x93 lf x94 x95
  show f39_0_s c lf (fun x91 x92 x93 => lpK c env lf 6 fi39 1 3 [] [0, 3, 4] (x39_3_0) n (f39_0_c x91 x92 x93)) (fun (x91 : List T) (x93 x94 x95 : Int) => lpK c env lf 6 fi39 1 7 [] [0, 3, 4, 5] (x39_7_0) lf (f39_1_c x91 x93 x94 x95)) x91 x92 x93 = _
  rw [e, e0]; rfl
def f39_t (c : Orc) (lf : Nat) (lp0 : List T → Int → Int → Option (List T)) (l0 : List T) : Option (List T) :=
 (lp0 l0 4294967295 0).bind fun r97 =>
 some [T.i .i64 (intBits .xor .i64 (asI (nth r97 1)) 4294967295)]
def f39 (c : Orc) (lf : Nat) (l0 : List T) : Option (List T) := f39_t c lf (fun (x91 : List T) (x92 x93 : Int) => f39_0 c lf lf x91 x92 x93) l0
theorem f39_raw (c : Orc) (lf : Nat) (l0 : List T) : funK c env lf 6 fi39 [.sl l0] = f39_t c lf (fun (x91 : List T) (x92 x93 : Int) => lpK c env lf 6 fi39 1 3 [] [0, 3, 4] (x39_3_0) lf (f39_0_c x91 x92 x93)) l0 := by kernel_rfl
theorem f39_eq (c : Orc) (lf : Nat) (l0 : List T) : funK c env lf 6 fi39 [.sl l0] = f39 c lf l0 := by
 refine (f39_raw c lf l0).trans ?_
 have e0 : (fun (x91 : List T) (x92 x93 : Int) => lpK c env lf 6 fi39 1 3 [] [0, 3, 4] (x39_3_0) lf (f39_0_c x91 x92 x93)) = (fun (x91 : List T) (x92 x93 : Int) => f39_0 c lf lf x91 x92 x93) := by funext x91 x92 x93; exact f39_0_eq c lf lf x91 x92 x93
 rw [e0]; rfl
def f53_t (c : Orc) (lf : Nat) (n0 n1 n2 : Int) : Option (List T) :=
 bif iLe n1 n0 then
  some [T.b (iLe n0 n2)]
 else
  some [T.b false]
def f53 (c : Orc) (lf : Nat) (n0 n1 n2 : Int) : Option (List T) := f53_t c lf n0 n1 n2
theorem f53_eq (c : Orc) (lf : Nat) (n0 n1 n2 : Int) : funK c env lf 6 fi53 [.i .i64 n0, .i .i64 n1, .i .i64 n2] = f53 c lf n0 n1 n2 := by kernel_rfl
def f40_t (c : Orc) (lf : Nat) (n0_0 n0_1 : Int) (l0_2 : List T) : Option (List T) :=
 (c 53 [T.i .i64 n0_0, T.i .i64 1, T.i .i64 4]).bind fun r98 =>
 bif asB (nth r98 0) then
  (c 53 [T.i .i64 n0_1, T.i .i64 0, T.i .i64 1000000]).bind fun r99 =>
  bif asB (nth r99 0) then
   some [T.b (iLe (l0_2.length : Int) 380)]
  else
   some [T.b false]
 else
  some [T.b false]
def f40 (c : Orc) (lf : Nat) (n0_0 n0_1 : Int) (l0_2 : List T) : Option (List T) := f40_t c lf n0_0 n0_1 l0_2
theorem f40_eq (c : Orc) (lf : Nat) (n0_0 n0_1 : Int) (l0_2 : List T) : funK c env lf 6 fi40 [.st [.i .i64 n0_0, .i .i64 n0_1, .sl l0_2]] = f40 c lf n0_0 n0_1 l0_2 := by kernel_rfl
def f26_0_s (c : Orc) (lf : Nat) (l0 : List T) (L : Int → Int → Option (List T)) (x108 x109 : Int) : Option (List T) :=
 bif iLt x109 (l0.length : Int) then
  bif inR x109 l0.length then
  L (intBits .or .i64 (shiftI .shl .i64 x108 8) (IntKind.wrap .i64 (asI (l0.getD x109.toNat T.u)))) (IntKind.wrap .i64 (x109 + 1))
  else none
 else
  some [T.i .i64 0, T.sl l0, T.i .i64 (IntKind.wrap .i64 ((l0.length : Int) - 4)), T.i .i64 x108, T.i .i64 0, T.i .i64 0, T.sl ([] : List T)]
def f26_0_c (l0 : List T) (x108 x109 : Int) : CSt := ⟨[.ro 0 false [.i .u8] l0, .bp 1 0, .i .i64 (IntKind.wrap .i64 ((l0.length : Int) - 4)), .i .i64 x108, .i .i64 x109], [.dead, .box [.i .i64 0, .i .i64 0, .rf 2 [] 0 none], .row false [.i .u8] ([] : List T) 0 false]⟩
theorem f26_0_round (c : Orc) (lf : Nat) (l0 : List T) (L : CSt → Option (List T)) (x108 x109 : Int) :
 roundK c env lf 6 fi26 1 6 [] [0, 2, 4, 5, 6] (x26_6_0) L (f26_0_c l0 x108 x109) = f26_0_s c lf l0 (fun x108 x109 => L (f26_0_c l0 x108 x109)) x108 x109 := by kernel_rfl
def f26_0 (c : Orc) (lf : Nat) (l0 : List T) : Nat → Int → Int → Option (List T)
 | 0 => fun _ _ => none
 | n + 1 => fun x108 x109 => f26_0_s c lf l0 (f26_0 c lf l0 n) x108 x109
theorem f26_0_u (c : Orc) (lf : Nat) (l0 : List T) (n : Nat) (x108 x109 : Int) : f26_0 c lf l0 (n + 1) x108 x109 = f26_0_s c lf l0 (f26_0 c lf l0 n) x108 x109 := rfl
theorem f26_0_eq (c : Orc) (lf : Nat) (l0 : List T) (n : Nat) (x108 x109 : Int) :
 lpK c env lf 6 fi26 1 6 [] [0, 2, 4, 5, 6] (x26_6_0) n (f26_0_c l0 x108 x109) = f26_0 c lf l0 n x108 x109 := by
 induction n generalizing x108 x109 with
 | zero => rfl
 | succ n ih =>
  refine (f26_0_round c lf l0 _ x108 x109).trans ?_
  have e : (fun x108 x109 => lpK c env lf 6 fi26 1 6 [] [0, 2, 4, 5, 6] (x26_6_0) n (f26_0_c l0 x108 x109)) = f26_0 c lf l0 n := by funext x108 x109; exact ih x108 x109
  show f26_0_s c lf l0 (fun x108 x109 => lpK c env lf 6 fi26 1 6 [] [0, 2, 4, 5, 6] (x26_6_0) n (f26_0_c l0 x108 x109)) x108 x109 = _
  rw [e]; rfl
def f26_t (c : Orc) (lf : Nat) (lp0 : List T → Int → Int → Option (List T)) (l0 : List T) : Option (List T) :=
 bif iLt (IntKind.wrap .i64 ((l0.length : Int) - 4)) 0 then
  some [T.st [T.i .i64 0, T.i .i64 0, T.sl []], T.b false]
 else
  (lp0 l0 0 (IntKind.wrap .i64 ((l0.length : Int) - 4))).bind fun r110 =>
  bif iLe 0 (asI (nth r110 2)) && iLe (asI (nth r110 2)) ((asL (nth r110 1)).length : Int) then
  (c 37 [T.st [T.sl ((asL (nth r110 1)).take ((asI (nth r110 2)).toNat)), T.i .i64 0, T.b false]]).bind fun r111 =>
  (c 37 [T.st [T.sl ((asL (nth r110 1)).take ((asI (nth r110 2)).toNat)), T.i .i64 (asI (T.cell (nth r111 1) 1)), T.b (asB (T.cell (nth r111 1) 2))]]).bind fun r112 =>
  (c 38 [T.st [T.sl ((asL (nth r110 1)).take ((asI (nth r110 2)).toNat)), T.i .i64 (asI (T.cell (nth r112 1) 1)), T.b (asB (T.cell (nth r112 1) 2))]]).bind fun r113 =>
  bif nLe (asS (nth r113 0)).size LIM then
  bif asB (T.cell (nth r113 1) 2) then
   some [T.st [T.i .i64 0, T.i .i64 0, T.sl []], T.b false]
  else
   bif (asI (T.cell (nth r113 1) 1)) != (asI (nth r110 2)) then
    some [T.st [T.i .i64 0, T.i .i64 0, T.sl []], T.b false]
   else
    bif iLe 0 (asI (nth r110 2)) && iLe (asI (nth r110 2)) ((asL (nth r110 1)).length : Int) then
    (c 39 [T.sl ((asL (nth r110 1)).take ((asI (nth r110 2)).toNat))]).bind fun r114 =>
    bif (asI (nth r110 3)) != (asI (nth r114 0)) then
     some [T.st [T.i .i64 0, T.i .i64 0, T.sl []], T.b false]
    else
     (c 40 [T.st [T.i .i64 (asI (nth r111 0)), T.i .i64 (asI (nth r112 0)), T.sl (listOf (asS (nth r113 0)))]]).bind fun r115 =>
     bif !(asB (nth r115 0)) then
      some [T.st [T.i .i64 0, T.i .i64 0, T.sl []], T.b false]
     else
      some [T.st [T.i .i64 (asI (nth r111 0)), T.i .i64 (asI (nth r112 0)), T.sl (listOf (asS (nth r113 0)))], T.b true]
    else none
  else none
  else none
def f26 (c : Orc) (lf : Nat) (l0 : List T) : Option (List T) := f26_t c lf (fun (l0 : List T) (x108 x109 : Int) => f26_0 c lf l0 lf x108 x109) l0
theorem f26_raw (c : Orc) (lf : Nat) (l0 : List T) : funK c env lf 6 fi26 [.sl l0] = f26_t c lf (fun (l0 : List T) (x108 x109 : Int) => lpK c env lf 6 fi26 1 6 [] [0, 2, 4, 5, 6] (x26_6_0) lf (f26_0_c l0 x108 x109)) l0 := by kernel_rfl
theorem f26_eq (c : Orc) (lf : Nat) (l0 : List T) : funK c env lf 6 fi26 [.sl l0] = f26 c lf l0 := by
 refine (f26_raw c lf l0).trans ?_
 have e0 : (fun (l0 : List T) (x108 x109 : Int) => lpK c env lf 6 fi26 1 6 [] [0, 2, 4, 5, 6] (x26_6_0) lf (f26_0_c l0 x108 x109)) = (fun (l0 : List T) (x108 x109 : Int) => f26_0 c lf l0 lf x108 x109) := by funext l0 x108 x109; exact f26_0_eq c lf l0 lf x108 x109
 rw [e0]; rfl
def f14_t (c : Orc) (lf : Nat) (l0_0 : List T) (n0_1 : Int) (l0_2 : List T) (b0_3 : Bool) (n0_4 n1 n2 : Int) : Option (List T) :=
 bif iLt n1 0 then
  some [T.st [T.i .i64 0, T.i .i64 0, T.sl []], T.b false]
 else
  (c 25 [T.st [T.sl l0_0], T.i .i64 (IntKind.wrap .i64 (n1.tdiv 8)), T.i .i64 (n1.tmod 8)]).bind fun r116 =>
  (c 26 [T.sl (asL (nth r116 0))]).bind fun r117 =>
  bif !(asB (nth r116 1)) then
   some [T.st [T.i .i64 0, T.i .i64 0, T.sl []], T.b false]
  else
   bif !(asB (nth r117 1)) then
    some [T.st [T.i .i64 0, T.i .i64 0, T.sl []], T.b false]
   else
    bif (asI (T.cell (nth r117 0) 0)) != n2 then
     some [T.st [T.i .i64 0, T.i .i64 0, T.sl []], T.b false]
    else
     some [T.st [T.i .i64 (asI (T.cell (nth r117 0) 0)), T.i .i64 (asI (T.cell (nth r117 0) 1)), T.sl (asL (T.cell (nth r117 0) 2))], T.b true]
def f14 (c : Orc) (lf : Nat) (l0_0 : List T) (n0_1 : Int) (l0_2 : List T) (b0_3 : Bool) (n0_4 n1 n2 : Int) : Option (List T) := f14_t c lf l0_0 n0_1 l0_2 b0_3 n0_4 n1 n2
theorem f14_eq (c : Orc) (lf : Nat) (l0_0 : List T) (n0_1 : Int) (l0_2 : List T) (b0_3 : Bool) (n0_4 n1 n2 : Int) : funK c env lf 6 fi14 [.st [.sl l0_0, .i .i64 n0_1, .sl l0_2, .b b0_3, .i .i64 n0_4], .i .i64 n1, .i .i64 n2] = f14 c lf l0_0 n0_1 l0_2 b0_3 n0_4 n1 n2 := by kernel_rfl
def f5_1_s (c : Orc) (lf : Nat) (r150 : List T) (x142 : Int) (x143 : List T) (x144 : Int) (x145 : List T) (x146 : Bool) (x147 : Int) (L : Int → List T → List T → Option (List T)) (x151 : Int) (x152 x153 : List T) : Option (List T) :=
 bif iLt 0 x151 then
  bif inR (IntKind.wrap .i64 (x151 - 1)) x153.length then
  bif iLt (asI (x153.getD ((IntKind.wrap .i64 (x151 - 1)).toNat) T.u)) (asI (T.cell (nth r150 0) 1)) then
   bif inR (IntKind.wrap .i64 (x151 - 1)) x152.length then
   bif inR x151 x152.length then
   bif inR (IntKind.wrap .i64 (x151 - 1)) x153.length then
   bif inR x151 x153.length then
   L (IntKind.wrap .i64 (x151 - 1)) (x152.set x151.toNat (T.i .i64 (asI (x152.getD ((IntKind.wrap .i64 (x151 - 1)).toNat) T.u)))) (x153.set x151.toNat (T.i .i64 (asI (x153.getD ((IntKind.wrap .i64 (x151 - 1)).toNat) T.u))))
   else none
   else none
   else none
   else none
  else
   some [T.i .i64 0, T.i .i64 x142, T.i .i64 x151, T.sl x143, T.i .i64 x144, T.sl x145, T.b x146, T.i .i64 x147, T.sl x152, T.sl x153, T.i .i64 (asI (T.cell (nth r150 0) 0)), T.i .i64 (asI (T.cell (nth r150 0) 1)), T.sl (asL (T.cell (nth r150 0) 2))]
  else none
 else
  some [T.i .i64 0, T.i .i64 x142, T.i .i64 x151, T.sl x143, T.i .i64 x144, T.sl x145, T.b x146, T.i .i64 x147, T.sl x152, T.sl x153, T.i .i64 (asI (T.cell (nth r150 0) 0)), T.i .i64 (asI (T.cell (nth r150 0) 1)), T.sl (asL (T.cell (nth r150 0) 2))]
def f5_1_c (r150 : List T) (x142 : Int) (x143 : List T) (x144 : Int) (x145 : List T) (x146 : Bool) (x147 x151 : Int) (x152 x153 : List T) : CSt := ⟨[.bp 5 0, .rf 6 [] 0 none, .rf 7 [] 0 none, .i .i64 x142, .bp 8 0, .i .i64 x151], [.dead, .dead, .dead, .dead, .dead, .box [.ro 0 true [.sl true [.b, .sl false [.i .u8]], .i .i64, .b] x143, .i .i64 x144, .ro 0 true [.i .i64, .i .i64, .i .i64] x145, .b x146, .i .i64 x147], .row false [.i .i64] x152 0 false, .row false [.i .i64] x153 0 false, .box [.i .i64 (asI (T.cell (nth r150 0) 0)), .i .i64 (asI (T.cell (nth r150 0) 1)), .rf 9 [] 0 none], .row false [.i .u8] (asL (T.cell (nth r150 0) 2)) 0 false]⟩
theorem f5_1_round (c : Orc) (lf : Nat) (r150 : List T) (x142 : Int) (x143 : List T) (x144 : Int) (x145 : List T) (x146 : Bool) (x147 : Int) (L : CSt → Option (List T)) (x151 : Int) (x152 x153 : List T) :
 roundK c env lf 6 fi5 5 11 [] [1, 3, 4, 5, 6, 8] (x5_11_0) L (f5_1_c r150 x142 x143 x144 x145 x146 x147 x151 x152 x153) = f5_1_s c lf r150 x142 x143 x144 x145 x146 x147 (fun x151 x152 x153 => L (f5_1_c r150 x142 x143 x144 x145 x146 x147 x151 x152 x153)) x151 x152 x153 := by kernel_rfl
def f5_1 (c : Orc) (lf : Nat) (r150 : List T) (x142 : Int) (x143 : List T) (x144 : Int) (x145 : List T) (x146 : Bool) (x147 : Int) : Nat → Int → List T → List T → Option (List T)
 | 0 => fun _ _ _ => none
 | n + 1 => fun x151 x152 x153 => f5_1_s c lf r150 x142 x143 x144 x145 x146 x147 (f5_1 c lf r150 x142 x143 x144 x145 x146 x147 n) x151 x152 x153
theorem f5_1_u (c : Orc) (lf : Nat) (r150 : List T) (x142 : Int) (x143 : List T) (x144 : Int) (x145 : List T) (x146 : Bool) (x147 : Int) (n : Nat) (x151 : Int) (x152 x153 : List T) : f5_1 c lf r150 x142 x143 x144 x145 x146 x147 (n + 1) x151 x152 x153 = f5_1_s c lf r150 x142 x143 x144 x145 x146 x147 (f5_1 c lf r150 x142 x143 x144 x145 x146 x147 n) x151 x152 x153 := rfl
theorem f5_1_eq (c : Orc) (lf : Nat) (r150 : List T) (x142 : Int) (x143 : List T) (x144 : Int) (x145 : List T) (x146 : Bool) (x147 : Int) (n : Nat) (x151 : Int) (x152 x153 : List T) :
 lpK c env lf 6 fi5 5 11 [] [1, 3, 4, 5, 6, 8] (x5_11_0) n (f5_1_c r150 x142 x143 x144 x145 x146 x147 x151 x152 x153) = f5_1 c lf r150 x142 x143 x144 x145 x146 x147 n x151 x152 x153 := by
 induction n generalizing x151 x152 x153 with
 | zero => rfl
 | succ n ih =>
  refine (f5_1_round c lf r150 x142 x143 x144 x145 x146 x147 _ x151 x152 x153).trans ?_
  have e : (fun x151 x152 x153 => lpK c env lf 6 fi5 5 11 [] [1, 3, 4, 5, 6, 8] (x5_11_0) n (f5_1_c r150 x142 x143 x144 x145 x146 x147 x151 x152 x153)) = f5_1 c lf r150 x142 x143 x144 x145 x146 x147 n := by funext x151 x152 x153; exact ih x151 x152 x153
  show f5_1_s c lf r150 x142 x143 x144 x145 x146 x147 (fun x151 x152 x153 => lpK c env lf 6 fi5 5 11 [] [1, 3, 4, 5, 6, 8] (x5_11_0) n (f5_1_c r150 x142 x143 x144 x145 x146 x147 x151 x152 x153)) x151 x152 x153 = _
  rw [e]; rfl
def f5_0_s (c : Orc) (lf : Nat) (L : Int → List T → Int → List T → Bool → Int → List T → List T → Option (List T)) (lp0 : List T → Int → List T → Int → List T → Bool → Int → Int → List T → List T → Option (List T)) (x142 : Int) (x143 : List T) (x144 : Int) (x145 : List T) (x146 : Bool) (x147 : Int) (x148 x149 : List T) : Option (List T) :=
 bif iLt x142 (IntKind.wrap .i64 ((x143.length : Int) * 8)) then
  (c 14 [T.st [T.sl x143, T.i .i64 x144, T.sl x145, T.b x146, T.i .i64 x147], T.i .i64 x142, T.i .i64 4]).bind fun r150 =>
  bif !(asB (nth r150 1)) then
   L (IntKind.wrap .i64 (x142 + 1)) x143 x144 x145 x146 x147 x148 x149
  else
   bif nLe (x148.length + ([T.i .i64 x142] : List T).length) LIM then
   bif nLe (x149.length + ([T.i .i64 (asI (T.cell (nth r150 0) 1))] : List T).length) LIM then
   (lp0 r150 x142 x143 x144 x145 x146 x147 (x148.length : Int) (x148 ++ ([T.i .i64 x142] : List T)) (x149 ++ ([T.i .i64 (asI (T.cell (nth r150 0) 1))] : List T))).bind fun r154 =>
   bif inR (asI (nth r154 2)) ((asL (nth r154 8)).length) then
   bif inR (asI (nth r154 2)) ((asL (nth r154 9)).length) then
   L (IntKind.wrap .i64 ((asI (nth r154 1)) + 1)) (asL (nth r154 3)) (asI (nth r154 4)) (asL (nth r154 5)) (asB (nth r154 6)) (asI (nth r154 7)) ((asL (nth r154 8)).set ((asI (nth r154 2)).toNat) (T.i .i64 (asI (nth r154 1)))) ((asL (nth r154 9)).set ((asI (nth r154 2)).toNat) (T.i .i64 (asI (nth r154 11))))
   else none
   else none
   else none
   else none
 else
  some [T.i .i64 0, T.sl x148]
def f5_0_c (x142 : Int) (x143 : List T) (x144 : Int) (x145 : List T) (x146 : Bool) (x147 : Int) (x148 x149 : List T) : CSt := ⟨[.bp 5 0, .rf 6 [] 0 none, .rf 7 [] 0 none, .i .i64 x142], [.dead, .dead, .dead, .dead, .dead, .box [.ro 0 true [.sl true [.b, .sl false [.i .u8]], .i .i64, .b] x143, .i .i64 x144, .ro 0 true [.i .i64, .i .i64, .i .i64] x145, .b x146, .i .i64 x147], .row false [.i .i64] x148 0 false, .row false [.i .i64] x149 0 false]⟩
theorem f5_0_round (c : Orc) (lf : Nat) (L : CSt → Option (List T)) (x142 : Int) (x143 : List T) (x144 : Int) (x145 : List T) (x146 : Bool) (x147 : Int) (x148 x149 : List T) :
 roundK c env lf 6 fi5 5 4 [] [1, 3, 4, 5] (x5_4_0) L (f5_0_c x142 x143 x144 x145 x146 x147 x148 x149) = f5_0_s c lf (fun x142 x143 x144 x145 x146 x147 x148 x149 => L (f5_0_c x142 x143 x144 x145 x146 x147 x148 x149)) (fun (r150 : List T) (x142 : Int) (x143 : List T) (x144 : Int) (x145 : List T) (x146 : Bool) (x147 x151 : Int) (x152 x153 : List T) => lpK c env lf 6 fi5 5 11 [] [1, 3, 4, 5, 6, 8] (x5_11_0) lf (f5_1_c r150 x142 x143 x144 x145 x146 x147 x151 x152 x153)) x142 x143 x144 x145 x146 x147 x148 x149 := by kernel_rfl
def f5_0 (c : Orc) (lf : Nat) : Nat → Int → List T → Int → List T → Bool → Int → List T → List T → Option (List T)
 | 0 => fun _ _ _ _ _ _ _ _ => none
 | n + 1 => fun x142 x143 x144 x145 x146 x147 x148 x149 => f5_0_s c lf (f5_0 c lf n) (fun (r150 : List T) (x142 : Int) (x143 : List T) (x144 : Int) (x145 : List T) (x146 : Bool) (x147 x151 : Int) (x152 x153 : List T) => f5_1 c lf r150 x142 x143 x144 x145 x146 x147 lf x151 x152 x153) x142 x143 x144 x145 x146 x147 x148 x149
theorem f5_0_u (c : Orc) (lf n : Nat) (x142 : Int) (x143 : List T) (x144 : Int) (x145 : List T) (x146 : Bool) (x147 : Int) (x148 x149 : List T) : f5_0 c lf (n + 1) x142 x143 x144 x145 x146 x147 x148 x149 = f5_0_s c lf (f5_0 c lf n) (fun (r150 : List T) (x142 : Int) (x143 : List T) (x144 : Int) (x145 : List T) (x146 : Bool) (x147 x151 : Int) (x152 x153 : List T) => f5_1 c lf r150 x142 x143 x144 x145 x146 x147 lf x151 x152 x153) x142 x143 x144 x145 x146 x147 x148 x149 := rfl
theorem f5_0_eq (c : Orc) (lf n : Nat) (x142 : Int) (x143 : List T) (x144 : Int) (x145 : List T) (x146 : Bool) (x147 : Int) (x148 x149 : List T) :
 lpK c env lf 6 fi5 5 4 [] [1, 3, 4, 5] (x5_4_0) n (f5_0_c x142 x143 x144 x145 x146 x147 x148 x149) = f5_0 c lf n x142 x143 x144 x145 x146 x147 x148 x149 := by
 induction n generalizing x142 x143 x144 x145 x146 x147 x148 x149 with
 | zero => rfl
 | succ n ih =>
  refine (f5_0_round c lf _ x142 x143 x144 x145 x146 x147 x148 x149).trans ?_
  have e : (fun x142 x143 x144 x145 x146 x147 x148 x149 => lpK c env lf 6 fi5 5 4 [] [1, 3, 4, 5] (x5_4_0) n (f5_0_c x142 x143 x144 x145 x146 x147 x148 x149)) = f5_0 c lf n := by funext x142 x143 x144 x145 x146 x147 x148 x149; exact ih x142 x143 x144 x145 x146 x147 x148 x149
  have e0 : (fun (r150 : List T) (x142 : Int) (x143 : List T) (x144 : Int) (x145 : List T) (x146 : Bool) (x147 x151 : Int) (x152 x153 : List T) => lpK c env lf 6 fi5 5 11 [] [1, 3, 4, 5, 6, 8] (x5_11_0) lf (f5_1_c r150 x142 x143 x144 x145 x146 x147 x151 x152 x153)) = (fun (r150 : List T) (x142 : Int) (x143 : List T) (x144 : Int) (x145 : List T) (x146 : Bool) (x147 x151 : Int) (x152 x153 : List T) => f5_1 c lf r150 x142 x143 x144 x145 x146 x147 lf x151 x152 x153) := by funext r150 x142 x143 x144 x145 x146 x147 x151 x152 x153; exact f5_1_eq c lf r150 x142 x143 x144 x145 x146 x147 lf x151 x152 x153
  show f5_0_s c lf (fun x142 x143 x144 x145 x146 x147 x148 x149 => lpK c env lf 6 fi5 5 4 [] [1, 3, 4, 5] (x5_4_0) n (f5_0_c x142 x143 x144 x145 x146 x147 x148 x149)) (fun (r150 : List T) (x142 : Int) (x143 : List T) (x144 : Int) (x145 : List T) (x146 : Bool) (x147 x151 : Int) (x152 x153 : List T) => lpK c env lf 6 fi5 5 11 [] [1, 3, 4, 5, 6, 8] (x5_11_0) lf (f5_1_c r150 x142 x143 x144 x145 x146 x147 x151 x152 x153)) x142 x143 x144 x145 x146 x147 x148 x149 = _
  rw [e, e0]; rfl
def f5_t (c : Orc) (lf : Nat) (lp0 : Int → List T → Int → List T → Bool → Int → List T → List T → Option (List T)) (l0_0 : List T) (n0_1 : Int) (l0_2 : List T) (b0_3 : Bool) (n0_4 : Int) : Option (List T) :=
 (lp0 0 l0_0 n0_1 l0_2 b0_3 n0_4 ([] : List T) ([] : List T)).bind fun r155 =>
 some [T.sl (asL (nth r155 1))]
def f5 (c : Orc) (lf : Nat) (l0_0 : List T) (n0_1 : Int) (l0_2 : List T) (b0_3 : Bool) (n0_4 : Int) : Option (List T) := f5_t c lf (fun (x142 : Int) (x143 : List T) (x144 : Int) (x145 : List T) (x146 : Bool) (x147 : Int) (x148 x149 : List T) => f5_0 c lf lf x142 x143 x144 x145 x146 x147 x148 x149) l0_0 n0_1 l0_2 b0_3 n0_4
theorem f5_raw (c : Orc) (lf : Nat) (l0_0 : List T) (n0_1 : Int) (l0_2 : List T) (b0_3 : Bool) (n0_4 : Int) : funK c env lf 6 fi5 [.st [.sl l0_0, .i .i64 n0_1, .sl l0_2, .b b0_3, .i .i64 n0_4]] = f5_t c lf (fun (x142 : Int) (x143 : List T) (x144 : Int) (x145 : List T) (x146 : Bool) (x147 : Int) (x148 x149 : List T) => lpK c env lf 6 fi5 5 4 [] [1, 3, 4, 5] (x5_4_0) lf (f5_0_c x142 x143 x144 x145 x146 x147 x148 x149)) l0_0 n0_1 l0_2 b0_3 n0_4 := by kernel_rfl
theorem f5_eq (c : Orc) (lf : Nat) (l0_0 : List T) (n0_1 : Int) (l0_2 : List T) (b0_3 : Bool) (n0_4 : Int) : funK c env lf 6 fi5 [.st [.sl l0_0, .i .i64 n0_1, .sl l0_2, .b b0_3, .i .i64 n0_4]] = f5 c lf l0_0 n0_1 l0_2 b0_3 n0_4 := by
 refine (f5_raw c lf l0_0 n0_1 l0_2 b0_3 n0_4).trans ?_
 have e0 : (fun (x142 : Int) (x143 : List T) (x144 : Int) (x145 : List T) (x146 : Bool) (x147 : Int) (x148 x149 : List T) => lpK c env lf 6 fi5 5 4 [] [1, 3, 4, 5] (x5_4_0) lf (f5_0_c x142 x143 x144 x145 x146 x147 x148 x149)) = (fun (x142 : Int) (x143 : List T) (x144 : Int) (x145 : List T) (x146 : Bool) (x147 : Int) (x148 x149 : List T) => f5_0 c lf lf x142 x143 x144 x145 x146 x147 x148 x149) := by funext x142 x143 x144 x145 x146 x147 x148 x149; exact f5_0_eq c lf lf x142 x143 x144 x145 x146 x147 x148 x149
 rw [e0]; rfl
def f56_t (c : Orc) (lf : Nat) (n0 n1 n2 : Int) : Option (List T) :=
 bif iLe n1 n0 then
  some [T.b (iLe n0 n2)]
 else
  some [T.b false]
def f56 (c : Orc) (lf : Nat) (n0 n1 n2 : Int) : Option (List T) := f56_t c lf n0 n1 n2
theorem f56_eq (c : Orc) (lf : Nat) (n0 n1 n2 : Int) : funK c env lf 6 fi56 [.i .i64 n0, .i .i64 n1, .i .i64 n2] = f56 c lf n0 n1 n2 := by kernel_rfl
def f55_t (c : Orc) (lf : Nat) (l0_0 : List T) (n1 : Int) : Option (List T) :=
 (c 56 [T.i .i64 n1, T.i .i64 0, T.i .i64 (IntKind.wrap .i64 ((l0_0.length : Int) - 1))]).bind fun r156 =>
 some [T.b (asB (nth r156 0))]
def f55 (c : Orc) (lf : Nat) (l0_0 : List T) (n1 : Int) : Option (List T) := f55_t c lf l0_0 n1
theorem f55_eq (c : Orc) (lf : Nat) (l0_0 : List T) (n1 : Int) : funK c env lf 6 fi55 [.st [.sl l0_0], .i .i64 n1] = f55 c lf l0_0 n1 := by kernel_rfl
def f43_t (c : Orc) (lf : Nat) (l0_0 : List T) (n1 n2 : Int) : Option (List T) :=
 (c 55 [T.st [T.sl l0_0], T.i .i64 n1]).bind fun r157 =>
 bif !(asB (nth r157 0)) then
  some [T.sl [], T.b false]
 else
  bif inR n1 l0_0.length then
  (c 56 [T.i .i64 n2, T.i .i64 0, T.i .i64 (IntKind.wrap .i64 (((asL (T.cell (l0_0.getD n1.toNat T.u) 0)).length : Int) - 1))]).bind fun r158 =>
  bif !(asB (nth r158 0)) then
   some [T.sl [], T.b false]
  else
   bif inR n1 l0_0.length then
   bif inR n2 ((asL (T.cell (l0_0.getD n1.toNat T.u) 0)).length) then
   bif !(asB (T.cell ((asL (T.cell (l0_0.getD n1.toNat T.u) 0)).getD n2.toNat T.u) 0)) then
    some [T.sl [], T.b false]
   else
    bif inR n1 l0_0.length then
    bif inR n2 ((asL (T.cell (l0_0.getD n1.toNat T.u) 0)).length) then
    (c 57 [T.sl (asL (T.cell ((asL (T.cell (l0_0.getD n1.toNat T.u) 0)).getD n2.toNat T.u) 1))]).bind fun r159 =>
    some [T.sl (asL (nth r159 0)), T.b true]
    else none
    else none
   else none
   else none
  else none
def f43 (c : Orc) (lf : Nat) (l0_0 : List T) (n1 n2 : Int) : Option (List T) := f43_t c lf l0_0 n1 n2
theorem f43_eq (c : Orc) (lf : Nat) (l0_0 : List T) (n1 n2 : Int) : funK c env lf 6 fi43 [.st [.sl l0_0], .i .i64 n1, .i .i64 n2] = f43 c lf l0_0 n1 n2 := by kernel_rfl
def f76_1_s (c : Orc) (lf : Nat) (x175 : List T) (x176 x177 : Int) (L : Int → Int → Option (List T)) (x178 x179 : Int) : Option (List T) :=
 bif iLt x179 8 then
  bif (intBits .and .u32 x178 1) == 1 then
   L (intBits .xor .u32 (shiftI .shr .u32 x178 1) 2197175160) (IntKind.wrap .i64 (x179 + 1))
  else
   L (shiftI .shr .u32 x178 1) (IntKind.wrap .i64 (x179 + 1))
 else
  some [T.i .i64 0, T.i .u32 x178, T.sl x175, T.i .i64 x176, T.i .i64 x177]
def f76_1_c (x175 : List T) (x176 x177 : Int) (x178 x179 : Int) : CSt := ⟨[.i .u32 x178, .ro 0 false [.i .u8] x175, .i .i64 x176, .i .i64 x177, .i .i64 x179], [.dead]⟩
theorem f76_1_round (c : Orc) (lf : Nat) (x175 : List T) (x176 x177 : Int) (L : CSt → Option (List T)) (x178 x179 : Int) :
 roundK c env lf 6 fi76 1 7 [] [3, 7, 8, 9, 17] (x76_7_0) L (f76_1_c x175 x176 x177 x178 x179) = f76_1_s c lf x175 x176 x177 (fun x178 x179 => L (f76_1_c x175 x176 x177 x178 x179)) x178 x179 := by kernel_rfl
def f76_1 (c : Orc) (lf : Nat) (x175 : List T) (x176 x177 : Int) : Nat → Int → Int → Option (List T)
 | 0 => fun _ _ => none
 | n + 1 => fun x178 x179 => f76_1_s c lf x175 x176 x177 (f76_1 c lf x175 x176 x177 n) x178 x179
theorem f76_1_u (c : Orc) (lf : Nat) (x175 : List T) (x176 x177 : Int) (n : Nat) (x178 x179 : Int) : f76_1 c lf x175 x176 x177 (n + 1) x178 x179 = f76_1_s c lf x175 x176 x177 (f76_1 c lf x175 x176 x177 n) x178 x179 := rfl
theorem f76_1_eq (c : Orc) (lf : Nat) (x175 : List T) (x176 x177 : Int) (n : Nat) (x178 x179 : Int) :
 lpK c env lf 6 fi76 1 7 [] [3, 7, 8, 9, 17] (x76_7_0) n (f76_1_c x175 x176 x177 x178 x179) = f76_1 c lf x175 x176 x177 n x178 x179 := by
 induction n generalizing x178 x179 with
 | zero => rfl
 | succ n ih =>
  refine (f76_1_round c lf x175 x176 x177 _ x178 x179).trans ?_
  have e : (fun x178 x179 => lpK c env lf 6 fi76 1 7 [] [3, 7, 8, 9, 17] (x76_7_0) n (f76_1_c x175 x176 x177 x178 x179)) = f76_1 c lf x175 x176 x177 n := by funext x178 x179; exact ih x178 x179
  show f76_1_s c lf x175 x176 x177 (fun x178 x179 => lpK c env lf 6 fi76 1 7 [] [3, 7, 8, 9, 17] (x76_7_0) n (f76_1_c x175 x176 x177 x178 x179)) x178 x179 = _
  rw [e]; rfl
def f76_0_s (c : Orc) (lf : Nat) (L : Int → List T → Int → Int → Option (List T)) (lp0 : List T → Int → Int → Int → Int → Option (List T)) (x174 : Int) (x175 : List T) (x176 x177 : Int) : Option (List T) :=
 bif iLt x177 x176 then
  bif inR x177 x175.length then
  (lp0 x175 x176 x177 (intBits .xor .u32 x174 (IntKind.wrap .u32 (asI (x175.getD x177.toNat T.u)))) 0).bind fun r180 =>
  L (asI (nth r180 1)) (asL (nth r180 2)) (asI (nth r180 3)) (IntKind.wrap .i64 ((asI (nth r180 4)) + 1))
  else none
 else
  some [T.i .i64 0, T.i .u32 x174]
def f76_0_c (x174 : Int) (x175 : List T) (x176 x177 : Int) : CSt := ⟨[.i .u32 x174, .ro 0 false [.i .u8] x175, .i .i64 x176, .i .i64 x177], [.dead]⟩
theorem f76_0_round (c : Orc) (lf : Nat) (L : CSt → Option (List T)) (x174 : Int) (x175 : List T) (x176 x177 : Int) :
 roundK c env lf 6 fi76 1 3 [] [3, 7, 8, 9] (x76_3_0) L (f76_0_c x174 x175 x176 x177) = f76_0_s c lf (fun x174 x175 x176 x177 => L (f76_0_c x174 x175 x176 x177)) (fun (x175 : List T) (x176 x177 : Int) (x178 x179 : Int) => lpK c env lf 6 fi76 1 7 [] [3, 7, 8, 9, 17] (x76_7_0) lf (f76_1_c x175 x176 x177 x178 x179)) x174 x175 x176 x177 := by kernel_rfl
def f76_0 (c : Orc) (lf : Nat) : Nat → Int → List T → Int → Int → Option (List T)
 | 0 => fun _ _ _ _ => none
 | n + 1 => fun x174 x175 x176 x177 => f76_0_s c lf (f76_0 c lf n) (fun (x175 : List T) (x176 x177 : Int) (x178 x179 : Int) => f76_1 c lf x175 x176 x177 lf x178 x179) x174 x175 x176 x177
theorem f76_0_u (c : Orc) (lf n : Nat) (x174 : Int) (x175 : List T) (x176 x177 : Int) : f76_0 c lf (n + 1) x174 x175 x176 x177 = f76_0_s c lf (f76_0 c lf n) (fun (x175 : List T) (x176 x177 : Int) (x178 x179 : Int) => f76_1 c lf x175 x176 x177 lf x178 x179) x174 x175 x176 x177 := rfl
theorem f76_0_eq (c : Orc) (lf n : Nat) (x174 : Int) (x175 : List T) (x176 x177 : Int) :
 lpK c env lf 6 fi76 1 3 [] [3, 7, 8, 9] (x76_3_0) n (f76_0_c x174 x175 x176 x177) = f76_0 c lf n x174 x175 x176 x177 := by
 induction n generalizing x174 x175 x176 x177 with
 | zero => rfl
 | succ n ih =>
  refine (f76_0_round c lf _ x174 x175 x176 x177).trans ?_
  have e : (fun x174 x175 x176 x177 => lpK c env lf 6 fi76 1 3 [] [3, 7, 8, 9] (x76_3_0) n (f76_0_c x174 x175 x176 x177)) = f76_0 c lf n := by funext x174 x175 x176 x177; exact ih x174 x175 x176 x177
  have e0 : (fun (x175 : List T) (x176 x177 : Int) (x178 x179 : Int) => lpK c env lf 6 fi76 1 7 [] [3, 7, 8, 9, 17] (x76_7_0) lf (f76_1_c x175 x176 x177 x178 x179)) = (fun (x175 : List T) (x176 x177 : Int) (x178 x179 : Int) => f76_1 c lf x175 x176 x177 lf x178 x179) := by funext x175 x176 x177 x178 x179; exact f76_1_eq c lf x175 x176 x177 lf x178 x179
  show f76_0_s c lf (fun x174 x175 x176 x177 => lpK c env lf 6 fi76 1 3 [] [3, 7, 8, 9] (x76_3_0) n (f76_0_c x174 x175 x176 x177)) (fun (x175 : List T) (x176 x177 : Int) (x178 x179 : Int) => lpK c env lf 6 fi76 1 7 [] [3, 7, 8, 9, 17] (x76_7_0) lf (f76_1_c x175 x176 x177 x178 x179)) x174 x175 x176 x177 = _
  rw [e, e0]; rfl
def f76_t (c : Orc) (lf : Nat) (lp0 : Int → List T → Int → Int → Option (List T)) (l0 : List T) : Option (List T) :=
 (lp0 4294967295 l0 (l0.length : Int) 0).bind fun r181 =>
 some [T.i .i64 (IntKind.wrap .i64 (intBits .xor .u32 4294967295 (asI (nth r181 1))))]
def f76 (c : Orc) (lf : Nat) (l0 : List T) : Option (List T) := f76_t c lf (fun (x174 : Int) (x175 : List T) (x176 x177 : Int) => f76_0 c lf lf x174 x175 x176 x177) l0
theorem f76_raw (c : Orc) (lf : Nat) (l0 : List T) : funK c env lf 6 fi76 [.sl l0] = f76_t c lf (fun (x174 : Int) (x175 : List T) (x176 x177 : Int) => lpK c env lf 6 fi76 1 3 [] [3, 7, 8, 9] (x76_3_0) lf (f76_0_c x174 x175 x176 x177)) l0 := by kernel_rfl
theorem f76_eq (c : Orc) (lf : Nat) (l0 : List T) : funK c env lf 6 fi76 [.sl l0] = f76 c lf l0 := by
 refine (f76_raw c lf l0).trans ?_
 have e0 : (fun (x174 : Int) (x175 : List T) (x176 x177 : Int) => lpK c env lf 6 fi76 1 3 [] [3, 7, 8, 9] (x76_3_0) lf (f76_0_c x174 x175 x176 x177)) = (fun (x174 : Int) (x175 : List T) (x176 x177 : Int) => f76_0 c lf lf x174 x175 x176 x177) := by funext x174 x175 x176 x177; exact f76_0_eq c lf lf x174 x175 x176 x177
 rw [e0]; rfl
def f68_t (c : Orc) (lf : Nat) (l0 : List T) : Option (List T) :=
 (c 76 [T.sl l0]).bind fun r182 =>
 (c 57 [T.sl l0]).bind fun r183 =>
 bif nLe ((asL (nth r183 0)).length + ([T.i .u8 (IntKind.wrap .u8 (shiftI .shr .i64 (asI (nth r182 0)) 24)), T.i .u8 (IntKind.wrap .u8 (shiftI .shr .i64 (asI (nth r182 0)) 16)), T.i .u8 (IntKind.wrap .u8 (shiftI .shr .i64 (asI (nth r182 0)) 8)), T.i .u8 (IntKind.wrap .u8 (asI (nth r182 0)))] : List T).length) LIM then
 some [T.sl ((asL (nth r183 0)) ++ ([T.i .u8 (IntKind.wrap .u8 (shiftI .shr .i64 (asI (nth r182 0)) 24)), T.i .u8 (IntKind.wrap .u8 (shiftI .shr .i64 (asI (nth r182 0)) 16)), T.i .u8 (IntKind.wrap .u8 (shiftI .shr .i64 (asI (nth r182 0)) 8)), T.i .u8 (IntKind.wrap .u8 (asI (nth r182 0)))] : List T))]
 else none
def f68 (c : Orc) (lf : Nat) (l0 : List T) : Option (List T) := f68_t c lf l0
theorem f68_eq (c : Orc) (lf : Nat) (l0 : List T) : funK c env lf 6 fi68 [.sl l0] = f68 c lf l0 := by kernel_rfl
def f58_t (c : Orc) (lf : Nat) (l0 : List T) : Option (List T) :=
 bif iLt (IntKind.wrap .i64 ((l0.length : Int) - 4)) 0 then
  some [T.sl [], T.b false]
 else
  bif iLe 0 (IntKind.wrap .i64 ((l0.length : Int) - 4)) && iLe (IntKind.wrap .i64 ((l0.length : Int) - 4)) (l0.length : Int) then
  (c 68 [T.sl (l0.take ((IntKind.wrap .i64 ((l0.length : Int) - 4)).toNat))]).bind fun r185 =>
  bif !((bytesOf (asL (nth r185 0))).toList == (bytesOf l0).toList) then
   some [T.sl [], T.b false]
  else
   bif iLe 0 (IntKind.wrap .i64 ((l0.length : Int) - 4)) && iLe (IntKind.wrap .i64 ((l0.length : Int) - 4)) (l0.length : Int) then
   some [T.sl (l0.take ((IntKind.wrap .i64 ((l0.length : Int) - 4)).toNat)), T.b true]
   else none
  else none
def f58 (c : Orc) (lf : Nat) (l0 : List T) : Option (List T) := f58_t c lf l0
theorem f58_eq (c : Orc) (lf : Nat) (l0 : List T) : funK c env lf 6 fi58 [.sl l0] = f58 c lf l0 := by kernel_rfl
def f69_0_s (c : Orc) (lf : Nat) (l0 : List T) (n1 : Int) (L : Int → Int → Int → Option (List T)) (x190 x191 x192 : Int) : Option (List T) :=
 bif iLt x192 3 then
  bif iLt n1 (IntKind.wrap .i64 ((l0.length : Int) - x192)) then
   bif inR (IntKind.wrap .i64 (n1 + x192)) l0.length then
   bif iLe 128 (IntKind.wrap .i64 (asI (l0.getD ((IntKind.wrap .i64 (n1 + x192)).toNat) T.u))) then
    L (IntKind.wrap .i64 (x190 + (IntKind.wrap .i64 (((IntKind.wrap .i64 (asI (l0.getD ((IntKind.wrap .i64 (n1 + x192)).toNat) T.u))).tmod 128) * x191)))) (IntKind.wrap .i64 (x191 * 128)) (IntKind.wrap .i64 (x192 + 1))
   else
    bif iLt 1000000 (IntKind.wrap .i64 (x190 + (IntKind.wrap .i64 (((IntKind.wrap .i64 (asI (l0.getD ((IntKind.wrap .i64 (n1 + x192)).toNat) T.u))).tmod 128) * x191)))) then
     some [T.i .i64 0]
    else
     bif (IntKind.wrap .i64 (asI (l0.getD ((IntKind.wrap .i64 (n1 + x192)).toNat) T.u))) == 0 then
      bif iLt 0 x192 then
       some [T.i .i64 0]
      else
       some [T.i .i64 1, T.i .i64 (IntKind.wrap .i64 (x190 + (IntKind.wrap .i64 (((IntKind.wrap .i64 (asI (l0.getD ((IntKind.wrap .i64 (n1 + x192)).toNat) T.u))).tmod 128) * x191)))), T.i .i64 (IntKind.wrap .i64 ((IntKind.wrap .i64 (n1 + x192)) + 1)), T.b true]
     else
      some [T.i .i64 1, T.i .i64 (IntKind.wrap .i64 (x190 + (IntKind.wrap .i64 (((IntKind.wrap .i64 (asI (l0.getD ((IntKind.wrap .i64 (n1 + x192)).toNat) T.u))).tmod 128) * x191)))), T.i .i64 (IntKind.wrap .i64 ((IntKind.wrap .i64 (n1 + x192)) + 1)), T.b true]
   else none
  else
   some [T.i .i64 0]
 else
  some [T.i .i64 0]
def f69_0_c (l0 : List T) (n1 x190 : Int) (x191 x192 : Int) : CSt := ⟨[.ro 0 false [.i .u8] l0, .i .i64 n1, .i .i64 x190, .i .i64 x191, .i .i64 x192], [.dead, .dead]⟩
theorem f69_0_round (c : Orc) (lf : Nat) (l0 : List T) (n1 : Int) (L : CSt → Option (List T)) (x190 x191 x192 : Int) :
 roundK c env lf 6 fi69 2 6 [] [0, 1, 7, 8, 9] (x69_6_0) L (f69_0_c l0 n1 x190 x191 x192) = f69_0_s c lf l0 n1 (fun x190 x191 x192 => L (f69_0_c l0 n1 x190 x191 x192)) x190 x191 x192 := by kernel_rfl
def f69_0 (c : Orc) (lf : Nat) (l0 : List T) (n1 : Int) : Nat → Int → Int → Int → Option (List T)
 | 0 => fun _ _ _ => none
 | n + 1 => fun x190 x191 x192 => f69_0_s c lf l0 n1 (f69_0 c lf l0 n1 n) x190 x191 x192
theorem f69_0_u (c : Orc) (lf : Nat) (l0 : List T) (n1 : Int) (n : Nat) (x190 x191 x192 : Int) : f69_0 c lf l0 n1 (n + 1) x190 x191 x192 = f69_0_s c lf l0 n1 (f69_0 c lf l0 n1 n) x190 x191 x192 := rfl
theorem f69_0_eq (c : Orc) (lf : Nat) (l0 : List T) (n1 : Int) (n : Nat) (x190 x191 x192 : Int) :
 lpK c env lf 6 fi69 2 6 [] [0, 1, 7, 8, 9] (x69_6_0) n (f69_0_c l0 n1 x190 x191 x192) = f69_0 c lf l0 n1 n x190 x191 x192 := by
 induction n generalizing x190 x191 x192 with
 | zero => rfl
 | succ n ih =>
  refine (f69_0_round c lf l0 n1 _ x190 x191 x192).trans ?_
  have e : (fun x190 x191 x192 => lpK c env lf 6 fi69 2 6 [] [0, 1, 7, 8, 9] (x69_6_0) n (f69_0_c l0 n1 x190 x191 x192)) = f69_0 c lf l0 n1 n := by funext x190 x191 x192; exact ih x190 x191 x192
  show f69_0_s c lf l0 n1 (fun x190 x191 x192 => lpK c env lf 6 fi69 2 6 [] [0, 1, 7, 8, 9] (x69_6_0) n (f69_0_c l0 n1 x190 x191 x192)) x190 x191 x192 = _
  rw [e]; rfl
def f69_t (c : Orc) (lf : Nat) (lp0 : List T → Int → Int → Int → Int → Option (List T)) (l0 : List T) (n1 : Int) : Option (List T) :=
 bif iLt n1 0 then
  some [T.i .i64 0, T.i .i64 0, T.b false]
 else
  (lp0 l0 n1 0 1 0).bind fun r193 =>
  bif asI (nth r193 0) == 0 then
   some [T.i .i64 0, T.i .i64 0, T.b false]
  else
   some [T.i .i64 (asI (nth r193 1)), T.i .i64 (asI (nth r193 2)), T.b (asB (nth r193 3))]
def f69 (c : Orc) (lf : Nat) (l0 : List T) (n1 : Int) : Option (List T) := f69_t c lf (fun (l0 : List T) (n1 x190 : Int) (x191 x192 : Int) => f69_0 c lf l0 n1 lf x190 x191 x192) l0 n1
theorem f69_raw (c : Orc) (lf : Nat) (l0 : List T) (n1 : Int) : funK c env lf 6 fi69 [.sl l0, .i .i64 n1] = f69_t c lf (fun (l0 : List T) (n1 x190 : Int) (x191 x192 : Int) => lpK c env lf 6 fi69 2 6 [] [0, 1, 7, 8, 9] (x69_6_0) lf (f69_0_c l0 n1 x190 x191 x192)) l0 n1 := by kernel_rfl
theorem f69_eq (c : Orc) (lf : Nat) (l0 : List T) (n1 : Int) : funK c env lf 6 fi69 [.sl l0, .i .i64 n1] = f69 c lf l0 n1 := by
 refine (f69_raw c lf l0 n1).trans ?_
 have e0 : (fun (l0 : List T) (n1 x190 : Int) (x191 x192 : Int) => lpK c env lf 6 fi69 2 6 [] [0, 1, 7, 8, 9] (x69_6_0) lf (f69_0_c l0 n1 x190 x191 x192)) = (fun (l0 : List T) (n1 x190 : Int) (x191 x192 : Int) => f69_0 c lf l0 n1 lf x190 x191 x192) := by funext l0 n1 x190 x191 x192; exact f69_0_eq c lf l0 n1 lf x190 x191 x192
 rw [e0]; rfl
def f59_t (c : Orc) (lf : Nat) (l0_0 : List T) (n0_1 : Int) (b0_2 : Bool) : Option (List T) :=
 bif !b0_2 then
  some [T.i .i64 0, T.st [T.sl l0_0, T.i .i64 n0_1, T.b b0_2]]
 else
  (c 69 [T.sl l0_0, T.i .i64 n0_1]).bind fun r194 =>
  some [T.i .i64 (asI (nth r194 0)), T.st [T.sl l0_0, T.i .i64 (asI (nth r194 1)), T.b (asB (nth r194 2))]]
def f59 (c : Orc) (lf : Nat) (l0_0 : List T) (n0_1 : Int) (b0_2 : Bool) : Option (List T) := f59_t c lf l0_0 n0_1 b0_2
theorem f59_eq (c : Orc) (lf : Nat) (l0_0 : List T) (n0_1 : Int) (b0_2 : Bool) : funK c env lf 6 fi59 [.st [.sl l0_0, .i .i64 n0_1, .b b0_2]] = f59 c lf l0_0 n0_1 b0_2 := by kernel_rfl
def f70_t (c : Orc) (lf : Nat) (l0 : List T) (n1 : Int) : Option (List T) :=
 (c 69 [T.sl l0, T.i .i64 n1]).bind fun r195 =>
 bif !(asB (nth r195 2)) then
  some [T.s (⟨#[]⟩ : ByteArray), T.i .i64 0, T.b false]
 else
  bif iLt (IntKind.wrap .i64 ((l0.length : Int) - (asI (nth r195 1)))) (asI (nth r195 0)) then
   some [T.s (⟨#[]⟩ : ByteArray), T.i .i64 0, T.b false]
  else
   bif iLe 0 (asI (nth r195 1)) && iLe (asI (nth r195 1)) (IntKind.wrap .i64 ((asI (nth r195 1)) + (asI (nth r195 0)))) && iLe (IntKind.wrap .i64 ((asI (nth r195 1)) + (asI (nth r195 0)))) (l0.length : Int) then
   some [T.s (bytesOf ((l0.drop ((asI (nth r195 1)).toNat)).take (((IntKind.wrap .i64 ((asI (nth r195 1)) + (asI (nth r195 0)))).toNat) - ((asI (nth r195 1)).toNat)))), T.i .i64 (IntKind.wrap .i64 ((asI (nth r195 1)) + (asI (nth r195 0)))), T.b true]
   else none
def f70 (c : Orc) (lf : Nat) (l0 : List T) (n1 : Int) : Option (List T) := f70_t c lf l0 n1
theorem f70_eq (c : Orc) (lf : Nat) (l0 : List T) (n1 : Int) : funK c env lf 6 fi70 [.sl l0, .i .i64 n1] = f70 c lf l0 n1 := by kernel_rfl
def f60_t (c : Orc) (lf : Nat) (l0_0 : List T) (n0_1 : Int) (b0_2 : Bool) : Option (List T) :=
 bif !b0_2 then
  some [T.s (⟨#[]⟩ : ByteArray), T.st [T.sl l0_0, T.i .i64 n0_1, T.b b0_2]]
 else
  (c 70 [T.sl l0_0, T.i .i64 n0_1]).bind fun r196 =>
  some [T.s (asS (nth r196 0)), T.st [T.sl l0_0, T.i .i64 (asI (nth r196 1)), T.b (asB (nth r196 2))]]
def f60 (c : Orc) (lf : Nat) (l0_0 : List T) (n0_1 : Int) (b0_2 : Bool) : Option (List T) := f60_t c lf l0_0 n0_1 b0_2
theorem f60_eq (c : Orc) (lf : Nat) (l0_0 : List T) (n0_1 : Int) (b0_2 : Bool) : funK c env lf 6 fi60 [.st [.sl l0_0, .i .i64 n0_1, .b b0_2]] = f60 c lf l0_0 n0_1 b0_2 := by kernel_rfl
def f61_t (c : Orc) (lf : Nat) (l0_0 : List T) (n0_1 : Int) (b0_2 : Bool) : Option (List T) :=
 bif b0_2 then
  some [T.b (n0_1 == (l0_0.length : Int)), T.st [T.sl l0_0, T.i .i64 n0_1, T.b b0_2]]
 else
  some [T.b false, T.st [T.sl l0_0, T.i .i64 n0_1, T.b b0_2]]
def f61 (c : Orc) (lf : Nat) (l0_0 : List T) (n0_1 : Int) (b0_2 : Bool) : Option (List T) := f61_t c lf l0_0 n0_1 b0_2
theorem f61_eq (c : Orc) (lf : Nat) (l0_0 : List T) (n0_1 : Int) (b0_2 : Bool) : funK c env lf 6 fi61 [.st [.sl l0_0, .i .i64 n0_1, .b b0_2]] = f61 c lf l0_0 n0_1 b0_2 := by kernel_rfl
def f62_t (c : Orc) (lf : Nat) (n0_0 n0_1 : Int) (l0_2 : List T) : Option (List T) :=
 (c 56 [T.i .i64 n0_0, T.i .i64 1, T.i .i64 4]).bind fun r197 =>
 bif asB (nth r197 0) then
  (c 56 [T.i .i64 n0_1, T.i .i64 0, T.i .i64 1000000]).bind fun r198 =>
  bif asB (nth r198 0) then
   some [T.b (iLe (l0_2.length : Int) 380)]
  else
   some [T.b false]
 else
  some [T.b false]
def f62 (c : Orc) (lf : Nat) (n0_0 n0_1 : Int) (l0_2 : List T) : Option (List T) := f62_t c lf n0_0 n0_1 l0_2
theorem f62_eq (c : Orc) (lf : Nat) (n0_0 n0_1 : Int) (l0_2 : List T) : funK c env lf 6 fi62 [.st [.i .i64 n0_0, .i .i64 n0_1, .sl l0_2]] = f62 c lf n0_0 n0_1 l0_2 := by kernel_rfl
def f44_t (c : Orc) (lf : Nat) (l0 : List T) : Option (List T) :=
 (c 58 [T.sl l0]).bind fun r199 =>
 (c 59 [T.st [T.sl (asL (nth r199 0)), T.i .i64 0, T.b (asB (nth r199 1))]]).bind fun r200 =>
 (c 59 [T.st [T.sl (asL (nth r199 0)), T.i .i64 (asI (T.cell (nth r200 1) 1)), T.b (asB (T.cell (nth r200 1) 2))]]).bind fun r201 =>
 (c 60 [T.st [T.sl (asL (nth r199 0)), T.i .i64 (asI (T.cell (nth r201 1) 1)), T.b (asB (T.cell (nth r201 1) 2))]]).bind fun r202 =>
 bif nLe (asS (nth r202 0)).size LIM then
 (c 61 [T.st [T.sl (asL (nth r199 0)), T.i .i64 (asI (T.cell (nth r202 1) 1)), T.b (asB (T.cell (nth r202 1) 2))]]).bind fun r203 =>
 bif !(asB (nth r203 0)) then
  some [T.st [T.i .i64 0, T.i .i64 0, T.sl []], T.b false]
 else
  (c 62 [T.st [T.i .i64 (asI (nth r200 0)), T.i .i64 (asI (nth r201 0)), T.sl (listOf (asS (nth r202 0)))]]).bind fun r204 =>
  bif !(asB (nth r204 0)) then
   some [T.st [T.i .i64 0, T.i .i64 0, T.sl []], T.b false]
  else
   some [T.st [T.i .i64 (asI (nth r200 0)), T.i .i64 (asI (nth r201 0)), T.sl (listOf (asS (nth r202 0)))], T.b true]
 else none
def f44 (c : Orc) (lf : Nat) (l0 : List T) : Option (List T) := f44_t c lf l0
theorem f44_eq (c : Orc) (lf : Nat) (l0 : List T) : funK c env lf 6 fi44 [.sl l0] = f44 c lf l0 := by kernel_rfl
def f29_t (c : Orc) (lf : Nat) (l0_0 : List T) (n0_1 : Int) (l0_2 : List T) (b0_3 : Bool) (n0_4 n1 : Int) : Option (List T) :=
 bif iLt n1 0 then
  some [T.st [T.i .i64 0, T.i .i64 0, T.sl []], T.b false]
 else
  (c 43 [T.st [T.sl l0_0], T.i .i64 (IntKind.wrap .i64 (n1.tdiv 8)), T.i .i64 (n1.tmod 8)]).bind fun r205 =>
  bif !(asB (nth r205 1)) then
   some [T.st [T.i .i64 0, T.i .i64 0, T.sl []], T.b false]
  else
   (c 44 [T.sl (asL (nth r205 0))]).bind fun r206 =>
   some [T.st [T.i .i64 (asI (T.cell (nth r206 0) 0)), T.i .i64 (asI (T.cell (nth r206 0) 1)), T.sl (asL (T.cell (nth r206 0) 2))], T.b (asB (nth r206 1))]
def f29 (c : Orc) (lf : Nat) (l0_0 : List T) (n0_1 : Int) (l0_2 : List T) (b0_3 : Bool) (n0_4 n1 : Int) : Option (List T) := f29_t c lf l0_0 n0_1 l0_2 b0_3 n0_4 n1
theorem f29_eq (c : Orc) (lf : Nat) (l0_0 : List T) (n0_1 : Int) (l0_2 : List T) (b0_3 : Bool) (n0_4 n1 : Int) : funK c env lf 6 fi29 [.st [.sl l0_0, .i .i64 n0_1, .sl l0_2, .b b0_3, .i .i64 n0_4], .i .i64 n1] = f29 c lf l0_0 n0_1 l0_2 b0_3 n0_4 n1 := by kernel_rfl
def f45_1_s (c : Orc) (lf : Nat) (x230 x231 x232 : Int) (L : Int → List T → Option (List T)) (x235 : Int) (x236 : List T) : Option (List T) :=
 bif iLt x230 x235 then
  bif inR x235 x236.length then
  bif inR (IntKind.wrap .i64 (x235 - 1)) x236.length then
  (c 19 [T.st [T.i .i64 (asI (T.cell (x236.getD x235.toNat T.u) 0)), T.i .i64 (asI (T.cell (x236.getD x235.toNat T.u) 1))], T.st [T.i .i64 (asI (T.cell (x236.getD ((IntKind.wrap .i64 (x235 - 1)).toNat) T.u) 0)), T.i .i64 (asI (T.cell (x236.getD ((IntKind.wrap .i64 (x235 - 1)).toNat) T.u) 1))]]).bind fun r237 =>
  bif iLt (asI (nth r237 0)) 0 then
   bif inR (IntKind.wrap .i64 (x235 - 1)) x236.length then
   bif inR x235 x236.length then
   bif inR x235 x236.length then
   bif inR (IntKind.wrap .i64 (x235 - 1)) ((x236.set x235.toNat (T.st [T.i .i64 (asI (T.cell (x236.getD ((IntKind.wrap .i64 (x235 - 1)).toNat) T.u) 0)), T.i .i64 (asI (T.cell (x236.getD ((IntKind.wrap .i64 (x235 - 1)).toNat) T.u) 1))])).length) then
   L (IntKind.wrap .i64 (x235 - 1)) ((x236.set x235.toNat (T.st [T.i .i64 (asI (T.cell (x236.getD ((IntKind.wrap .i64 (x235 - 1)).toNat) T.u) 0)), T.i .i64 (asI (T.cell (x236.getD ((IntKind.wrap .i64 (x235 - 1)).toNat) T.u) 1))])).set ((IntKind.wrap .i64 (x235 - 1)).toNat) (T.st [T.i .i64 (asI (T.cell (x236.getD x235.toNat T.u) 0)), T.i .i64 (asI (T.cell (x236.getD x235.toNat T.u) 1))]))
   else none
   else none
   else none
   else none
  else
   some [T.i .i64 0, T.i .i64 x230, T.i .i64 x231, T.i .i64 x232, T.sl x236]
  else none
  else none
 else
  some [T.i .i64 0, T.i .i64 x230, T.i .i64 x231, T.i .i64 x232, T.sl x236]
def f45_1_c (x230 x231 : Int) (x232 x235 : Int) (x236 : List T) : CSt := ⟨[.rf 0 [] 0 none, .i .i64 x230, .i .i64 x231, .fn 19 [], .i .i64 x232, .i .i64 x235], [.row true [.i .i64, .i .i64] x236 0 false, .dead, .dead, .dead]⟩
theorem f45_1_round (c : Orc) (lf : Nat) (x230 x231 x232 : Int) (L : CSt → Option (List T)) (x235 : Int) (x236 : List T) :
 roundK c env lf 6 fi45 4 4 [] [0, 1, 2, 3, 8, 9] (x45_4_0) L (f45_1_c x230 x231 x232 x235 x236) = f45_1_s c lf x230 x231 x232 (fun x235 x236 => L (f45_1_c x230 x231 x232 x235 x236)) x235 x236 := by kernel_rfl
def f45_1 (c : Orc) (lf : Nat) (x230 x231 x232 : Int) : Nat → Int → List T → Option (List T)
 | 0 => fun _ _ => none
 | n + 1 => fun x235 x236 => f45_1_s c lf x230 x231 x232 (f45_1 c lf x230 x231 x232 n) x235 x236
theorem f45_1_u (c : Orc) (lf : Nat) (x230 x231 x232 : Int) (n : Nat) (x235 : Int) (x236 : List T) : f45_1 c lf x230 x231 x232 (n + 1) x235 x236 = f45_1_s c lf x230 x231 x232 (f45_1 c lf x230 x231 x232 n) x235 x236 := rfl
theorem f45_1_eq (c : Orc) (lf : Nat) (x230 x231 x232 : Int) (n : Nat) (x235 : Int) (x236 : List T) :
 lpK c env lf 6 fi45 4 4 [] [0, 1, 2, 3, 8, 9] (x45_4_0) n (f45_1_c x230 x231 x232 x235 x236) = f45_1 c lf x230 x231 x232 n x235 x236 := by
 induction n generalizing x235 x236 with
 | zero => rfl
 | succ n ih =>
  refine (f45_1_round c lf x230 x231 x232 _ x235 x236).trans ?_
  have e : (fun x235 x236 => lpK c env lf 6 fi45 4 4 [] [0, 1, 2, 3, 8, 9] (x45_4_0) n (f45_1_c x230 x231 x232 x235 x236)) = f45_1 c lf x230 x231 x232 n := by funext x235 x236; exact ih x235 x236
  show f45_1_s c lf x230 x231 x232 (fun x235 x236 => lpK c env lf 6 fi45 4 4 [] [0, 1, 2, 3, 8, 9] (x45_4_0) n (f45_1_c x230 x231 x232 x235 x236)) x235 x236 = _
  rw [e]; rfl
def f45_0_s (c : Orc) (lf : Nat) (L : Int → Int → Int → List T → Option (List T)) (lp0 : Int → Int → Int → Int → List T → Option (List T)) (x230 x231 x232 : Int) (x233 : List T) : Option (List T) :=
 bif iLt x232 x231 then
  (lp0 x230 x231 x232 x232 x233).bind fun r238 =>
  L (asI (nth r238 1)) (asI (nth r238 2)) (IntKind.wrap .i64 ((asI (nth r238 3)) + 1)) (asL (nth r238 4))
 else
  some [T.i .i64 0, T.sl x233]
def f45_0_c (x230 x231 x232 : Int) (x233 : List T) : CSt := ⟨[.rf 0 [] 0 none, .i .i64 x230, .i .i64 x231, .fn 19 [], .i .i64 x232], [.row true [.i .i64, .i .i64] x233 0 false, .dead, .dead, .dead]⟩
theorem f45_0_round (c : Orc) (lf : Nat) (L : CSt → Option (List T)) (x230 x231 x232 : Int) (x233 : List T) :
 roundK c env lf 6 fi45 4 1 [] [0, 1, 2, 3, 8] (x45_1_0) L (f45_0_c x230 x231 x232 x233) = f45_0_s c lf (fun x230 x231 x232 x233 => L (f45_0_c x230 x231 x232 x233)) (fun (x230 x231 : Int) (x232 x235 : Int) (x236 : List T) => lpK c env lf 6 fi45 4 4 [] [0, 1, 2, 3, 8, 9] (x45_4_0) lf (f45_1_c x230 x231 x232 x235 x236)) x230 x231 x232 x233 := by kernel_rfl
def f45_0 (c : Orc) (lf : Nat) : Nat → Int → Int → Int → List T → Option (List T)
 | 0 => fun _ _ _ _ => none
 | n + 1 => fun x230 x231 x232 x233 => f45_0_s c lf (f45_0 c lf n) (fun (x230 x231 : Int) (x232 x235 : Int) (x236 : List T) => f45_1 c lf x230 x231 x232 lf x235 x236) x230 x231 x232 x233
theorem f45_0_u (c : Orc) (lf n : Nat) (x230 x231 x232 : Int) (x233 : List T) : f45_0 c lf (n + 1) x230 x231 x232 x233 = f45_0_s c lf (f45_0 c lf n) (fun (x230 x231 : Int) (x232 x235 : Int) (x236 : List T) => f45_1 c lf x230 x231 x232 lf x235 x236) x230 x231 x232 x233 := rfl
theorem f45_0_eq (c : Orc) (lf n : Nat) (x230 x231 x232 : Int) (x233 : List T) :
 lpK c env lf 6 fi45 4 1 [] [0, 1, 2, 3, 8] (x45_1_0) n (f45_0_c x230 x231 x232 x233) = f45_0 c lf n x230 x231 x232 x233 := by
 induction n generalizing x230 x231 x232 x233 with
 | zero => rfl
 | succ n ih =>
  refine (f45_0_round c lf _ x230 x231 x232 x233).trans ?_
  have e : (fun x230 x231 x232 x233 => lpK c env lf 6 fi45 4 1 [] [0, 1, 2, 3, 8] (x45_1_0) n (f45_0_c x230 x231 x232 x233)) = f45_0 c lf n := by funext x230 x231 x232 x233; exact ih x230 x231 x232 x233
  have e0 : (fun (x230 x231 : Int) (x232 x235 : Int) (x236 : List T) => lpK c env lf 6 fi45 4 4 [] [0, 1, 2, 3, 8, 9] (x45_4_0) lf (f45_1_c x230 x231 x232 x235 x236)) = (fun (x230 x231 : Int) (x232 x235 : Int) (x236 : List T) => f45_1 c lf x230 x231 x232 lf x235 x236) := by funext x230 x231 x232 x235 x236; exact f45_1_eq c lf x230 x231 x232 lf x235 x236
  show f45_0_s c lf (fun x230 x231 x232 x233 => lpK c env lf 6 fi45 4 1 [] [0, 1, 2, 3, 8] (x45_1_0) n (f45_0_c x230 x231 x232 x233)) (fun (x230 x231 : Int) (x232 x235 : Int) (x236 : List T) => lpK c env lf 6 fi45 4 4 [] [0, 1, 2, 3, 8, 9] (x45_4_0) lf (f45_1_c x230 x231 x232 x235 x236)) x230 x231 x232 x233 = _
  rw [e, e0]; rfl
def f45_t (c : Orc) (lf : Nat) (lp0 : Int → Int → Int → List T → Option (List T)) (l0 : List T) (n1 n2 : Int) : Option (List T) :=
 (lp0 n1 n2 (IntKind.wrap .i64 (n1 + 1)) l0).bind fun r239 =>
 some [T.sl (asL (nth r239 1))]
def f45 (c : Orc) (lf : Nat) (l0 : List T) (n1 n2 : Int) : Option (List T) := f45_t c lf (fun (x230 x231 x232 : Int) (x233 : List T) => f45_0 c lf lf x230 x231 x232 x233) l0 n1 n2
theorem f45_raw (c : Orc) (lf : Nat) (l0 : List T) (n1 n2 : Int) : funK c env lf 6 fi45 [.sl l0, .i .i64 n1, .i .i64 n2, .u] = f45_t c lf (fun (x230 x231 x232 : Int) (x233 : List T) => lpK c env lf 6 fi45 4 1 [] [0, 1, 2, 3, 8] (x45_1_0) lf (f45_0_c x230 x231 x232 x233)) l0 n1 n2 := by kernel_rfl
theorem f45_eq (c : Orc) (lf : Nat) (l0 : List T) (n1 n2 : Int) : funK c env lf 6 fi45 [.sl l0, .i .i64 n1, .i .i64 n2, .u] = f45 c lf l0 n1 n2 := by
 refine (f45_raw c lf l0 n1 n2).trans ?_
 have e0 : (fun (x230 x231 x232 : Int) (x233 : List T) => lpK c env lf 6 fi45 4 1 [] [0, 1, 2, 3, 8] (x45_1_0) lf (f45_0_c x230 x231 x232 x233)) = (fun (x230 x231 x232 : Int) (x233 : List T) => f45_0 c lf lf x230 x231 x232 x233) := by funext x230 x231 x232 x233; exact f45_0_eq c lf lf x230 x231 x232 x233
 rw [e0]; rfl
def f71_0_s (c : Orc) (lf : Nat) (n1 n2 n3 : Int) (L : Int → List T → Option (List T)) (x243 : Int) (x244 : List T) : Option (List T) :=
 bif iLt x243 n3 then
  bif inR (IntKind.wrap .i64 (n2 + x243)) x244.length then
  bif inR (IntKind.wrap .i64 (n1 + x243)) x244.length then
  bif inR (IntKind.wrap .i64 (n1 + x243)) x244.length then
  bif inR (IntKind.wrap .i64 (n2 + x243)) ((x244.set ((IntKind.wrap .i64 (n1 + x243)).toNat) (T.st [T.i .i64 (asI (T.cell (x244.getD ((IntKind.wrap .i64 (n2 + x243)).toNat) T.u) 0)), T.i .i64 (asI (T.cell (x244.getD ((IntKind.wrap .i64 (n2 + x243)).toNat) T.u) 1))])).length) then
  L (IntKind.wrap .i64 (x243 + 1)) ((x244.set ((IntKind.wrap .i64 (n1 + x243)).toNat) (T.st [T.i .i64 (asI (T.cell (x244.getD ((IntKind.wrap .i64 (n2 + x243)).toNat) T.u) 0)), T.i .i64 (asI (T.cell (x244.getD ((IntKind.wrap .i64 (n2 + x243)).toNat) T.u) 1))])).set ((IntKind.wrap .i64 (n2 + x243)).toNat) (T.st [T.i .i64 (asI (T.cell (x244.getD ((IntKind.wrap .i64 (n1 + x243)).toNat) T.u) 0)), T.i .i64 (asI (T.cell (x244.getD ((IntKind.wrap .i64 (n1 + x243)).toNat) T.u) 1))]))
  else none
  else none
  else none
  else none
 else
  some [T.i .i64 0, T.sl x244]
def f71_0_c (n1 n2 : Int) (n3 x243 : Int) (x244 : List T) : CSt := ⟨[.rf 0 [] 0 none, .i .i64 n1, .i .i64 n2, .i .i64 n3, .i .i64 x243], [.row true [.i .i64, .i .i64] x244 0 false, .dead, .dead, .dead, .dead]⟩
theorem f71_0_round (c : Orc) (lf : Nat) (n1 n2 n3 : Int) (L : CSt → Option (List T)) (x243 : Int) (x244 : List T) :
 roundK c env lf 6 fi71 5 1 [] [0, 1, 2, 3, 10] (x71_1_0) L (f71_0_c n1 n2 n3 x243 x244) = f71_0_s c lf n1 n2 n3 (fun x243 x244 => L (f71_0_c n1 n2 n3 x243 x244)) x243 x244 := by kernel_rfl
def f71_0 (c : Orc) (lf : Nat) (n1 n2 n3 : Int) : Nat → Int → List T → Option (List T)
 | 0 => fun _ _ => none
 | n + 1 => fun x243 x244 => f71_0_s c lf n1 n2 n3 (f71_0 c lf n1 n2 n3 n) x243 x244
theorem f71_0_u (c : Orc) (lf : Nat) (n1 n2 n3 : Int) (n : Nat) (x243 : Int) (x244 : List T) : f71_0 c lf n1 n2 n3 (n + 1) x243 x244 = f71_0_s c lf n1 n2 n3 (f71_0 c lf n1 n2 n3 n) x243 x244 := rfl
theorem f71_0_eq (c : Orc) (lf : Nat) (n1 n2 n3 : Int) (n : Nat) (x243 : Int) (x244 : List T) :
 lpK c env lf 6 fi71 5 1 [] [0, 1, 2, 3, 10] (x71_1_0) n (f71_0_c n1 n2 n3 x243 x244) = f71_0 c lf n1 n2 n3 n x243 x244 := by
 induction n generalizing x243 x244 with
 | zero => rfl
 | succ n ih =>
  refine (f71_0_round c lf n1 n2 n3 _ x243 x244).trans ?_
  have e : (fun x243 x244 => lpK c env lf 6 fi71 5 1 [] [0, 1, 2, 3, 10] (x71_1_0) n (f71_0_c n1 n2 n3 x243 x244)) = f71_0 c lf n1 n2 n3 n := by funext x243 x244; exact ih x243 x244
  show f71_0_s c lf n1 n2 n3 (fun x243 x244 => lpK c env lf 6 fi71 5 1 [] [0, 1, 2, 3, 10] (x71_1_0) n (f71_0_c n1 n2 n3 x243 x244)) x243 x244 = _
  rw [e]; rfl
def f71_t (c : Orc) (lf : Nat) (lp0 : Int → Int → Int → Int → List T → Option (List T)) (l0 : List T) (n1 n2 n3 : Int) : Option (List T) :=
 (lp0 n1 n2 n3 0 l0).bind fun r245 =>
 some [T.sl (asL (nth r245 1))]
def f71 (c : Orc) (lf : Nat) (l0 : List T) (n1 n2 n3 : Int) : Option (List T) := f71_t c lf (fun (n1 n2 : Int) (n3 x243 : Int) (x244 : List T) => f71_0 c lf n1 n2 n3 lf x243 x244) l0 n1 n2 n3
theorem f71_raw (c : Orc) (lf : Nat) (l0 : List T) (n1 n2 n3 : Int) : funK c env lf 6 fi71 [.sl l0, .i .i64 n1, .i .i64 n2, .i .i64 n3, .u] = f71_t c lf (fun (n1 n2 : Int) (n3 x243 : Int) (x244 : List T) => lpK c env lf 6 fi71 5 1 [] [0, 1, 2, 3, 10] (x71_1_0) lf (f71_0_c n1 n2 n3 x243 x244)) l0 n1 n2 n3 := by kernel_rfl
theorem f71_eq (c : Orc) (lf : Nat) (l0 : List T) (n1 n2 n3 : Int) : funK c env lf 6 fi71 [.sl l0, .i .i64 n1, .i .i64 n2, .i .i64 n3, .u] = f71 c lf l0 n1 n2 n3 := by
 refine (f71_raw c lf l0 n1 n2 n3).trans ?_
 have e0 : (fun (n1 n2 : Int) (n3 x243 : Int) (x244 : List T) => lpK c env lf 6 fi71 5 1 [] [0, 1, 2, 3, 10] (x71_1_0) lf (f71_0_c n1 n2 n3 x243 x244)) = (fun (n1 n2 : Int) (n3 x243 : Int) (x244 : List T) => f71_0 c lf n1 n2 n3 lf x243 x244) := by funext n1 n2 n3 x243 x244; exact f71_0_eq c lf n1 n2 n3 lf x243 x244
 rw [e0]; rfl
def f63_0_s (c : Orc) (lf : Nat) (n2 : Int) (L : Int → Int → List T → Option (List T)) (x257 x259 : Int) (x258 : List T) : Option (List T) :=
 bif x257 != x259 then
  bif iLt x259 x257 then
   (c 71 [T.sl x258, T.i .i64 (IntKind.wrap .i64 (n2 - x257)), T.i .i64 n2, T.i .i64 x259, T.u]).bind fun r260 =>
   L (IntKind.wrap .i64 (x257 - x259)) x259 (asL (nth r260 0))
  else
   (c 71 [T.sl x258, T.i .i64 (IntKind.wrap .i64 (n2 - x257)), T.i .i64 (IntKind.wrap .i64 ((IntKind.wrap .i64 (n2 + x259)) - x257)), T.i .i64 x257, T.u]).bind fun r261 =>
   L x257 (IntKind.wrap .i64 (x259 - x257)) (asL (nth r261 0))
 else
  some [T.i .i64 0, T.i .i64 n2, T.i .i64 x257, T.sl x258]
def f63_0_c (n2 x257 x259 : Int) (x258 : List T) : CSt := ⟨[.rf 0 [] 0 none, .i .i64 n2, .fn 19 [], .i .i64 x257, .i .i64 x259], [.row true [.i .i64, .i .i64] x258 0 false, .dead, .dead, .dead, .dead]⟩
theorem f63_0_round (c : Orc) (lf : Nat) (n2 : Int) (L : CSt → Option (List T)) (x257 x259 : Int) (x258 : List T) :
 roundK c env lf 6 fi63 5 2 [] [0, 2, 4, 10, 11] (x63_2_0) L (f63_0_c n2 x257 x259 x258) = f63_0_s c lf n2 (fun x257 x259 x258 => L (f63_0_c n2 x257 x259 x258)) x257 x259 x258 := by kernel_rfl
def f63_0 (c : Orc) (lf : Nat) (n2 : Int) : Nat → Int → Int → List T → Option (List T)
 | 0 => fun _ _ _ => none
 | n + 1 => fun x257 x259 x258 => f63_0_s c lf n2 (f63_0 c lf n2 n) x257 x259 x258
theorem f63_0_u (c : Orc) (lf : Nat) (n2 : Int) (n : Nat) (x257 x259 : Int) (x258 : List T) : f63_0 c lf n2 (n + 1) x257 x259 x258 = f63_0_s c lf n2 (f63_0 c lf n2 n) x257 x259 x258 := rfl
theorem f63_0_eq (c : Orc) (lf : Nat) (n2 : Int) (n : Nat) (x257 x259 : Int) (x258 : List T) :
 lpK c env lf 6 fi63 5 2 [] [0, 2, 4, 10, 11] (x63_2_0) n (f63_0_c n2 x257 x259 x258) = f63_0 c lf n2 n x257 x259 x258 := by
 induction n generalizing x257 x259 x258 with
 | zero => rfl
 | succ n ih =>
  refine (f63_0_round c lf n2 _ x257 x259 x258).trans ?_
  have e : (fun x257 x259 x258 => lpK c env lf 6 fi63 5 2 [] [0, 2, 4, 10, 11] (x63_2_0) n (f63_0_c n2 x257 x259 x258)) = f63_0 c lf n2 n := by funext x257 x259 x258; exact ih x257 x259 x258
  show f63_0_s c lf n2 (fun x257 x259 x258 => lpK c env lf 6 fi63 5 2 [] [0, 2, 4, 10, 11] (x63_2_0) n (f63_0_c n2 x257 x259 x258)) x257 x259 x258 = _
  rw [e]; rfl
def f63_t (c : Orc) (lf : Nat) (lp0 : Int → Int → Int → List T → Option (List T)) (l0 : List T) (n1 n2 n3 : Int) : Option (List T) :=
 (lp0 n2 (IntKind.wrap .i64 (n2 - n1)) (IntKind.wrap .i64 (n3 - n2)) l0).bind fun r262 =>
 (c 71 [T.sl (asL (nth r262 3)), T.i .i64 (IntKind.wrap .i64 ((asI (nth r262 1)) - (asI (nth r262 2)))), T.i .i64 (asI (nth r262 1)), T.i .i64 (asI (nth r262 2)), T.u]).bind fun r263 =>
 some [T.sl (asL (nth r263 0))]
def f63 (c : Orc) (lf : Nat) (l0 : List T) (n1 n2 n3 : Int) : Option (List T) := f63_t c lf (fun (n2 x257 x259 : Int) (x258 : List T) => f63_0 c lf n2 lf x257 x259 x258) l0 n1 n2 n3
theorem f63_raw (c : Orc) (lf : Nat) (l0 : List T) (n1 n2 n3 : Int) : funK c env lf 6 fi63 [.sl l0, .i .i64 n1, .i .i64 n2, .i .i64 n3, .u] = f63_t c lf (fun (n2 x257 x259 : Int) (x258 : List T) => lpK c env lf 6 fi63 5 2 [] [0, 2, 4, 10, 11] (x63_2_0) lf (f63_0_c n2 x257 x259 x258)) l0 n1 n2 n3 := by kernel_rfl
theorem f63_eq (c : Orc) (lf : Nat) (l0 : List T) (n1 n2 n3 : Int) : funK c env lf 6 fi63 [.sl l0, .i .i64 n1, .i .i64 n2, .i .i64 n3, .u] = f63 c lf l0 n1 n2 n3 := by
 refine (f63_raw c lf l0 n1 n2 n3).trans ?_
 have e0 : (fun (n2 x257 x259 : Int) (x258 : List T) => lpK c env lf 6 fi63 5 2 [] [0, 2, 4, 10, 11] (x63_2_0) lf (f63_0_c n2 x257 x259 x258)) = (fun (n2 x257 x259 : Int) (x258 : List T) => f63_0 c lf n2 lf x257 x259 x258) := by funext n2 x257 x259 x258; exact f63_0_eq c lf n2 lf x257 x259 x258
 rw [e0]; rfl
def f46_0_s (c : Orc) (lf : Nat) (l0 : List T) (n1 : Int) (L : Int → Int → Option (List T)) (x317 x318 : Int) : Option (List T) :=
 bif iLt x317 x318 then
  bif inR (IntKind.wrap .i64 (shiftI .shr .u64 (IntKind.wrap .u64 (IntKind.wrap .i64 (x317 + x318))) 1)) l0.length then
  bif inR n1 l0.length then
  (c 19 [T.st [T.i .i64 (asI (T.cell (l0.getD ((IntKind.wrap .i64 (shiftI .shr .u64 (IntKind.wrap .u64 (IntKind.wrap .i64 (x317 + x318))) 1)).toNat) T.u) 0)), T.i .i64 (asI (T.cell (l0.getD ((IntKind.wrap .i64 (shiftI .shr .u64 (IntKind.wrap .u64 (IntKind.wrap .i64 (x317 + x318))) 1)).toNat) T.u) 1))], T.st [T.i .i64 (asI (T.cell (l0.getD n1.toNat T.u) 0)), T.i .i64 (asI (T.cell (l0.getD n1.toNat T.u) 1))]]).bind fun r319 =>
  bif iLt (asI (nth r319 0)) 0 then
   L (IntKind.wrap .i64 ((IntKind.wrap .i64 (shiftI .shr .u64 (IntKind.wrap .u64 (IntKind.wrap .i64 (x317 + x318))) 1)) + 1)) x318
  else
   L x317 (IntKind.wrap .i64 (shiftI .shr .u64 (IntKind.wrap .u64 (IntKind.wrap .i64 (x317 + x318))) 1))
  else none
  else none
 else
  some [T.i .i64 0, T.i .i64 n1, T.i .i64 x317, T.sl l0]
def f46_0_c (l0 : List T) (n1 x317 x318 : Int) : CSt := ⟨[.rf 0 [] 0 none, .i .i64 n1, .fn 19 [], .i .i64 x317, .i .i64 x318], [.row true [.i .i64, .i .i64] l0 0 false, .dead, .dead, .dead, .dead]⟩
theorem f46_0_round (c : Orc) (lf : Nat) (l0 : List T) (n1 : Int) (L : CSt → Option (List T)) (x317 x318 : Int) :
 roundK c env lf 6 fi46 5 3 [] [0, 1, 4, 10, 11] (x46_3_0) L (f46_0_c l0 n1 x317 x318) = f46_0_s c lf l0 n1 (fun x317 x318 => L (f46_0_c l0 n1 x317 x318)) x317 x318 := by kernel_rfl
def f46_0 (c : Orc) (lf : Nat) (l0 : List T) (n1 : Int) : Nat → Int → Int → Option (List T)
 | 0 => fun _ _ => none
 | n + 1 => fun x317 x318 => f46_0_s c lf l0 n1 (f46_0 c lf l0 n1 n) x317 x318
theorem f46_0_u (c : Orc) (lf : Nat) (l0 : List T) (n1 : Int) (n : Nat) (x317 x318 : Int) : f46_0 c lf l0 n1 (n + 1) x317 x318 = f46_0_s c lf l0 n1 (f46_0 c lf l0 n1 n) x317 x318 := rfl
theorem f46_0_eq (c : Orc) (lf : Nat) (l0 : List T) (n1 : Int) (n : Nat) (x317 x318 : Int) :
 lpK c env lf 6 fi46 5 3 [] [0, 1, 4, 10, 11] (x46_3_0) n (f46_0_c l0 n1 x317 x318) = f46_0 c lf l0 n1 n x317 x318 := by
 induction n generalizing x317 x318 with
 | zero => rfl
 | succ n ih =>
  refine (f46_0_round c lf l0 n1 _ x317 x318).trans ?_
  have e : (fun x317 x318 => lpK c env lf 6 fi46 5 3 [] [0, 1, 4, 10, 11] (x46_3_0) n (f46_0_c l0 n1 x317 x318)) = f46_0 c lf l0 n1 n := by funext x317 x318; exact ih x317 x318
  show f46_0_s c lf l0 n1 (fun x317 x318 => lpK c env lf 6 fi46 5 3 [] [0, 1, 4, 10, 11] (x46_3_0) n (f46_0_c l0 n1 x317 x318)) x317 x318 = _
  rw [e]; rfl
def f46_1_s (c : Orc) (lf : Nat) (r320 : List T) (L : Int → List T → Option (List T)) (x321 : Int) (x322 : List T) : Option (List T) :=
 bif iLt x321 (IntKind.wrap .i64 ((asI (nth r320 2)) - 1)) then
  bif inR (IntKind.wrap .i64 (x321 + 1)) x322.length then
  bif inR x321 x322.length then
  bif inR x321 x322.length then
  bif inR (IntKind.wrap .i64 (x321 + 1)) ((x322.set x321.toNat (T.st [T.i .i64 (asI (T.cell (x322.getD ((IntKind.wrap .i64 (x321 + 1)).toNat) T.u) 0)), T.i .i64 (asI (T.cell (x322.getD ((IntKind.wrap .i64 (x321 + 1)).toNat) T.u) 1))])).length) then
  L (IntKind.wrap .i64 (x321 + 1)) ((x322.set x321.toNat (T.st [T.i .i64 (asI (T.cell (x322.getD ((IntKind.wrap .i64 (x321 + 1)).toNat) T.u) 0)), T.i .i64 (asI (T.cell (x322.getD ((IntKind.wrap .i64 (x321 + 1)).toNat) T.u) 1))])).set ((IntKind.wrap .i64 (x321 + 1)).toNat) (T.st [T.i .i64 (asI (T.cell (x322.getD x321.toNat T.u) 0)), T.i .i64 (asI (T.cell (x322.getD x321.toNat T.u) 1))]))
  else none
  else none
  else none
  else none
 else
  some [T.i .i64 0, T.sl x322]
def f46_1_c (r320 : List T) (x321 : Int) (x322 : List T) : CSt := ⟨[.rf 0 [] 0 none, .i .i64 (asI (nth r320 2)), .i .i64 x321], [.row true [.i .i64, .i .i64] x322 0 false, .dead, .dead, .dead, .dead]⟩
theorem f46_1_round (c : Orc) (lf : Nat) (r320 : List T) (L : CSt → Option (List T)) (x321 : Int) (x322 : List T) :
 roundK c env lf 6 fi46 5 9 [] [0, 10, 13] (x46_9_0) L (f46_1_c r320 x321 x322) = f46_1_s c lf r320 (fun x321 x322 => L (f46_1_c r320 x321 x322)) x321 x322 := by kernel_rfl
def f46_1 (c : Orc) (lf : Nat) (r320 : List T) : Nat → Int → List T → Option (List T)
 | 0 => fun _ _ => none
 | n + 1 => fun x321 x322 => f46_1_s c lf r320 (f46_1 c lf r320 n) x321 x322
theorem f46_1_u (c : Orc) (lf : Nat) (r320 : List T) (n : Nat) (x321 : Int) (x322 : List T) : f46_1 c lf r320 (n + 1) x321 x322 = f46_1_s c lf r320 (f46_1 c lf r320 n) x321 x322 := rfl
theorem f46_1_eq (c : Orc) (lf : Nat) (r320 : List T) (n : Nat) (x321 : Int) (x322 : List T) :
 lpK c env lf 6 fi46 5 9 [] [0, 10, 13] (x46_9_0) n (f46_1_c r320 x321 x322) = f46_1 c lf r320 n x321 x322 := by
 induction n generalizing x321 x322 with
 | zero => rfl
 | succ n ih =>
  refine (f46_1_round c lf r320 _ x321 x322).trans ?_
  have e : (fun x321 x322 => lpK c env lf 6 fi46 5 9 [] [0, 10, 13] (x46_9_0) n (f46_1_c r320 x321 x322)) = f46_1 c lf r320 n := by funext x321 x322; exact ih x321 x322
  show f46_1_s c lf r320 (fun x321 x322 => lpK c env lf 6 fi46 5 9 [] [0, 10, 13] (x46_9_0) n (f46_1_c r320 x321 x322)) x321 x322 = _
  rw [e]; rfl
def f46_2_s (c : Orc) (lf : Nat) (l0 : List T) (n2 : Int) (L : Int → Int → Option (List T)) (x325 x326 : Int) : Option (List T) :=
 bif iLt x325 x326 then
  bif inR n2 l0.length then
  bif inR (IntKind.wrap .i64 (shiftI .shr .u64 (IntKind.wrap .u64 (IntKind.wrap .i64 (x325 + x326))) 1)) l0.length then
  (c 19 [T.st [T.i .i64 (asI (T.cell (l0.getD n2.toNat T.u) 0)), T.i .i64 (asI (T.cell (l0.getD n2.toNat T.u) 1))], T.st [T.i .i64 (asI (T.cell (l0.getD ((IntKind.wrap .i64 (shiftI .shr .u64 (IntKind.wrap .u64 (IntKind.wrap .i64 (x325 + x326))) 1)).toNat) T.u) 0)), T.i .i64 (asI (T.cell (l0.getD ((IntKind.wrap .i64 (shiftI .shr .u64 (IntKind.wrap .u64 (IntKind.wrap .i64 (x325 + x326))) 1)).toNat) T.u) 1))]]).bind fun r327 =>
  bif !(iLt (asI (nth r327 0)) 0) then
   L (IntKind.wrap .i64 ((IntKind.wrap .i64 (shiftI .shr .u64 (IntKind.wrap .u64 (IntKind.wrap .i64 (x325 + x326))) 1)) + 1)) x326
  else
   L x325 (IntKind.wrap .i64 (shiftI .shr .u64 (IntKind.wrap .u64 (IntKind.wrap .i64 (x325 + x326))) 1))
  else none
  else none
 else
  some [T.i .i64 0, T.i .i64 n2, T.i .i64 x325, T.sl l0]
def f46_2_c (l0 : List T) (n2 x325 x326 : Int) : CSt := ⟨[.rf 0 [] 0 none, .i .i64 n2, .fn 19 [], .i .i64 x325, .i .i64 x326], [.row true [.i .i64, .i .i64] l0 0 false, .dead, .dead, .dead, .dead]⟩
theorem f46_2_round (c : Orc) (lf : Nat) (l0 : List T) (n2 : Int) (L : CSt → Option (List T)) (x325 x326 : Int) :
 roundK c env lf 6 fi46 5 15 [] [0, 2, 4, 14, 15] (x46_15_0) L (f46_2_c l0 n2 x325 x326) = f46_2_s c lf l0 n2 (fun x325 x326 => L (f46_2_c l0 n2 x325 x326)) x325 x326 := by kernel_rfl
def f46_2 (c : Orc) (lf : Nat) (l0 : List T) (n2 : Int) : Nat → Int → Int → Option (List T)
 | 0 => fun _ _ => none
 | n + 1 => fun x325 x326 => f46_2_s c lf l0 n2 (f46_2 c lf l0 n2 n) x325 x326
theorem f46_2_u (c : Orc) (lf : Nat) (l0 : List T) (n2 : Int) (n : Nat) (x325 x326 : Int) : f46_2 c lf l0 n2 (n + 1) x325 x326 = f46_2_s c lf l0 n2 (f46_2 c lf l0 n2 n) x325 x326 := rfl
theorem f46_2_eq (c : Orc) (lf : Nat) (l0 : List T) (n2 : Int) (n : Nat) (x325 x326 : Int) :
 lpK c env lf 6 fi46 5 15 [] [0, 2, 4, 14, 15] (x46_15_0) n (f46_2_c l0 n2 x325 x326) = f46_2 c lf l0 n2 n x325 x326 := by
 induction n generalizing x325 x326 with
 | zero => rfl
 | succ n ih =>
  refine (f46_2_round c lf l0 n2 _ x325 x326).trans ?_
  have e : (fun x325 x326 => lpK c env lf 6 fi46 5 15 [] [0, 2, 4, 14, 15] (x46_15_0) n (f46_2_c l0 n2 x325 x326)) = f46_2 c lf l0 n2 n := by funext x325 x326; exact ih x325 x326
  show f46_2_s c lf l0 n2 (fun x325 x326 => lpK c env lf 6 fi46 5 15 [] [0, 2, 4, 14, 15] (x46_15_0) n (f46_2_c l0 n2 x325 x326)) x325 x326 = _
  rw [e]; rfl
def f46_3_s (c : Orc) (lf : Nat) (r328 : List T) (L : Int → List T → Option (List T)) (x329 : Int) (x330 : List T) : Option (List T) :=
 bif iLt (asI (nth r328 2)) x329 then
  bif inR (IntKind.wrap .i64 (x329 - 1)) x330.length then
  bif inR x329 x330.length then
  bif inR x329 x330.length then
  bif inR (IntKind.wrap .i64 (x329 - 1)) ((x330.set x329.toNat (T.st [T.i .i64 (asI (T.cell (x330.getD ((IntKind.wrap .i64 (x329 - 1)).toNat) T.u) 0)), T.i .i64 (asI (T.cell (x330.getD ((IntKind.wrap .i64 (x329 - 1)).toNat) T.u) 1))])).length) then
  L (IntKind.wrap .i64 (x329 - 1)) ((x330.set x329.toNat (T.st [T.i .i64 (asI (T.cell (x330.getD ((IntKind.wrap .i64 (x329 - 1)).toNat) T.u) 0)), T.i .i64 (asI (T.cell (x330.getD ((IntKind.wrap .i64 (x329 - 1)).toNat) T.u) 1))])).set ((IntKind.wrap .i64 (x329 - 1)).toNat) (T.st [T.i .i64 (asI (T.cell (x330.getD x329.toNat T.u) 0)), T.i .i64 (asI (T.cell (x330.getD x329.toNat T.u) 1))]))
  else none
  else none
  else none
  else none
 else
  some [T.i .i64 0, T.sl x330]
def f46_3_c (r328 : List T) (x329 : Int) (x330 : List T) : CSt := ⟨[.rf 0 [] 0 none, .i .i64 (asI (nth r328 2)), .i .i64 x329], [.row true [.i .i64, .i .i64] x330 0 false, .dead, .dead, .dead, .dead]⟩
theorem f46_3_round (c : Orc) (lf : Nat) (r328 : List T) (L : CSt → Option (List T)) (x329 : Int) (x330 : List T) :
 roundK c env lf 6 fi46 5 21 [] [0, 14, 17] (x46_21_0) L (f46_3_c r328 x329 x330) = f46_3_s c lf r328 (fun x329 x330 => L (f46_3_c r328 x329 x330)) x329 x330 := by kernel_rfl
def f46_3 (c : Orc) (lf : Nat) (r328 : List T) : Nat → Int → List T → Option (List T)
 | 0 => fun _ _ => none
 | n + 1 => fun x329 x330 => f46_3_s c lf r328 (f46_3 c lf r328 n) x329 x330
theorem f46_3_u (c : Orc) (lf : Nat) (r328 : List T) (n : Nat) (x329 : Int) (x330 : List T) : f46_3 c lf r328 (n + 1) x329 x330 = f46_3_s c lf r328 (f46_3 c lf r328 n) x329 x330 := rfl
theorem f46_3_eq (c : Orc) (lf : Nat) (r328 : List T) (n : Nat) (x329 : Int) (x330 : List T) :
 lpK c env lf 6 fi46 5 21 [] [0, 14, 17] (x46_21_0) n (f46_3_c r328 x329 x330) = f46_3 c lf r328 n x329 x330 := by
 induction n generalizing x329 x330 with
 | zero => rfl
 | succ n ih =>
  refine (f46_3_round c lf r328 _ x329 x330).trans ?_
  have e : (fun x329 x330 => lpK c env lf 6 fi46 5 21 [] [0, 14, 17] (x46_21_0) n (f46_3_c r328 x329 x330)) = f46_3 c lf r328 n := by funext x329 x330; exact ih x329 x330
  show f46_3_s c lf r328 (fun x329 x330 => lpK c env lf 6 fi46 5 21 [] [0, 14, 17] (x46_21_0) n (f46_3_c r328 x329 x330)) x329 x330 = _
  rw [e]; rfl
def f46_4_s (c : Orc) (lf : Nat) (l0 : List T) (n1 n2 n3 : Int) (L : Int → Int → Option (List T)) (x333 x334 : Int) : Option (List T) :=
 bif iLt x333 x334 then
  bif inR (IntKind.wrap .i64 ((IntKind.wrap .i64 ((IntKind.wrap .i64 ((IntKind.wrap .i64 (shiftI .shr .u64 (IntKind.wrap .u64 (IntKind.wrap .i64 (n1 + n3))) 1)) + n2)) - 1)) - (IntKind.wrap .i64 (shiftI .shr .u64 (IntKind.wrap .u64 (IntKind.wrap .i64 (x333 + x334))) 1)))) l0.length then
  bif inR (IntKind.wrap .i64 (shiftI .shr .u64 (IntKind.wrap .u64 (IntKind.wrap .i64 (x333 + x334))) 1)) l0.length then
  (c 19 [T.st [T.i .i64 (asI (T.cell (l0.getD ((IntKind.wrap .i64 ((IntKind.wrap .i64 ((IntKind.wrap .i64 ((IntKind.wrap .i64 (shiftI .shr .u64 (IntKind.wrap .u64 (IntKind.wrap .i64 (n1 + n3))) 1)) + n2)) - 1)) - (IntKind.wrap .i64 (shiftI .shr .u64 (IntKind.wrap .u64 (IntKind.wrap .i64 (x333 + x334))) 1)))).toNat) T.u) 0)), T.i .i64 (asI (T.cell (l0.getD ((IntKind.wrap .i64 ((IntKind.wrap .i64 ((IntKind.wrap .i64 ((IntKind.wrap .i64 (shiftI .shr .u64 (IntKind.wrap .u64 (IntKind.wrap .i64 (n1 + n3))) 1)) + n2)) - 1)) - (IntKind.wrap .i64 (shiftI .shr .u64 (IntKind.wrap .u64 (IntKind.wrap .i64 (x333 + x334))) 1)))).toNat) T.u) 1))], T.st [T.i .i64 (asI (T.cell (l0.getD ((IntKind.wrap .i64 (shiftI .shr .u64 (IntKind.wrap .u64 (IntKind.wrap .i64 (x333 + x334))) 1)).toNat) T.u) 0)), T.i .i64 (asI (T.cell (l0.getD ((IntKind.wrap .i64 (shiftI .shr .u64 (IntKind.wrap .u64 (IntKind.wrap .i64 (x333 + x334))) 1)).toNat) T.u) 1))]]).bind fun r335 =>
  bif !(iLt (asI (nth r335 0)) 0) then
   L (IntKind.wrap .i64 ((IntKind.wrap .i64 (shiftI .shr .u64 (IntKind.wrap .u64 (IntKind.wrap .i64 (x333 + x334))) 1)) + 1)) x334
  else
   L x333 (IntKind.wrap .i64 (shiftI .shr .u64 (IntKind.wrap .u64 (IntKind.wrap .i64 (x333 + x334))) 1))
  else none
  else none
 else
  some [T.i .i64 0, T.i .i64 n1, T.i .i64 n2, T.i .i64 n3, T.i .i64 (IntKind.wrap .i64 (shiftI .shr .u64 (IntKind.wrap .u64 (IntKind.wrap .i64 (n1 + n3))) 1)), T.i .i64 (IntKind.wrap .i64 ((IntKind.wrap .i64 (shiftI .shr .u64 (IntKind.wrap .u64 (IntKind.wrap .i64 (n1 + n3))) 1)) + n2)), T.i .i64 x333, T.sl l0]
def f46_4_c (l0 : List T) (n1 n2 : Int) (n3 x333 x334 : Int) : CSt := ⟨[.rf 0 [] 0 none, .i .i64 n1, .i .i64 n2, .i .i64 n3, .fn 19 [], .i .i64 (IntKind.wrap .i64 (shiftI .shr .u64 (IntKind.wrap .u64 (IntKind.wrap .i64 (n1 + n3))) 1)), .i .i64 (IntKind.wrap .i64 ((IntKind.wrap .i64 (shiftI .shr .u64 (IntKind.wrap .u64 (IntKind.wrap .i64 (n1 + n3))) 1)) + n2)), .i .i64 x333, .i .i64 x334, .i .i64 (IntKind.wrap .i64 ((IntKind.wrap .i64 ((IntKind.wrap .i64 (shiftI .shr .u64 (IntKind.wrap .u64 (IntKind.wrap .i64 (n1 + n3))) 1)) + n2)) - 1))], [.row true [.i .i64, .i .i64] l0 0 false, .dead, .dead, .dead, .dead]⟩
theorem f46_4_round (c : Orc) (lf : Nat) (l0 : List T) (n1 n2 n3 : Int) (L : CSt → Option (List T)) (x333 x334 : Int) :
 roundK c env lf 6 fi46 5 33 [] [0, 1, 2, 3, 4, 18, 19, 20, 21, 22] (x46_33_0) L (f46_4_c l0 n1 n2 n3 x333 x334) = f46_4_s c lf l0 n1 n2 n3 (fun x333 x334 => L (f46_4_c l0 n1 n2 n3 x333 x334)) x333 x334 := by kernel_rfl
def f46_4 (c : Orc) (lf : Nat) (l0 : List T) (n1 n2 n3 : Int) : Nat → Int → Int → Option (List T)
 | 0 => fun _ _ => none
 | n + 1 => fun x333 x334 => f46_4_s c lf l0 n1 n2 n3 (f46_4 c lf l0 n1 n2 n3 n) x333 x334
theorem f46_4_u (c : Orc) (lf : Nat) (l0 : List T) (n1 n2 n3 : Int) (n : Nat) (x333 x334 : Int) : f46_4 c lf l0 n1 n2 n3 (n + 1) x333 x334 = f46_4_s c lf l0 n1 n2 n3 (f46_4 c lf l0 n1 n2 n3 n) x333 x334 := rfl
theorem f46_4_eq (c : Orc) (lf : Nat) (l0 : List T) (n1 n2 n3 : Int) (n : Nat) (x333 x334 : Int) :
 lpK c env lf 6 fi46 5 33 [] [0, 1, 2, 3, 4, 18, 19, 20, 21, 22] (x46_33_0) n (f46_4_c l0 n1 n2 n3 x333 x334) = f46_4 c lf l0 n1 n2 n3 n x333 x334 := by
 induction n generalizing x333 x334 with
 | zero => rfl
 | succ n ih =>
  refine (f46_4_round c lf l0 n1 n2 n3 _ x333 x334).trans ?_
  have e : (fun x333 x334 => lpK c env lf 6 fi46 5 33 [] [0, 1, 2, 3, 4, 18, 19, 20, 21, 22] (x46_33_0) n (f46_4_c l0 n1 n2 n3 x333 x334)) = f46_4 c lf l0 n1 n2 n3 n := by funext x333 x334; exact ih x333 x334
  show f46_4_s c lf l0 n1 n2 n3 (fun x333 x334 => lpK c env lf 6 fi46 5 33 [] [0, 1, 2, 3, 4, 18, 19, 20, 21, 22] (x46_33_0) n (f46_4_c l0 n1 n2 n3 x333 x334)) x333 x334 = _
  rw [e]; rfl
def f46_5_s (c : Orc) (lf : Nat) (l0 : List T) (n1 n2 n3 : Int) (L : Int → Int → Option (List T)) (x351 x352 : Int) : Option (List T) :=
 bif iLt x351 x352 then
  bif inR (IntKind.wrap .i64 ((IntKind.wrap .i64 ((IntKind.wrap .i64 ((IntKind.wrap .i64 (shiftI .shr .u64 (IntKind.wrap .u64 (IntKind.wrap .i64 (n1 + n3))) 1)) + n2)) - 1)) - (IntKind.wrap .i64 (shiftI .shr .u64 (IntKind.wrap .u64 (IntKind.wrap .i64 (x351 + x352))) 1)))) l0.length then
  bif inR (IntKind.wrap .i64 (shiftI .shr .u64 (IntKind.wrap .u64 (IntKind.wrap .i64 (x351 + x352))) 1)) l0.length then
  (c 19 [T.st [T.i .i64 (asI (T.cell (l0.getD ((IntKind.wrap .i64 ((IntKind.wrap .i64 ((IntKind.wrap .i64 ((IntKind.wrap .i64 (shiftI .shr .u64 (IntKind.wrap .u64 (IntKind.wrap .i64 (n1 + n3))) 1)) + n2)) - 1)) - (IntKind.wrap .i64 (shiftI .shr .u64 (IntKind.wrap .u64 (IntKind.wrap .i64 (x351 + x352))) 1)))).toNat) T.u) 0)), T.i .i64 (asI (T.cell (l0.getD ((IntKind.wrap .i64 ((IntKind.wrap .i64 ((IntKind.wrap .i64 ((IntKind.wrap .i64 (shiftI .shr .u64 (IntKind.wrap .u64 (IntKind.wrap .i64 (n1 + n3))) 1)) + n2)) - 1)) - (IntKind.wrap .i64 (shiftI .shr .u64 (IntKind.wrap .u64 (IntKind.wrap .i64 (x351 + x352))) 1)))).toNat) T.u) 1))], T.st [T.i .i64 (asI (T.cell (l0.getD ((IntKind.wrap .i64 (shiftI .shr .u64 (IntKind.wrap .u64 (IntKind.wrap .i64 (x351 + x352))) 1)).toNat) T.u) 0)), T.i .i64 (asI (T.cell (l0.getD ((IntKind.wrap .i64 (shiftI .shr .u64 (IntKind.wrap .u64 (IntKind.wrap .i64 (x351 + x352))) 1)).toNat) T.u) 1))]]).bind fun r353 =>
  bif !(iLt (asI (nth r353 0)) 0) then
   L (IntKind.wrap .i64 ((IntKind.wrap .i64 (shiftI .shr .u64 (IntKind.wrap .u64 (IntKind.wrap .i64 (x351 + x352))) 1)) + 1)) x352
  else
   L x351 (IntKind.wrap .i64 (shiftI .shr .u64 (IntKind.wrap .u64 (IntKind.wrap .i64 (x351 + x352))) 1))
  else none
  else none
 else
  some [T.i .i64 0, T.i .i64 n1, T.i .i64 n2, T.i .i64 n3, T.i .i64 (IntKind.wrap .i64 (shiftI .shr .u64 (IntKind.wrap .u64 (IntKind.wrap .i64 (n1 + n3))) 1)), T.i .i64 (IntKind.wrap .i64 ((IntKind.wrap .i64 (shiftI .shr .u64 (IntKind.wrap .u64 (IntKind.wrap .i64 (n1 + n3))) 1)) + n2)), T.i .i64 x351, T.sl l0]
def f46_5_c (l0 : List T) (n1 n2 : Int) (n3 x351 x352 : Int) : CSt := ⟨[.rf 0 [] 0 none, .i .i64 n1, .i .i64 n2, .i .i64 n3, .fn 19 [], .i .i64 (IntKind.wrap .i64 (shiftI .shr .u64 (IntKind.wrap .u64 (IntKind.wrap .i64 (n1 + n3))) 1)), .i .i64 (IntKind.wrap .i64 ((IntKind.wrap .i64 (shiftI .shr .u64 (IntKind.wrap .u64 (IntKind.wrap .i64 (n1 + n3))) 1)) + n2)), .i .i64 x351, .i .i64 x352, .i .i64 (IntKind.wrap .i64 ((IntKind.wrap .i64 ((IntKind.wrap .i64 (shiftI .shr .u64 (IntKind.wrap .u64 (IntKind.wrap .i64 (n1 + n3))) 1)) + n2)) - 1))], [.row true [.i .i64, .i .i64] l0 0 false, .dead, .dead, .dead, .dead]⟩
theorem f46_5_round (c : Orc) (lf : Nat) (l0 : List T) (n1 n2 n3 : Int) (L : CSt → Option (List T)) (x351 x352 : Int) :
 roundK c env lf 6 fi46 5 33 [] [0, 1, 2, 3, 4, 18, 19, 20, 21, 22] (x46_33_0) L (f46_5_c l0 n1 n2 n3 x351 x352) = f46_5_s c lf l0 n1 n2 n3 (fun x351 x352 => L (f46_5_c l0 n1 n2 n3 x351 x352)) x351 x352 := by kernel_rfl
def f46_5 (c : Orc) (lf : Nat) (l0 : List T) (n1 n2 n3 : Int) : Nat → Int → Int → Option (List T)
 | 0 => fun _ _ => none
 | n + 1 => fun x351 x352 => f46_5_s c lf l0 n1 n2 n3 (f46_5 c lf l0 n1 n2 n3 n) x351 x352
theorem f46_5_u (c : Orc) (lf : Nat) (l0 : List T) (n1 n2 n3 : Int) (n : Nat) (x351 x352 : Int) : f46_5 c lf l0 n1 n2 n3 (n + 1) x351 x352 = f46_5_s c lf l0 n1 n2 n3 (f46_5 c lf l0 n1 n2 n3 n) x351 x352 := rfl
theorem f46_5_eq (c : Orc) (lf : Nat) (l0 : List T) (n1 n2 n3 : Int) (n : Nat) (x351 x352 : Int) :
 lpK c env lf 6 fi46 5 33 [] [0, 1, 2, 3, 4, 18, 19, 20, 21, 22] (x46_33_0) n (f46_5_c l0 n1 n2 n3 x351 x352) = f46_5 c lf l0 n1 n2 n3 n x351 x352 := by
 induction n generalizing x351 x352 with
 | zero => rfl
 | succ n ih =>
  refine (f46_5_round c lf l0 n1 n2 n3 _ x351 x352).trans ?_
  have e : (fun x351 x352 => lpK c env lf 6 fi46 5 33 [] [0, 1, 2, 3, 4, 18, 19, 20, 21, 22] (x46_33_0) n (f46_5_c l0 n1 n2 n3 x351 x352)) = f46_5 c lf l0 n1 n2 n3 n := by funext x351 x352; exact ih x351 x352
  show f46_5_s c lf l0 n1 n2 n3 (fun x351 x352 => lpK c env lf 6 fi46 5 33 [] [0, 1, 2, 3, 4, 18, 19, 20, 21, 22] (x46_33_0) n (f46_5_c l0 n1 n2 n3 x351 x352)) x351 x352 = _
  rw [e]; rfl
def f46_t (c : Orc) (lf : Nat) (lp0 : List T → Int → Int → Int → Option (List T)) (lp1 : List T → Int → List T → Option (List T)) (lp2 : List T → Int → Int → Int → Option (List T)) (lp3 : List T → Int → List T → Option (List T)) (lp4 : List T → Int → Int → Int → Int → Int → Option (List T)) (lp5 : List T → Int → Int → Int → Int → Int → Option (List T)) (l0 : List T) (n1 n2 n3 : Int) : Option (List T) :=
 bif (IntKind.wrap .i64 (n2 - n1)) == 1 then
  (lp0 l0 n1 n2 n3).bind fun r320 =>
  (lp1 r320 (asI (nth r320 1)) (asL (nth r320 3))).bind fun r323 =>
  some [T.sl (asL (nth r323 1))]
 else
  bif (IntKind.wrap .i64 (n3 - n2)) == 1 then
   (lp2 l0 n2 n1 n2).bind fun r328 =>
   (lp3 r328 (asI (nth r328 1)) (asL (nth r328 3))).bind fun r331 =>
   some [T.sl (asL (nth r331 1))]
  else
   bif iLt (IntKind.wrap .i64 (shiftI .shr .u64 (IntKind.wrap .u64 (IntKind.wrap .i64 (n1 + n3))) 1)) n2 then
    (lp4 l0 n1 n2 n3 (IntKind.wrap .i64 ((IntKind.wrap .i64 ((IntKind.wrap .i64 (shiftI .shr .u64 (IntKind.wrap .u64 (IntKind.wrap .i64 (n1 + n3))) 1)) + n2)) - n3)) (IntKind.wrap .i64 (shiftI .shr .u64 (IntKind.wrap .u64 (IntKind.wrap .i64 (n1 + n3))) 1))).bind fun r336 =>
    bif iLt (asI (nth r336 6)) (asI (nth r336 2)) then
     bif iLt (asI (nth r336 2)) (IntKind.wrap .i64 ((asI (nth r336 5)) - (asI (nth r336 6)))) then
      (c 63 [T.sl (asL (nth r336 7)), T.i .i64 (asI (nth r336 6)), T.i .i64 (asI (nth r336 2)), T.i .i64 (IntKind.wrap .i64 ((asI (nth r336 5)) - (asI (nth r336 6)))), T.u]).bind fun r337 =>
      bif iLt (asI (nth r336 1)) (asI (nth r336 6)) then
       bif iLt (asI (nth r336 6)) (asI (nth r336 4)) then
        (c 46 [T.sl (asL (nth r337 0)), T.i .i64 (asI (nth r336 1)), T.i .i64 (asI (nth r336 6)), T.i .i64 (asI (nth r336 4)), T.u]).bind fun r338 =>
        bif iLt (asI (nth r336 4)) (IntKind.wrap .i64 ((asI (nth r336 5)) - (asI (nth r336 6)))) then
         bif iLt (IntKind.wrap .i64 ((asI (nth r336 5)) - (asI (nth r336 6)))) (asI (nth r336 3)) then
          (c 46 [T.sl (asL (nth r338 0)), T.i .i64 (asI (nth r336 4)), T.i .i64 (IntKind.wrap .i64 ((asI (nth r336 5)) - (asI (nth r336 6)))), T.i .i64 (asI (nth r336 3)), T.u]).bind fun r339 =>
          some [T.sl (asL (nth r339 0))]
         else
          some [T.sl (asL (nth r338 0))]
        else
         some [T.sl (asL (nth r338 0))]
       else
        bif iLt (asI (nth r336 4)) (IntKind.wrap .i64 ((asI (nth r336 5)) - (asI (nth r336 6)))) then
         bif iLt (IntKind.wrap .i64 ((asI (nth r336 5)) - (asI (nth r336 6)))) (asI (nth r336 3)) then
          (c 46 [T.sl (asL (nth r337 0)), T.i .i64 (asI (nth r336 4)), T.i .i64 (IntKind.wrap .i64 ((asI (nth r336 5)) - (asI (nth r336 6)))), T.i .i64 (asI (nth r336 3)), T.u]).bind fun r340 =>
          some [T.sl (asL (nth r340 0))]
         else
          some [T.sl (asL (nth r337 0))]
        else
         some [T.sl (asL (nth r337 0))]
      else
       bif iLt (asI (nth r336 4)) (IntKind.wrap .i64 ((asI (nth r336 5)) - (asI (nth r336 6)))) then
        bif iLt (IntKind.wrap .i64 ((asI (nth r336 5)) - (asI (nth r336 6)))) (asI (nth r336 3)) then
         (c 46 [T.sl (asL (nth r337 0)), T.i .i64 (asI (nth r336 4)), T.i .i64 (IntKind.wrap .i64 ((asI (nth r336 5)) - (asI (nth r336 6)))), T.i .i64 (asI (nth r336 3)), T.u]).bind fun r341 =>
         some [T.sl (asL (nth r341 0))]
        else
         some [T.sl (asL (nth r337 0))]
       else
        some [T.sl (asL (nth r337 0))]
     else
      bif iLt (asI (nth r336 1)) (asI (nth r336 6)) then
       bif iLt (asI (nth r336 6)) (asI (nth r336 4)) then
        (c 46 [T.sl (asL (nth r336 7)), T.i .i64 (asI (nth r336 1)), T.i .i64 (asI (nth r336 6)), T.i .i64 (asI (nth r336 4)), T.u]).bind fun r342 =>
        bif iLt (asI (nth r336 4)) (IntKind.wrap .i64 ((asI (nth r336 5)) - (asI (nth r336 6)))) then
         bif iLt (IntKind.wrap .i64 ((asI (nth r336 5)) - (asI (nth r336 6)))) (asI (nth r336 3)) then
          (c 46 [T.sl (asL (nth r342 0)), T.i .i64 (asI (nth r336 4)), T.i .i64 (IntKind.wrap .i64 ((asI (nth r336 5)) - (asI (nth r336 6)))), T.i .i64 (asI (nth r336 3)), T.u]).bind fun r343 =>
          some [T.sl (asL (nth r343 0))]
         else
          some [T.sl (asL (nth r342 0))]
        else
         some [T.sl (asL (nth r342 0))]
       else
        bif iLt (asI (nth r336 4)) (IntKind.wrap .i64 ((asI (nth r336 5)) - (asI (nth r336 6)))) then
         bif iLt (IntKind.wrap .i64 ((asI (nth r336 5)) - (asI (nth r336 6)))) (asI (nth r336 3)) then
          (c 46 [T.sl (asL (nth r336 7)), T.i .i64 (asI (nth r336 4)), T.i .i64 (IntKind.wrap .i64 ((asI (nth r336 5)) - (asI (nth r336 6)))), T.i .i64 (asI (nth r336 3)), T.u]).bind fun r344 =>
          some [T.sl (asL (nth r344 0))]
         else
          some [T.sl (asL (nth r336 7))]
        else
         some [T.sl (asL (nth r336 7))]
      else
       bif iLt (asI (nth r336 4)) (IntKind.wrap .i64 ((asI (nth r336 5)) - (asI (nth r336 6)))) then
        bif iLt (IntKind.wrap .i64 ((asI (nth r336 5)) - (asI (nth r336 6)))) (asI (nth r336 3)) then
         (c 46 [T.sl (asL (nth r336 7)), T.i .i64 (asI (nth r336 4)), T.i .i64 (IntKind.wrap .i64 ((asI (nth r336 5)) - (asI (nth r336 6)))), T.i .i64 (asI (nth r336 3)), T.u]).bind fun r345 =>
         some [T.sl (asL (nth r345 0))]
        else
         some [T.sl (asL (nth r336 7))]
       else
        some [T.sl (asL (nth r336 7))]
    else
     bif iLt (asI (nth r336 1)) (asI (nth r336 6)) then
      bif iLt (asI (nth r336 6)) (asI (nth r336 4)) then
       (c 46 [T.sl (asL (nth r336 7)), T.i .i64 (asI (nth r336 1)), T.i .i64 (asI (nth r336 6)), T.i .i64 (asI (nth r336 4)), T.u]).bind fun r346 =>
       bif iLt (asI (nth r336 4)) (IntKind.wrap .i64 ((asI (nth r336 5)) - (asI (nth r336 6)))) then
        bif iLt (IntKind.wrap .i64 ((asI (nth r336 5)) - (asI (nth r336 6)))) (asI (nth r336 3)) then
         (c 46 [T.sl (asL (nth r346 0)), T.i .i64 (asI (nth r336 4)), T.i .i64 (IntKind.wrap .i64 ((asI (nth r336 5)) - (asI (nth r336 6)))), T.i .i64 (asI (nth r336 3)), T.u]).bind fun r347 =>
         some [T.sl (asL (nth r347 0))]
        else
         some [T.sl (asL (nth r346 0))]
       else
        some [T.sl (asL (nth r346 0))]
      else
       bif iLt (asI (nth r336 4)) (IntKind.wrap .i64 ((asI (nth r336 5)) - (asI (nth r336 6)))) then
        bif iLt (IntKind.wrap .i64 ((asI (nth r336 5)) - (asI (nth r336 6)))) (asI (nth r336 3)) then
         (c 46 [T.sl (asL (nth r336 7)), T.i .i64 (asI (nth r336 4)), T.i .i64 (IntKind.wrap .i64 ((asI (nth r336 5)) - (asI (nth r336 6)))), T.i .i64 (asI (nth r336 3)), T.u]).bind fun r348 =>
         some [T.sl (asL (nth r348 0))]
        else
         some [T.sl (asL (nth r336 7))]
       else
        some [T.sl (asL (nth r336 7))]
     else
      bif iLt (asI (nth r336 4)) (IntKind.wrap .i64 ((asI (nth r336 5)) - (asI (nth r336 6)))) then
       bif iLt (IntKind.wrap .i64 ((asI (nth r336 5)) - (asI (nth r336 6)))) (asI (nth r336 3)) then
        (c 46 [T.sl (asL (nth r336 7)), T.i .i64 (asI (nth r336 4)), T.i .i64 (IntKind.wrap .i64 ((asI (nth r336 5)) - (asI (nth r336 6)))), T.i .i64 (asI (nth r336 3)), T.u]).bind fun r349 =>
        some [T.sl (asL (nth r349 0))]
       else
        some [T.sl (asL (nth r336 7))]
      else
       some [T.sl (asL (nth r336 7))]
   else
    (lp5 l0 n1 n2 n3 n1 n2).bind fun r354 =>
    bif iLt (asI (nth r354 6)) (asI (nth r354 2)) then
     bif iLt (asI (nth r354 2)) (IntKind.wrap .i64 ((asI (nth r354 5)) - (asI (nth r354 6)))) then
      (c 63 [T.sl (asL (nth r354 7)), T.i .i64 (asI (nth r354 6)), T.i .i64 (asI (nth r354 2)), T.i .i64 (IntKind.wrap .i64 ((asI (nth r354 5)) - (asI (nth r354 6)))), T.u]).bind fun r355 =>
      bif iLt (asI (nth r354 1)) (asI (nth r354 6)) then
       bif iLt (asI (nth r354 6)) (asI (nth r354 4)) then
        (c 46 [T.sl (asL (nth r355 0)), T.i .i64 (asI (nth r354 1)), T.i .i64 (asI (nth r354 6)), T.i .i64 (asI (nth r354 4)), T.u]).bind fun r356 =>
        bif iLt (asI (nth r354 4)) (IntKind.wrap .i64 ((asI (nth r354 5)) - (asI (nth r354 6)))) then
         bif iLt (IntKind.wrap .i64 ((asI (nth r354 5)) - (asI (nth r354 6)))) (asI (nth r354 3)) then
          (c 46 [T.sl (asL (nth r356 0)), T.i .i64 (asI (nth r354 4)), T.i .i64 (IntKind.wrap .i64 ((asI (nth r354 5)) - (asI (nth r354 6)))), T.i .i64 (asI (nth r354 3)), T.u]).bind fun r357 =>
          some [T.sl (asL (nth r357 0))]
         else
          some [T.sl (asL (nth r356 0))]
        else
         some [T.sl (asL (nth r356 0))]
       else
        bif iLt (asI (nth r354 4)) (IntKind.wrap .i64 ((asI (nth r354 5)) - (asI (nth r354 6)))) then
         bif iLt (IntKind.wrap .i64 ((asI (nth r354 5)) - (asI (nth r354 6)))) (asI (nth r354 3)) then
          (c 46 [T.sl (asL (nth r355 0)), T.i .i64 (asI (nth r354 4)), T.i .i64 (IntKind.wrap .i64 ((asI (nth r354 5)) - (asI (nth r354 6)))), T.i .i64 (asI (nth r354 3)), T.u]).bind fun r358 =>
          some [T.sl (asL (nth r358 0))]
         else
          some [T.sl (asL (nth r355 0))]
        else
         some [T.sl (asL (nth r355 0))]
      else
       bif iLt (asI (nth r354 4)) (IntKind.wrap .i64 ((asI (nth r354 5)) - (asI (nth r354 6)))) then
        bif iLt (IntKind.wrap .i64 ((asI (nth r354 5)) - (asI (nth r354 6)))) (asI (nth r354 3)) then
         (c 46 [T.sl (asL (nth r355 0)), T.i .i64 (asI (nth r354 4)), T.i .i64 (IntKind.wrap .i64 ((asI (nth r354 5)) - (asI (nth r354 6)))), T.i .i64 (asI (nth r354 3)), T.u]).bind fun r359 =>
         some [T.sl (asL (nth r359 0))]
        else
         some [T.sl (asL (nth r355 0))]
       else
        some [T.sl (asL (nth r355 0))]
     else
      bif iLt (asI (nth r354 1)) (asI (nth r354 6)) then
       bif iLt (asI (nth r354 6)) (asI (nth r354 4)) then
        (c 46 [T.sl (asL (nth r354 7)), T.i .i64 (asI (nth r354 1)), T.i .i64 (asI (nth r354 6)), T.i .i64 (asI (nth r354 4)), T.u]).bind fun r360 =>
        bif iLt (asI (nth r354 4)) (IntKind.wrap .i64 ((asI (nth r354 5)) - (asI (nth r354 6)))) then
         bif iLt (IntKind.wrap .i64 ((asI (nth r354 5)) - (asI (nth r354 6)))) (asI (nth r354 3)) then
          (c 46 [T.sl (asL (nth r360 0)), T.i .i64 (asI (nth r354 4)), T.i .i64 (IntKind.wrap .i64 ((asI (nth r354 5)) - (asI (nth r354 6)))), T.i .i64 (asI (nth r354 3)), T.u]).bind fun r361 =>
          some [T.sl (asL (nth r361 0))]
         else
          some [T.sl (asL (nth r360 0))]
        else
         some [T.sl (asL (nth r360 0))]
       else
        bif iLt (asI (nth r354 4)) (IntKind.wrap .i64 ((asI (nth r354 5)) - (asI (nth r354 6)))) then
         bif iLt (IntKind.wrap .i64 ((asI (nth r354 5)) - (asI (nth r354 6)))) (asI (nth r354 3)) then
          (c 46 [T.sl (asL (nth r354 7)), T.i .i64 (asI (nth r354 4)), T.i .i64 (IntKind.wrap .i64 ((asI (nth r354 5)) - (asI (nth r354 6)))), T.i .i64 (asI (nth r354 3)), T.u]).bind fun r362 =>
          some [T.sl (asL (nth r362 0))]
         else
          some [T.sl (asL (nth r354 7))]
        else
         some [T.sl (asL (nth r354 7))]
      else
       bif iLt (asI (nth r354 4)) (IntKind.wrap .i64 ((asI (nth r354 5)) - (asI (nth r354 6)))) then
        bif iLt (IntKind.wrap .i64 ((asI (nth r354 5)) - (asI (nth r354 6)))) (asI (nth r354 3)) then
         (c 46 [T.sl (asL (nth r354 7)), T.i .i64 (asI (nth r354 4)), T.i .i64 (IntKind.wrap .i64 ((asI (nth r354 5)) - (asI (nth r354 6)))), T.i .i64 (asI (nth r354 3)), T.u]).bind fun r363 =>
         some [T.sl (asL (nth r363 0))]
        else
         some [T.sl (asL (nth r354 7))]
       else
        some [T.sl (asL (nth r354 7))]
    else
     bif iLt (asI (nth r354 1)) (asI (nth r354 6)) then
      bif iLt (asI (nth r354 6)) (asI (nth r354 4)) then
       (c 46 [T.sl (asL (nth r354 7)), T.i .i64 (asI (nth r354 1)), T.i .i64 (asI (nth r354 6)), T.i .i64 (asI (nth r354 4)), T.u]).bind fun r364 =>
       bif iLt (asI (nth r354 4)) (IntKind.wrap .i64 ((asI (nth r354 5)) - (asI (nth r354 6)))) then
        bif iLt (IntKind.wrap .i64 ((asI (nth r354 5)) - (asI (nth r354 6)))) (asI (nth r354 3)) then
         (c 46 [T.sl (asL (nth r364 0)), T.i .i64 (asI (nth r354 4)), T.i .i64 (IntKind.wrap .i64 ((asI (nth r354 5)) - (asI (nth r354 6)))), T.i .i64 (asI (nth r354 3)), T.u]).bind fun r365 =>
         some [T.sl (asL (nth r365 0))]
        else
         some [T.sl (asL (nth r364 0))]
       else
        some [T.sl (asL (nth r364 0))]
      else
       bif iLt (asI (nth r354 4)) (IntKind.wrap .i64 ((asI (nth r354 5)) - (asI (nth r354 6)))) then
        bif iLt (IntKind.wrap .i64 ((asI (nth r354 5)) - (asI (nth r354 6)))) (asI (nth r354 3)) then
         (c 46 [T.sl (asL (nth r354 7)), T.i .i64 (asI (nth r354 4)), T.i .i64 (IntKind.wrap .i64 ((asI (nth r354 5)) - (asI (nth r354 6)))), T.i .i64 (asI (nth r354 3)), T.u]).bind fun r366 =>
         some [T.sl (asL (nth r366 0))]
        else
         some [T.sl (asL (nth r354 7))]
       else
        some [T.sl (asL (nth r354 7))]
     else
      bif iLt (asI (nth r354 4)) (IntKind.wrap .i64 ((asI (nth r354 5)) - (asI (nth r354 6)))) then
       bif iLt (IntKind.wrap .i64 ((asI (nth r354 5)) - (asI (nth r354 6)))) (asI (nth r354 3)) then
        (c 46 [T.sl (asL (nth r354 7)), T.i .i64 (asI (nth r354 4)), T.i .i64 (IntKind.wrap .i64 ((asI (nth r354 5)) - (asI (nth r354 6)))), T.i .i64 (asI (nth r354 3)), T.u]).bind fun r367 =>
        some [T.sl (asL (nth r367 0))]
       else
        some [T.sl (asL (nth r354 7))]
      else
       some [T.sl (asL (nth r354 7))]
def f46 (c : Orc) (lf : Nat) (l0 : List T) (n1 n2 n3 : Int) : Option (List T) := f46_t c lf (fun (l0 : List T) (n1 x317 x318 : Int) => f46_0 c lf l0 n1 lf x317 x318) (fun (r320 : List T) (x321 : Int) (x322 : List T) => f46_1 c lf r320 lf x321 x322) (fun (l0 : List T) (n2 x325 x326 : Int) => f46_2 c lf l0 n2 lf x325 x326) (fun (r328 : List T) (x329 : Int) (x330 : List T) => f46_3 c lf r328 lf x329 x330) (fun (l0 : List T) (n1 n2 : Int) (n3 x333 x334 : Int) => f46_4 c lf l0 n1 n2 n3 lf x333 x334) (fun (l0 : List T) (n1 n2 : Int) (n3 x351 x352 : Int) => f46_5 c lf l0 n1 n2 n3 lf x351 x352) l0 n1 n2 n3
theorem f46_raw (c : Orc) (lf : Nat) (l0 : List T) (n1 n2 n3 : Int) : funK c env lf 6 fi46 [.sl l0, .i .i64 n1, .i .i64 n2, .i .i64 n3, .u] = f46_t c lf (fun (l0 : List T) (n1 x317 x318 : Int) => lpK c env lf 6 fi46 5 3 [] [0, 1, 4, 10, 11] (x46_3_0) lf (f46_0_c l0 n1 x317 x318)) (fun (r320 : List T) (x321 : Int) (x322 : List T) => lpK c env lf 6 fi46 5 9 [] [0, 10, 13] (x46_9_0) lf (f46_1_c r320 x321 x322)) (fun (l0 : List T) (n2 x325 x326 : Int) => lpK c env lf 6 fi46 5 15 [] [0, 2, 4, 14, 15] (x46_15_0) lf (f46_2_c l0 n2 x325 x326)) (fun (r328 : List T) (x329 : Int) (x330 : List T) => lpK c env lf 6 fi46 5 21 [] [0, 14, 17] (x46_21_0) lf (f46_3_c r328 x329 x330)) (fun (l0 : List T) (n1 n2 : Int) (n3 x333 x334 : Int) => lpK c env lf 6 fi46 5 33 [] [0, 1, 2, 3, 4, 18, 19, 20, 21, 22] (x46_33_0) lf (f46_4_c l0 n1 n2 n3 x333 x334)) (fun (l0 : List T) (n1 n2 : Int) (n3 x351 x352 : Int) => lpK c env lf 6 fi46 5 33 [] [0, 1, 2, 3, 4, 18, 19, 20, 21, 22] (x46_33_0) lf (f46_5_c l0 n1 n2 n3 x351 x352)) l0 n1 n2 n3 := by kernel_rfl
theorem f46_eq (c : Orc) (lf : Nat) (l0 : List T) (n1 n2 n3 : Int) : funK c env lf 6 fi46 [.sl l0, .i .i64 n1, .i .i64 n2, .i .i64 n3, .u] = f46 c lf l0 n1 n2 n3 := by
 refine (f46_raw c lf l0 n1 n2 n3).trans ?_
 have e0 : (fun (l0 : List T) (n1 x317 x318 : Int) => lpK c env lf 6 fi46 5 3 [] [0, 1, 4, 10, 11] (x46_3_0) lf (f46_0_c l0 n1 x317 x318)) = (fun (l0 : List T) (n1 x317 x318 : Int) => f46_0 c lf l0 n1 lf x317 x318) := by funext l0 n1 x317 x318; exact f46_0_eq c lf l0 n1 lf x317 x318
 have e1 : (fun (r320 : List T) (x321 : Int) (x322 : List T) => lpK c env lf 6 fi46 5 9 [] [0, 10, 13] (x46_9_0) lf (f46_1_c r320 x321 x322)) = (fun (r320 : List T) (x321 : Int) (x322 : List T) => f46_1 c lf r320 lf x321 x322) := by funext r320 x321 x322; exact f46_1_eq c lf r320 lf x321 x322
 have e2 : (fun (l0 : List T) (n2 x325 x326 : Int) => lpK c env lf 6 fi46 5 15 [] [0, 2, 4, 14, 15] (x46_15_0) lf (f46_2_c l0 n2 x325 x326)) = (fun (l0 : List T) (n2 x325 x326 : Int) => f46_2 c lf l0 n2 lf x325 x326) := by funext l0 n2 x325 x326; exact f46_2_eq c lf l0 n2 lf x325 x326
 have e3 : (fun (r328 : List T) (x329 : Int) (x330 : List T) => lpK c env lf 6 fi46 5 21 [] [0, 14, 17] (x46_21_0) lf (f46_3_c r328 x329 x330)) = (fun (r328 : List T) (x329 : Int) (x330 : List T) => f46_3 c lf r328 lf x329 x330) := by funext r328 x329 x330; exact f46_3_eq c lf r328 lf x329 x330
 have e4 : (fun (l0 : List T) (n1 n2 : Int) (n3 x333 x334 : Int) => lpK c env lf 6 fi46 5 33 [] [0, 1, 2, 3, 4, 18, 19, 20, 21, 22] (x46_33_0) lf (f46_4_c l0 n1 n2 n3 x333 x334)) = (fun (l0 : List T) (n1 n2 : Int) (n3 x333 x334 : Int) => f46_4 c lf l0 n1 n2 n3 lf x333 x334) := by funext l0 n1 n2 n3 x333 x334; exact f46_4_eq c lf l0 n1 n2 n3 lf x333 x334
 have e5 : (fun (l0 : List T) (n1 n2 : Int) (n3 x351 x352 : Int) => lpK c env lf 6 fi46 5 33 [] [0, 1, 2, 3, 4, 18, 19, 20, 21, 22] (x46_33_0) lf (f46_5_c l0 n1 n2 n3 x351 x352)) = (fun (l0 : List T) (n1 n2 : Int) (n3 x351 x352 : Int) => f46_5 c lf l0 n1 n2 n3 lf x351 x352) := by funext l0 n1 n2 n3 x351 x352; exact f46_5_eq c lf l0 n1 n2 n3 lf x351 x352
 rw [e0, e1, e2, e3, e4, e5]; rfl
def f30_0_s (c : Orc) (lf : Nat) (n1 : Int) (L : Int → Int → List T → Option (List T)) (x394 x395 : Int) (x396 : List T) : Option (List T) :=
 bif iLe x395 n1 then
  (c 45 [T.sl x396, T.i .i64 x394, T.i .i64 x395, T.u]).bind fun r397 =>
  L x395 (IntKind.wrap .i64 (x395 + 20)) (asL (nth r397 0))
 else
  some [T.i .i64 0, T.i .i64 n1, T.i .i64 20, T.i .i64 x394, T.sl x396]
def f30_0_c (n1 x394 x395 : Int) (x396 : List T) : CSt := ⟨[.rf 0 [] 0 none, .i .i64 n1, .fn 19 [], .i .i64 20, .i .i64 x394, .i .i64 x395], [.row true [.i .i64, .i .i64] x396 0 false, .dead, .dead]⟩
theorem f30_0_round (c : Orc) (lf : Nat) (n1 : Int) (L : CSt → Option (List T)) (x394 x395 : Int) (x396 : List T) :
 roundK c env lf 6 fi30 3 2 [] [0, 1, 2, 6, 7, 8] (x30_2_0) L (f30_0_c n1 x394 x395 x396) = f30_0_s c lf n1 (fun x394 x395 x396 => L (f30_0_c n1 x394 x395 x396)) x394 x395 x396 := by kernel_rfl
def f30_0 (c : Orc) (lf : Nat) (n1 : Int) : Nat → Int → Int → List T → Option (List T)
 | 0 => fun _ _ _ => none
 | n + 1 => fun x394 x395 x396 => f30_0_s c lf n1 (f30_0 c lf n1 n) x394 x395 x396
theorem f30_0_u (c : Orc) (lf : Nat) (n1 : Int) (n : Nat) (x394 x395 : Int) (x396 : List T) : f30_0 c lf n1 (n + 1) x394 x395 x396 = f30_0_s c lf n1 (f30_0 c lf n1 n) x394 x395 x396 := rfl
theorem f30_0_eq (c : Orc) (lf : Nat) (n1 : Int) (n : Nat) (x394 x395 : Int) (x396 : List T) :
 lpK c env lf 6 fi30 3 2 [] [0, 1, 2, 6, 7, 8] (x30_2_0) n (f30_0_c n1 x394 x395 x396) = f30_0 c lf n1 n x394 x395 x396 := by
 induction n generalizing x394 x395 x396 with
 | zero => rfl
 | succ n ih =>
  refine (f30_0_round c lf n1 _ x394 x395 x396).trans ?_
  have e : (fun x394 x395 x396 => lpK c env lf 6 fi30 3 2 [] [0, 1, 2, 6, 7, 8] (x30_2_0) n (f30_0_c n1 x394 x395 x396)) = f30_0 c lf n1 n := by funext x394 x395 x396; exact ih x394 x395 x396
  show f30_0_s c lf n1 (fun x394 x395 x396 => lpK c env lf 6 fi30 3 2 [] [0, 1, 2, 6, 7, 8] (x30_2_0) n (f30_0_c n1 x394 x395 x396)) x394 x395 x396 = _
  rw [e]; rfl
def f30_2_s (c : Orc) (lf : Nat) (x407 x408 : Int) (L : Int → Int → List T → Option (List T)) (x411 x412 : Int) (x413 : List T) : Option (List T) :=
 bif iLe x412 x407 then
  (c 46 [T.sl x413, T.i .i64 x411, T.i .i64 (IntKind.wrap .i64 (x411 + x408)), T.i .i64 x412, T.u]).bind fun r414 =>
  L x412 (IntKind.wrap .i64 (x412 + (IntKind.wrap .i64 (2 * x408)))) (asL (nth r414 0))
 else
  some [T.i .i64 0, T.i .i64 x407, T.i .i64 x408, T.i .i64 x411, T.sl x413]
def f30_2_c (x407 x408 : Int) (x411 x412 : Int) (x413 : List T) : CSt := ⟨[.rf 0 [] 0 none, .i .i64 x407, .fn 19 [], .i .i64 x408, .i .i64 x411, .i .i64 x412], [.row true [.i .i64, .i .i64] x413 0 false, .dead, .dead]⟩
theorem f30_2_round (c : Orc) (lf : Nat) (x407 x408 : Int) (L : CSt → Option (List T)) (x411 x412 : Int) (x413 : List T) :
 roundK c env lf 6 fi30 3 9 [] [0, 1, 2, 6, 7, 8] (x30_9_0) L (f30_2_c x407 x408 x411 x412 x413) = f30_2_s c lf x407 x408 (fun x411 x412 x413 => L (f30_2_c x407 x408 x411 x412 x413)) x411 x412 x413 := by kernel_rfl
def f30_2 (c : Orc) (lf : Nat) (x407 x408 : Int) : Nat → Int → Int → List T → Option (List T)
 | 0 => fun _ _ _ => none
 | n + 1 => fun x411 x412 x413 => f30_2_s c lf x407 x408 (f30_2 c lf x407 x408 n) x411 x412 x413
theorem f30_2_u (c : Orc) (lf : Nat) (x407 x408 : Int) (n : Nat) (x411 x412 : Int) (x413 : List T) : f30_2 c lf x407 x408 (n + 1) x411 x412 x413 = f30_2_s c lf x407 x408 (f30_2 c lf x407 x408 n) x411 x412 x413 := rfl
theorem f30_2_eq (c : Orc) (lf : Nat) (x407 x408 : Int) (n : Nat) (x411 x412 : Int) (x413 : List T) :
 lpK c env lf 6 fi30 3 9 [] [0, 1, 2, 6, 7, 8] (x30_9_0) n (f30_2_c x407 x408 x411 x412 x413) = f30_2 c lf x407 x408 n x411 x412 x413 := by
 induction n generalizing x411 x412 x413 with
 | zero => rfl
 | succ n ih =>
  refine (f30_2_round c lf x407 x408 _ x411 x412 x413).trans ?_
  have e : (fun x411 x412 x413 => lpK c env lf 6 fi30 3 9 [] [0, 1, 2, 6, 7, 8] (x30_9_0) n (f30_2_c x407 x408 x411 x412 x413)) = f30_2 c lf x407 x408 n := by funext x411 x412 x413; exact ih x411 x412 x413
  show f30_2_s c lf x407 x408 (fun x411 x412 x413 => lpK c env lf 6 fi30 3 9 [] [0, 1, 2, 6, 7, 8] (x30_9_0) n (f30_2_c x407 x408 x411 x412 x413)) x411 x412 x413 = _
  rw [e]; rfl
def f30_1_s (c : Orc) (lf : Nat) (L : Int → Int → List T → Option (List T)) (lp0 : Int → Int → Int → Int → List T → Option (List T)) (x407 x408 : Int) (x409 : List T) : Option (List T) :=
 bif iLt x408 x407 then
  (lp0 x407 x408 0 (IntKind.wrap .i64 (2 * x408)) x409).bind fun r415 =>
  bif iLt (IntKind.wrap .i64 ((asI (nth r415 3)) + (asI (nth r415 2)))) (asI (nth r415 1)) then
   (c 46 [T.sl (asL (nth r415 4)), T.i .i64 (asI (nth r415 3)), T.i .i64 (IntKind.wrap .i64 ((asI (nth r415 3)) + (asI (nth r415 2)))), T.i .i64 (asI (nth r415 1)), T.u]).bind fun r416 =>
   L (asI (nth r415 1)) (IntKind.wrap .i64 ((asI (nth r415 2)) * 2)) (asL (nth r416 0))
  else
   L (asI (nth r415 1)) (IntKind.wrap .i64 ((asI (nth r415 2)) * 2)) (asL (nth r415 4))
 else
  some [T.i .i64 0, T.sl x409]
def f30_1_c (x407 x408 : Int) (x409 : List T) : CSt := ⟨[.rf 0 [] 0 none, .i .i64 x407, .fn 19 [], .i .i64 x408], [.row true [.i .i64, .i .i64] x409 0 false, .dead, .dead]⟩
theorem f30_1_round (c : Orc) (lf : Nat) (L : CSt → Option (List T)) (x407 x408 : Int) (x409 : List T) :
 roundK c env lf 6 fi30 3 7 [] [0, 1, 2, 6] (x30_7_0) L (f30_1_c x407 x408 x409) = f30_1_s c lf (fun x407 x408 x409 => L (f30_1_c x407 x408 x409)) (fun (x407 x408 : Int) (x411 x412 : Int) (x413 : List T) => lpK c env lf 6 fi30 3 9 [] [0, 1, 2, 6, 7, 8] (x30_9_0) lf (f30_2_c x407 x408 x411 x412 x413)) x407 x408 x409 := by kernel_rfl
def f30_1 (c : Orc) (lf : Nat) : Nat → Int → Int → List T → Option (List T)
 | 0 => fun _ _ _ => none
 | n + 1 => fun x407 x408 x409 => f30_1_s c lf (f30_1 c lf n) (fun (x407 x408 : Int) (x411 x412 : Int) (x413 : List T) => f30_2 c lf x407 x408 lf x411 x412 x413) x407 x408 x409
theorem f30_1_u (c : Orc) (lf n : Nat) (x407 x408 : Int) (x409 : List T) : f30_1 c lf (n + 1) x407 x408 x409 = f30_1_s c lf (f30_1 c lf n) (fun (x407 x408 : Int) (x411 x412 : Int) (x413 : List T) => f30_2 c lf x407 x408 lf x411 x412 x413) x407 x408 x409 := rfl
theorem f30_1_eq (c : Orc) (lf n : Nat) (x407 x408 : Int) (x409 : List T) :
 lpK c env lf 6 fi30 3 7 [] [0, 1, 2, 6] (x30_7_0) n (f30_1_c x407 x408 x409) = f30_1 c lf n x407 x408 x409 := by
 induction n generalizing x407 x408 x409 with
 | zero => rfl
 | succ n ih =>
  refine (f30_1_round c lf _ x407 x408 x409).trans ?_
  have e : (fun x407 x408 x409 => lpK c env lf 6 fi30 3 7 [] [0, 1, 2, 6] (x30_7_0) n (f30_1_c x407 x408 x409)) = f30_1 c lf n := by funext x407 x408 x409; exact ih x407 x408 x409
  have e0 : (fun (x407 x408 : Int) (x411 x412 : Int) (x413 : List T) => lpK c env lf 6 fi30 3 9 [] [0, 1, 2, 6, 7, 8] (x30_9_0) lf (f30_2_c x407 x408 x411 x412 x413)) = (fun (x407 x408 : Int) (x411 x412 : Int) (x413 : List T) => f30_2 c lf x407 x408 lf x411 x412 x413) := by funext x407 x408 x411 x412 x413; exact f30_2_eq c lf x407 x408 lf x411 x412 x413
  show f30_1_s c lf (fun x407 x408 x409 => lpK c env lf 6 fi30 3 7 [] [0, 1, 2, 6] (x30_7_0) n (f30_1_c x407 x408 x409)) (fun (x407 x408 : Int) (x411 x412 : Int) (x413 : List T) => lpK c env lf 6 fi30 3 9 [] [0, 1, 2, 6, 7, 8] (x30_9_0) lf (f30_2_c x407 x408 x411 x412 x413)) x407 x408 x409 = _
  rw [e, e0]; rfl
def f30_t (c : Orc) (lf : Nat) (lp0 : Int → Int → Int → List T → Option (List T)) (lp1 : Int → Int → List T → Option (List T)) (l0 : List T) (n1 : Int) : Option (List T) :=
 (lp0 n1 0 20 l0).bind fun r398 =>
 (c 45 [T.sl (asL (nth r398 4)), T.i .i64 (asI (nth r398 3)), T.i .i64 (asI (nth r398 1)), T.u]).bind fun r399 =>
 (lp1 (asI (nth r398 1)) (asI (nth r398 2)) (asL (nth r399 0))).bind fun r417 =>
 some [T.sl (asL (nth r417 1))]
def f30 (c : Orc) (lf : Nat) (l0 : List T) (n1 : Int) : Option (List T) := f30_t c lf (fun (n1 x394 x395 : Int) (x396 : List T) => f30_0 c lf n1 lf x394 x395 x396) (fun (x407 x408 : Int) (x409 : List T) => f30_1 c lf lf x407 x408 x409) l0 n1
theorem f30_raw (c : Orc) (lf : Nat) (l0 : List T) (n1 : Int) : funK c env lf 6 fi30 [.sl l0, .i .i64 n1, .u] = f30_t c lf (fun (n1 x394 x395 : Int) (x396 : List T) => lpK c env lf 6 fi30 3 2 [] [0, 1, 2, 6, 7, 8] (x30_2_0) lf (f30_0_c n1 x394 x395 x396)) (fun (x407 x408 : Int) (x409 : List T) => lpK c env lf 6 fi30 3 7 [] [0, 1, 2, 6] (x30_7_0) lf (f30_1_c x407 x408 x409)) l0 n1 := by kernel_rfl
theorem f30_eq (c : Orc) (lf : Nat) (l0 : List T) (n1 : Int) : funK c env lf 6 fi30 [.sl l0, .i .i64 n1, .u] = f30 c lf l0 n1 := by
 refine (f30_raw c lf l0 n1).trans ?_
 have e0 : (fun (n1 x394 x395 : Int) (x396 : List T) => lpK c env lf 6 fi30 3 2 [] [0, 1, 2, 6, 7, 8] (x30_2_0) lf (f30_0_c n1 x394 x395 x396)) = (fun (n1 x394 x395 : Int) (x396 : List T) => f30_0 c lf n1 lf x394 x395 x396) := by funext n1 x394 x395 x396; exact f30_0_eq c lf n1 lf x394 x395 x396
 have e1 : (fun (x407 x408 : Int) (x409 : List T) => lpK c env lf 6 fi30 3 7 [] [0, 1, 2, 6] (x30_7_0) lf (f30_1_c x407 x408 x409)) = (fun (x407 x408 : Int) (x409 : List T) => f30_1 c lf lf x407 x408 x409) := by funext x407 x408 x409; exact f30_1_eq c lf lf x407 x408 x409
 rw [e0, e1]; rfl
def f18_t (c : Orc) (lf : Nat) (l0 : List T) : Option (List T) :=
 (c 30 [T.sl l0, T.i .i64 (l0.length : Int), T.u]).bind fun r418 =>
 some [T.sl (asL (nth r418 0))]
def f18 (c : Orc) (lf : Nat) (l0 : List T) : Option (List T) := f18_t c lf l0
theorem f18_eq (c : Orc) (lf : Nat) (l0 : List T) : funK c env lf 6 fi18 [.sl l0, .u] = f18 c lf l0 := by kernel_rfl
def f31_t (c : Orc) (lf : Nat) (n0 : Int) : Option (List T) :=
 some [T.b (n0 != n0)]
def f31 (c : Orc) (lf : Nat) (n0 : Int) : Option (List T) := f31_t c lf n0
theorem f31_eq (c : Orc) (lf : Nat) (n0 : Int) : funK c env lf 6 fi31 [.i .i64 n0] = f31 c lf n0 := by kernel_rfl
def f20_t (c : Orc) (lf : Nat) (n0 n1 : Int) : Option (List T) :=
 (c 31 [T.i .i64 n0]).bind fun r207 =>
 (c 31 [T.i .i64 n1]).bind fun r208 =>
 bif asB (nth r207 0) then
  bif asB (nth r208 0) then
   some [T.i .i64 0]
  else
   some [T.i .i64 (-1)]
 else
  bif asB (nth r208 0) then
   some [T.i .i64 1]
  else
   bif iLt n0 n1 then
    some [T.i .i64 (-1)]
   else
    bif iLt n1 n0 then
     some [T.i .i64 1]
    else
     some [T.i .i64 0]
def f20 (c : Orc) (lf : Nat) (n0 n1 : Int) : Option (List T) := f20_t c lf n0 n1
theorem f20_eq (c : Orc) (lf : Nat) (n0 n1 : Int) : funK c env lf 6 fi20 [.i .i64 n0, .i .i64 n1] = f20 c lf n0 n1 := by kernel_rfl
def f19_t (c : Orc) (lf : Nat) (n0_0 n0_1 : Int) (n1_0 n1_1 : Int) : Option (List T) :=
 (c 20 [T.i .i64 n1_1, T.i .i64 n0_1]).bind fun r209 =>
 some [T.i .i64 (asI (nth r209 0))]
def f19 (c : Orc) (lf : Nat) (n0_0 n0_1 : Int) (n1_0 n1_1 : Int) : Option (List T) := f19_t c lf n0_0 n0_1 n1_0 n1_1
theorem f19_eq (c : Orc) (lf : Nat) (n0_0 n0_1 : Int) (n1_0 n1_1 : Int) : funK c env lf 6 fi19 [.st [.i .i64 n0_0, .i .i64 n0_1], .st [.i .i64 n1_0, .i .i64 n1_1]] = f19 c lf n0_0 n0_1 n1_0 n1_1 := by kernel_rfl
def f7_0_s (c : Orc) (lf : Nat) (b0_3 : Bool) (l0_0 l0_2 : List T) (n0_1 n0_4 : Int) (L : Int → List T → Option (List T)) (x429 : Int) (x430 : List T) : Option (List T) :=
 bif iLt x429 (IntKind.wrap .i64 ((l0_0.length : Int) * 8)) then
  (c 29 [T.st [T.sl l0_0, T.i .i64 n0_1, T.sl l0_2, T.b b0_3, T.i .i64 n0_4], T.i .i64 x429]).bind fun r431 =>
  bif asB (nth r431 1) then
   bif (asI (T.cell (nth r431 0) 0)) == 4 then
    bif nLe (x430.length + ([T.st [T.i .i64 x429, T.i .i64 (asI (T.cell (nth r431 0) 1))]] : List T).length) LIM then
    L (IntKind.wrap .i64 (x429 + 1)) (x430 ++ ([T.st [T.i .i64 x429, T.i .i64 (asI (T.cell (nth r431 0) 1))]] : List T))
    else none
   else
    L (IntKind.wrap .i64 (x429 + 1)) x430
  else
   L (IntKind.wrap .i64 (x429 + 1)) x430
 else
  some [T.i .i64 0, T.sl x430]
def f7_0_c (b0_3 : Bool) (l0_0 l0_2 : List T) (n0_1 n0_4 x429 : Int) (x430 : List T) : CSt := ⟨[.fn 17 [.bp 0 0], .bp 2 0, .i .i64 (IntKind.wrap .i64 ((l0_0.length : Int) * 8)), .i .i64 x429], [.box [.rf 1 [] 0 none], .row true [.i .i64, .i .i64] x430 0 false, .box [.ro 0 true [.sl true [.b, .sl false [.i .u8]], .i .i64, .b] l0_0, .i .i64 n0_1, .ro 0 true [.i .i64, .i .i64, .i .i64] l0_2, .b b0_3, .i .i64 n0_4]]⟩
theorem f7_0_round (c : Orc) (lf : Nat) (b0_3 : Bool) (l0_0 l0_2 : List T) (n0_1 n0_4 : Int) (L : CSt → Option (List T)) (x429 : Int) (x430 : List T) :
 roundK c env lf 5 fi16 1 2 [] [1, 2, 12, 13] (x16_2_0) L (f7_0_c b0_3 l0_0 l0_2 n0_1 n0_4 x429 x430) = f7_0_s c lf b0_3 l0_0 l0_2 n0_1 n0_4 (fun x429 x430 => L (f7_0_c b0_3 l0_0 l0_2 n0_1 n0_4 x429 x430)) x429 x430 := by kernel_rfl
def f7_0 (c : Orc) (lf : Nat) (b0_3 : Bool) (l0_0 l0_2 : List T) (n0_1 n0_4 : Int) : Nat → Int → List T → Option (List T)
 | 0 => fun _ _ => none
 | n + 1 => fun x429 x430 => f7_0_s c lf b0_3 l0_0 l0_2 n0_1 n0_4 (f7_0 c lf b0_3 l0_0 l0_2 n0_1 n0_4 n) x429 x430
theorem f7_0_u (c : Orc) (lf : Nat) (b0_3 : Bool) (l0_0 l0_2 : List T) (n0_1 n0_4 : Int) (n : Nat) (x429 : Int) (x430 : List T) : f7_0 c lf b0_3 l0_0 l0_2 n0_1 n0_4 (n + 1) x429 x430 = f7_0_s c lf b0_3 l0_0 l0_2 n0_1 n0_4 (f7_0 c lf b0_3 l0_0 l0_2 n0_1 n0_4 n) x429 x430 := rfl
theorem f7_0_eq (c : Orc) (lf : Nat) (b0_3 : Bool) (l0_0 l0_2 : List T) (n0_1 n0_4 : Int) (n : Nat) (x429 : Int) (x430 : List T) :
 lpK c env lf 5 fi16 1 2 [] [1, 2, 12, 13] (x16_2_0) n (f7_0_c b0_3 l0_0 l0_2 n0_1 n0_4 x429 x430) = f7_0 c lf b0_3 l0_0 l0_2 n0_1 n0_4 n x429 x430 := by
 induction n generalizing x429 x430 with
 | zero => rfl
 | succ n ih =>
  refine (f7_0_round c lf b0_3 l0_0 l0_2 n0_1 n0_4 _ x429 x430).trans ?_
  have e : (fun x429 x430 => lpK c env lf 5 fi16 1 2 [] [1, 2, 12, 13] (x16_2_0) n (f7_0_c b0_3 l0_0 l0_2 n0_1 n0_4 x429 x430)) = f7_0 c lf b0_3 l0_0 l0_2 n0_1 n0_4 n := by funext x429 x430; exact ih x429 x430
  show f7_0_s c lf b0_3 l0_0 l0_2 n0_1 n0_4 (fun x429 x430 => lpK c env lf 5 fi16 1 2 [] [1, 2, 12, 13] (x16_2_0) n (f7_0_c b0_3 l0_0 l0_2 n0_1 n0_4 x429 x430)) x429 x430 = _
  rw [e]; rfl
def f7_1_s (c : Orc) (lf : Nat) (r433 : List T) (L : Int → List T → Option (List T)) (x434 : Int) (x435 : List T) : Option (List T) :=
 bif iLt x434 ((asL (nth r433 0)).length : Int) then
  bif inR x434 ((asL (nth r433 0)).length) then
  bif nLe (x435.length + ([T.i .i64 (asI (T.cell ((asL (nth r433 0)).getD x434.toNat T.u) 0))] : List T).length) LIM then
  L (IntKind.wrap .i64 (x434 + 1)) (x435 ++ ([T.i .i64 (asI (T.cell ((asL (nth r433 0)).getD x434.toNat T.u) 0))] : List T))
  else none
  else none
 else
  some [T.i .i64 0, T.sl x435]
def f7_1_c (r433 : List T) (x434 : Int) (x435 : List T) : CSt := ⟨[.rf 5 [] 0 none, .rf 6 [] 0 none, .i .i64 ((asL (nth r433 0)).length : Int), .i .i64 x434], [.dead, .dead, .dead, .dead, .dead, .row false [.i .i64] x435 0 false, .row true [.i .i64, .i .i64] (asL (nth r433 0)) 0 false]⟩
theorem f7_1_round (c : Orc) (lf : Nat) (r433 : List T) (L : CSt → Option (List T)) (x434 : Int) (x435 : List T) :
 roundK c env lf 6 fi7 5 6 [] [4, 14, 15, 16] (x7_6_0) L (f7_1_c r433 x434 x435) = f7_1_s c lf r433 (fun x434 x435 => L (f7_1_c r433 x434 x435)) x434 x435 := by kernel_rfl
def f7_1 (c : Orc) (lf : Nat) (r433 : List T) : Nat → Int → List T → Option (List T)
 | 0 => fun _ _ => none
 | n + 1 => fun x434 x435 => f7_1_s c lf r433 (f7_1 c lf r433 n) x434 x435
theorem f7_1_u (c : Orc) (lf : Nat) (r433 : List T) (n : Nat) (x434 : Int) (x435 : List T) : f7_1 c lf r433 (n + 1) x434 x435 = f7_1_s c lf r433 (f7_1 c lf r433 n) x434 x435 := rfl
theorem f7_1_eq (c : Orc) (lf : Nat) (r433 : List T) (n : Nat) (x434 : Int) (x435 : List T) :
 lpK c env lf 6 fi7 5 6 [] [4, 14, 15, 16] (x7_6_0) n (f7_1_c r433 x434 x435) = f7_1 c lf r433 n x434 x435 := by
 induction n generalizing x434 x435 with
 | zero => rfl
 | succ n ih =>
  refine (f7_1_round c lf r433 _ x434 x435).trans ?_
  have e : (fun x434 x435 => lpK c env lf 6 fi7 5 6 [] [4, 14, 15, 16] (x7_6_0) n (f7_1_c r433 x434 x435)) = f7_1 c lf r433 n := by funext x434 x435; exact ih x434 x435
  show f7_1_s c lf r433 (fun x434 x435 => lpK c env lf 6 fi7 5 6 [] [4, 14, 15, 16] (x7_6_0) n (f7_1_c r433 x434 x435)) x434 x435 = _
  rw [e]; rfl
def f7_t (c : Orc) (lf : Nat) (lp0 : Bool → List T → List T → Int → Int → Int → List T → Option (List T)) (lp1 : List T → Int → List T → Option (List T)) (l0_0 : List T) (n0_1 : Int) (l0_2 : List T) (b0_3 : Bool) (n0_4 : Int) : Option (List T) :=
 (lp0 b0_3 l0_0 l0_2 n0_1 n0_4 0 ([] : List T)).bind fun r432 =>
 (c 18 [T.sl (asL (nth r432 1)), T.u]).bind fun r433 =>
 (lp1 r433 0 ([] : List T)).bind fun r436 =>
 some [T.sl (asL (nth r436 1))]
def f7 (c : Orc) (lf : Nat) (l0_0 : List T) (n0_1 : Int) (l0_2 : List T) (b0_3 : Bool) (n0_4 : Int) : Option (List T) := f7_t c lf (fun (b0_3 : Bool) (l0_0 l0_2 : List T) (n0_1 n0_4 x429 : Int) (x430 : List T) => f7_0 c lf b0_3 l0_0 l0_2 n0_1 n0_4 lf x429 x430) (fun (r433 : List T) (x434 : Int) (x435 : List T) => f7_1 c lf r433 lf x434 x435) l0_0 n0_1 l0_2 b0_3 n0_4
theorem f7_raw (c : Orc) (lf : Nat) (l0_0 : List T) (n0_1 : Int) (l0_2 : List T) (b0_3 : Bool) (n0_4 : Int) : funK c env lf 6 fi7 [.st [.sl l0_0, .i .i64 n0_1, .sl l0_2, .b b0_3, .i .i64 n0_4]] = f7_t c lf (fun (b0_3 : Bool) (l0_0 l0_2 : List T) (n0_1 n0_4 x429 : Int) (x430 : List T) => lpK c env lf 5 fi16 1 2 [] [1, 2, 12, 13] (x16_2_0) lf (f7_0_c b0_3 l0_0 l0_2 n0_1 n0_4 x429 x430)) (fun (r433 : List T) (x434 : Int) (x435 : List T) => lpK c env lf 6 fi7 5 6 [] [4, 14, 15, 16] (x7_6_0) lf (f7_1_c r433 x434 x435)) l0_0 n0_1 l0_2 b0_3 n0_4 := by kernel_rfl
theorem f7_eq (c : Orc) (lf : Nat) (l0_0 : List T) (n0_1 : Int) (l0_2 : List T) (b0_3 : Bool) (n0_4 : Int) : funK c env lf 6 fi7 [.st [.sl l0_0, .i .i64 n0_1, .sl l0_2, .b b0_3, .i .i64 n0_4]] = f7 c lf l0_0 n0_1 l0_2 b0_3 n0_4 := by
 refine (f7_raw c lf l0_0 n0_1 l0_2 b0_3 n0_4).trans ?_
 have e0 : (fun (b0_3 : Bool) (l0_0 l0_2 : List T) (n0_1 n0_4 x429 : Int) (x430 : List T) => lpK c env lf 5 fi16 1 2 [] [1, 2, 12, 13] (x16_2_0) lf (f7_0_c b0_3 l0_0 l0_2 n0_1 n0_4 x429 x430)) = (fun (b0_3 : Bool) (l0_0 l0_2 : List T) (n0_1 n0_4 x429 : Int) (x430 : List T) => f7_0 c lf b0_3 l0_0 l0_2 n0_1 n0_4 lf x429 x430) := by funext b0_3 l0_0 l0_2 n0_1 n0_4 x429 x430; exact f7_0_eq c lf b0_3 l0_0 l0_2 n0_1 n0_4 lf x429 x430
 have e1 : (fun (r433 : List T) (x434 : Int) (x435 : List T) => lpK c env lf 6 fi7 5 6 [] [4, 14, 15, 16] (x7_6_0) lf (f7_1_c r433 x434 x435)) = (fun (r433 : List T) (x434 : Int) (x435 : List T) => f7_1 c lf r433 lf x434 x435) := by funext r433 x434 x435; exact f7_1_eq c lf r433 lf x434 x435
 rw [e0, e1]; rfl
def f8_0_s (c : Orc) (lf : Nat) (l0 l1 : List T) (L : Int → Option (List T)) (x439 : Int) : Option (List T) :=
 bif iLt x439 (l0.length : Int) then
  bif inR x439 l0.length then
  bif inR x439 l1.length then
  bif (asI (l0.getD x439.toNat T.u)) != (asI (l1.getD x439.toNat T.u)) then
   some [T.i .i64 0, T.b false]
  else
   L (IntKind.wrap .i64 (x439 + 1))
  else none
  else none
 else
  some [T.i .i64 1]
def f8_0_c (l0 l1 : List T) (x439 : Int) : CSt := ⟨[.ro 0 false [.i .i64] l0, .ro 0 false [.i .i64] l1, .i .i64 x439], [.dead, .dead]⟩
theorem f8_0_round (c : Orc) (lf : Nat) (l0 l1 : List T) (L : CSt → Option (List T)) (x439 : Int) :
 roundK c env lf 6 fi8 2 4 [] [0, 1, 5] (x8_4_0) L (f8_0_c l0 l1 x439) = f8_0_s c lf l0 l1 (fun x439 => L (f8_0_c l0 l1 x439)) x439 := by kernel_rfl
def f8_0 (c : Orc) (lf : Nat) (l0 l1 : List T) : Nat → Int → Option (List T)
 | 0 => fun _ => none
 | n + 1 => fun x439 => f8_0_s c lf l0 l1 (f8_0 c lf l0 l1 n) x439
theorem f8_0_eq (c : Orc) (lf : Nat) (l0 l1 : List T) (n : Nat) (x439 : Int) :
 lpK c env lf 6 fi8 2 4 [] [0, 1, 5] (x8_4_0) n (f8_0_c l0 l1 x439) = f8_0 c lf l0 l1 n x439 := by
 induction n generalizing x439 with
 | zero => rfl
 | succ n ih =>
  refine (f8_0_round c lf l0 l1 _ x439).trans ?_
  have e : (fun x439 => lpK c env lf 6 fi8 2 4 [] [0, 1, 5] (x8_4_0) n (f8_0_c l0 l1 x439)) = f8_0 c lf l0 l1 n := by funext x439; exact ih x439
  show f8_0_s c lf l0 l1 (fun x439 => lpK c env lf 6 fi8 2 4 [] [0, 1, 5] (x8_4_0) n (f8_0_c l0 l1 x439)) x439 = _
  rw [e]; rfl
def f8_t (c : Orc) (lf : Nat) (lp0 : List T → List T → Int → Option (List T)) (l0 l1 : List T) : Option (List T) :=
 bif (l0.length : Int) != (l1.length : Int) then
  some [T.b false]
 else
  (lp0 l0 l1 0).bind fun r440 =>
  bif asI (nth r440 0) == 0 then
   some [T.b (asB (nth r440 1))]
  else
   some [T.b true]
def f8 (c : Orc) (lf : Nat) (l0 l1 : List T) : Option (List T) := f8_t c lf (fun (l0 l1 : List T) (x439 : Int) => f8_0 c lf l0 l1 lf x439) l0 l1
theorem f8_raw (c : Orc) (lf : Nat) (l0 l1 : List T) : funK c env lf 6 fi8 [.sl l0, .sl l1] = f8_t c lf (fun (l0 l1 : List T) (x439 : Int) => lpK c env lf 6 fi8 2 4 [] [0, 1, 5] (x8_4_0) lf (f8_0_c l0 l1 x439)) l0 l1 := by kernel_rfl
theorem f8_eq (c : Orc) (lf : Nat) (l0 l1 : List T) : funK c env lf 6 fi8 [.sl l0, .sl l1] = f8 c lf l0 l1 := by
 refine (f8_raw c lf l0 l1).trans ?_
 have e0 : (fun (l0 l1 : List T) (x439 : Int) => lpK c env lf 6 fi8 2 4 [] [0, 1, 5] (x8_4_0) lf (f8_0_c l0 l1 x439)) = (fun (l0 l1 : List T) (x439 : Int) => f8_0 c lf l0 l1 lf x439) := by funext l0 l1 x439; exact f8_0_eq c lf l0 l1 lf x439
 rw [e0]; rfl
def f80_0_s (c : Orc) (lf : Nat) (l0 l1 : List T) (L : Int → Option (List T)) (x443 : Int) : Option (List T) :=
 bif iLt x443 (l0.length : Int) then
  bif inR x443 l0.length then
  bif inR x443 l1.length then
  bif (asI (l0.getD x443.toNat T.u)) != (asI (l1.getD x443.toNat T.u)) then
   some [T.i .i64 0, T.b false]
  else
   L (IntKind.wrap .i64 (x443 + 1))
  else none
  else none
 else
  some [T.i .i64 1]
def f80_0_c (l0 l1 : List T) (x443 : Int) : CSt := ⟨[.ro 0 false [.i .u8] l0, .ro 0 false [.i .u8] l1, .i .i64 x443], [.dead, .dead]⟩
theorem f80_0_round (c : Orc) (lf : Nat) (l0 l1 : List T) (L : CSt → Option (List T)) (x443 : Int) :
 roundK c env lf 6 fi80 2 4 [] [0, 1, 5] (x80_4_0) L (f80_0_c l0 l1 x443) = f80_0_s c lf l0 l1 (fun x443 => L (f80_0_c l0 l1 x443)) x443 := by kernel_rfl
def f80_0 (c : Orc) (lf : Nat) (l0 l1 : List T) : Nat → Int → Option (List T)
 | 0 => fun _ => none
 | n + 1 => fun x443 => f80_0_s c lf l0 l1 (f80_0 c lf l0 l1 n) x443
theorem f80_0_eq (c : Orc) (lf : Nat) (l0 l1 : List T) (n : Nat) (x443 : Int) :
 lpK c env lf 6 fi80 2 4 [] [0, 1, 5] (x80_4_0) n (f80_0_c l0 l1 x443) = f80_0 c lf l0 l1 n x443 := by
 induction n generalizing x443 with
 | zero => rfl
 | succ n ih =>
  refine (f80_0_round c lf l0 l1 _ x443).trans ?_
  have e : (fun x443 => lpK c env lf 6 fi80 2 4 [] [0, 1, 5] (x80_4_0) n (f80_0_c l0 l1 x443)) = f80_0 c lf l0 l1 n := by funext x443; exact ih x443
  show f80_0_s c lf l0 l1 (fun x443 => lpK c env lf 6 fi80 2 4 [] [0, 1, 5] (x80_4_0) n (f80_0_c l0 l1 x443)) x443 = _
  rw [e]; rfl
def f80_t (c : Orc) (lf : Nat) (lp0 : List T → List T → Int → Option (List T)) (l0 l1 : List T) : Option (List T) :=
 bif (l0.length : Int) != (l1.length : Int) then
  some [T.b false]
 else
  (lp0 l0 l1 0).bind fun r444 =>
  bif asI (nth r444 0) == 0 then
   some [T.b (asB (nth r444 1))]
  else
   some [T.b true]
def f80 (c : Orc) (lf : Nat) (l0 l1 : List T) : Option (List T) := f80_t c lf (fun (l0 l1 : List T) (x443 : Int) => f80_0 c lf l0 l1 lf x443) l0 l1
theorem f80_raw (c : Orc) (lf : Nat) (l0 l1 : List T) : funK c env lf 6 fi80 [.sl l0, .sl l1] = f80_t c lf (fun (l0 l1 : List T) (x443 : Int) => lpK c env lf 6 fi80 2 4 [] [0, 1, 5] (x80_4_0) lf (f80_0_c l0 l1 x443)) l0 l1 := by kernel_rfl
theorem f80_eq (c : Orc) (lf : Nat) (l0 l1 : List T) : funK c env lf 6 fi80 [.sl l0, .sl l1] = f80 c lf l0 l1 := by
 refine (f80_raw c lf l0 l1).trans ?_
 have e0 : (fun (l0 l1 : List T) (x443 : Int) => lpK c env lf 6 fi80 2 4 [] [0, 1, 5] (x80_4_0) lf (f80_0_c l0 l1 x443)) = (fun (l0 l1 : List T) (x443 : Int) => f80_0 c lf l0 l1 lf x443) := by funext l0 l1 x443; exact f80_0_eq c lf l0 l1 lf x443
 rw [e0]; rfl
def f77_t (c : Orc) (lf : Nat) (b0_0 : Bool) (l0_1 : List T) (b1_0 : Bool) (l1_1 : List T) : Option (List T) :=
 bif !(b0_0 == b1_0) then
  some [T.b false]
 else
  (c 80 [T.sl l0_1, T.sl l1_1]).bind fun r445 =>
  bif !(asB (nth r445 0)) then
   some [T.b false]
  else
   some [T.b true]
def f77 (c : Orc) (lf : Nat) (b0_0 : Bool) (l0_1 : List T) (b1_0 : Bool) (l1_1 : List T) : Option (List T) := f77_t c lf b0_0 l0_1 b1_0 l1_1
theorem f77_eq (c : Orc) (lf : Nat) (b0_0 : Bool) (l0_1 : List T) (b1_0 : Bool) (l1_1 : List T) : funK c env lf 6 fi77 [.st [.b b0_0, .sl l0_1], .st [.b b1_0, .sl l1_1]] = f77 c lf b0_0 l0_1 b1_0 l1_1 := by kernel_rfl
def f72_0_s (c : Orc) (lf : Nat) (l0 l1 : List T) (L : Int → Option (List T)) (x451 : Int) : Option (List T) :=
 bif iLt x451 (l0.length : Int) then
  bif inR x451 l0.length then
  bif inR x451 l1.length then
  (c 77 [T.st [T.b (asB (T.cell (l0.getD x451.toNat T.u) 0)), T.sl (asL (T.cell (l0.getD x451.toNat T.u) 1))], T.st [T.b (asB (T.cell (l1.getD x451.toNat T.u) 0)), T.sl (asL (T.cell (l1.getD x451.toNat T.u) 1))]]).bind fun r452 =>
  bif !(asB (nth r452 0)) then
   some [T.i .i64 0, T.b false]
  else
   L (IntKind.wrap .i64 (x451 + 1))
  else none
  else none
 else
  some [T.i .i64 1]
def f72_0_c (l0 l1 : List T) (x451 : Int) : CSt := ⟨[.ro 0 true [.b, .sl false [.i .u8]] l0, .ro 0 true [.b, .sl false [.i .u8]] l1, .i .i64 x451], [.dead, .dead]⟩
theorem f72_0_round (c : Orc) (lf : Nat) (l0 l1 : List T) (L : CSt → Option (List T)) (x451 : Int) :
 roundK c env lf 6 fi72 2 4 [] [0, 1, 5] (x72_4_0) L (f72_0_c l0 l1 x451) = f72_0_s c lf l0 l1 (fun x451 => L (f72_0_c l0 l1 x451)) x451 := by kernel_rfl
def f72_0 (c : Orc) (lf : Nat) (l0 l1 : List T) : Nat → Int → Option (List T)
 | 0 => fun _ => none
 | n + 1 => fun x451 => f72_0_s c lf l0 l1 (f72_0 c lf l0 l1 n) x451
theorem f72_0_eq (c : Orc) (lf : Nat) (l0 l1 : List T) (n : Nat) (x451 : Int) :
 lpK c env lf 6 fi72 2 4 [] [0, 1, 5] (x72_4_0) n (f72_0_c l0 l1 x451) = f72_0 c lf l0 l1 n x451 := by
 induction n generalizing x451 with
 | zero => rfl
 | succ n ih =>
  refine (f72_0_round c lf l0 l1 _ x451).trans ?_
  have e : (fun x451 => lpK c env lf 6 fi72 2 4 [] [0, 1, 5] (x72_4_0) n (f72_0_c l0 l1 x451)) = f72_0 c lf l0 l1 n := by funext x451; exact ih x451
  show f72_0_s c lf l0 l1 (fun x451 => lpK c env lf 6 fi72 2 4 [] [0, 1, 5] (x72_4_0) n (f72_0_c l0 l1 x451)) x451 = _
  rw [e]; rfl
def f72_t (c : Orc) (lf : Nat) (lp0 : List T → List T → Int → Option (List T)) (l0 l1 : List T) : Option (List T) :=
 bif (l0.length : Int) != (l1.length : Int) then
  some [T.b false]
 else
  (lp0 l0 l1 0).bind fun r453 =>
  bif asI (nth r453 0) == 0 then
   some [T.b (asB (nth r453 1))]
  else
   some [T.b true]
def f72 (c : Orc) (lf : Nat) (l0 l1 : List T) : Option (List T) := f72_t c lf (fun (l0 l1 : List T) (x451 : Int) => f72_0 c lf l0 l1 lf x451) l0 l1
theorem f72_raw (c : Orc) (lf : Nat) (l0 l1 : List T) : funK c env lf 6 fi72 [.sl l0, .sl l1] = f72_t c lf (fun (l0 l1 : List T) (x451 : Int) => lpK c env lf 6 fi72 2 4 [] [0, 1, 5] (x72_4_0) lf (f72_0_c l0 l1 x451)) l0 l1 := by kernel_rfl
theorem f72_eq (c : Orc) (lf : Nat) (l0 l1 : List T) : funK c env lf 6 fi72 [.sl l0, .sl l1] = f72 c lf l0 l1 := by
 refine (f72_raw c lf l0 l1).trans ?_
 have e0 : (fun (l0 l1 : List T) (x451 : Int) => lpK c env lf 6 fi72 2 4 [] [0, 1, 5] (x72_4_0) lf (f72_0_c l0 l1 x451)) = (fun (l0 l1 : List T) (x451 : Int) => f72_0 c lf l0 l1 lf x451) := by funext l0 l1 x451; exact f72_0_eq c lf l0 l1 lf x451
 rw [e0]; rfl
def f64_t (c : Orc) (lf : Nat) (l0_0 : List T) (n0_1 : Int) (b0_2 : Bool) (l1_0 : List T) (n1_1 : Int) (b1_2 : Bool) : Option (List T) :=
 (c 72 [T.sl l0_0, T.sl l1_0]).bind fun r454 =>
 bif !(asB (nth r454 0)) then
  some [T.b false]
 else
  bif n0_1 != n1_1 then
   some [T.b false]
  else
   bif !(b0_2 == b1_2) then
    some [T.b false]
   else
    some [T.b true]
def f64 (c : Orc) (lf : Nat) (l0_0 : List T) (n0_1 : Int) (b0_2 : Bool) (l1_0 : List T) (n1_1 : Int) (b1_2 : Bool) : Option (List T) := f64_t c lf l0_0 n0_1 b0_2 l1_0 n1_1 b1_2
theorem f64_eq (c : Orc) (lf : Nat) (l0_0 : List T) (n0_1 : Int) (b0_2 : Bool) (l1_0 : List T) (n1_1 : Int) (b1_2 : Bool) : funK c env lf 6 fi64 [.st [.sl l0_0, .i .i64 n0_1, .b b0_2], .st [.sl l1_0, .i .i64 n1_1, .b b1_2]] = f64 c lf l0_0 n0_1 b0_2 l1_0 n1_1 b1_2 := by kernel_rfl
def f47_0_s (c : Orc) (lf : Nat) (l0 l1 : List T) (L : Int → Option (List T)) (x460 : Int) : Option (List T) :=
 bif iLt x460 (l0.length : Int) then
  bif inR x460 l0.length then
  bif inR x460 l1.length then
  (c 64 [T.st [T.sl (asL (T.cell (l0.getD x460.toNat T.u) 0)), T.i .i64 (asI (T.cell (l0.getD x460.toNat T.u) 1)), T.b (asB (T.cell (l0.getD x460.toNat T.u) 2))], T.st [T.sl (asL (T.cell (l1.getD x460.toNat T.u) 0)), T.i .i64 (asI (T.cell (l1.getD x460.toNat T.u) 1)), T.b (asB (T.cell (l1.getD x460.toNat T.u) 2))]]).bind fun r461 =>
  bif !(asB (nth r461 0)) then
   some [T.i .i64 0, T.b false]
  else
   L (IntKind.wrap .i64 (x460 + 1))
  else none
  else none
 else
  some [T.i .i64 1]
def f47_0_c (l0 l1 : List T) (x460 : Int) : CSt := ⟨[.ro 0 true [.sl true [.b, .sl false [.i .u8]], .i .i64, .b] l0, .ro 0 true [.sl true [.b, .sl false [.i .u8]], .i .i64, .b] l1, .i .i64 x460], [.dead, .dead]⟩
theorem f47_0_round (c : Orc) (lf : Nat) (l0 l1 : List T) (L : CSt → Option (List T)) (x460 : Int) :
 roundK c env lf 6 fi47 2 4 [] [0, 1, 5] (x47_4_0) L (f47_0_c l0 l1 x460) = f47_0_s c lf l0 l1 (fun x460 => L (f47_0_c l0 l1 x460)) x460 := by kernel_rfl
def f47_0 (c : Orc) (lf : Nat) (l0 l1 : List T) : Nat → Int → Option (List T)
 | 0 => fun _ => none
 | n + 1 => fun x460 => f47_0_s c lf l0 l1 (f47_0 c lf l0 l1 n) x460
theorem f47_0_eq (c : Orc) (lf : Nat) (l0 l1 : List T) (n : Nat) (x460 : Int) :
 lpK c env lf 6 fi47 2 4 [] [0, 1, 5] (x47_4_0) n (f47_0_c l0 l1 x460) = f47_0 c lf l0 l1 n x460 := by
 induction n generalizing x460 with
 | zero => rfl
 | succ n ih =>
  refine (f47_0_round c lf l0 l1 _ x460).trans ?_
  have e : (fun x460 => lpK c env lf 6 fi47 2 4 [] [0, 1, 5] (x47_4_0) n (f47_0_c l0 l1 x460)) = f47_0 c lf l0 l1 n := by funext x460; exact ih x460
  show f47_0_s c lf l0 l1 (fun x460 => lpK c env lf 6 fi47 2 4 [] [0, 1, 5] (x47_4_0) n (f47_0_c l0 l1 x460)) x460 = _
  rw [e]; rfl
def f47_t (c : Orc) (lf : Nat) (lp0 : List T → List T → Int → Option (List T)) (l0 l1 : List T) : Option (List T) :=
 bif (l0.length : Int) != (l1.length : Int) then
  some [T.b false]
 else
  (lp0 l0 l1 0).bind fun r462 =>
  bif asI (nth r462 0) == 0 then
   some [T.b (asB (nth r462 1))]
  else
   some [T.b true]
def f47 (c : Orc) (lf : Nat) (l0 l1 : List T) : Option (List T) := f47_t c lf (fun (l0 l1 : List T) (x460 : Int) => f47_0 c lf l0 l1 lf x460) l0 l1
theorem f47_raw (c : Orc) (lf : Nat) (l0 l1 : List T) : funK c env lf 6 fi47 [.sl l0, .sl l1] = f47_t c lf (fun (l0 l1 : List T) (x460 : Int) => lpK c env lf 6 fi47 2 4 [] [0, 1, 5] (x47_4_0) lf (f47_0_c l0 l1 x460)) l0 l1 := by kernel_rfl
theorem f47_eq (c : Orc) (lf : Nat) (l0 l1 : List T) : funK c env lf 6 fi47 [.sl l0, .sl l1] = f47 c lf l0 l1 := by
 refine (f47_raw c lf l0 l1).trans ?_
 have e0 : (fun (l0 l1 : List T) (x460 : Int) => lpK c env lf 6 fi47 2 4 [] [0, 1, 5] (x47_4_0) lf (f47_0_c l0 l1 x460)) = (fun (l0 l1 : List T) (x460 : Int) => f47_0 c lf l0 l1 lf x460) := by funext l0 l1 x460; exact f47_0_eq c lf l0 l1 lf x460
 rw [e0]; rfl
def f32_t (c : Orc) (lf : Nat) (l0_0 l1_0 : List T) : Option (List T) :=
 (c 47 [T.sl l0_0, T.sl l1_0]).bind fun r463 =>
 bif !(asB (nth r463 0)) then
  some [T.b false]
 else
  some [T.b true]
def f32 (c : Orc) (lf : Nat) (l0_0 l1_0 : List T) : Option (List T) := f32_t c lf l0_0 l1_0
theorem f32_eq (c : Orc) (lf : Nat) (l0_0 l1_0 : List T) : funK c env lf 6 fi32 [.st [.sl l0_0], .st [.sl l1_0]] = f32 c lf l0_0 l1_0 := by kernel_rfl
def f48_t (c : Orc) (lf : Nat) (n0_0 n0_1 : Int) (n0_2 n1_0 : Int) (n1_1 n1_2 : Int) : Option (List T) :=
 bif n0_0 != n1_0 then
  some [T.b false]
 else
  bif n0_1 != n1_1 then
   some [T.b false]
  else
   bif n0_2 != n1_2 then
    some [T.b false]
   else
    some [T.b true]
def f48 (c : Orc) (lf : Nat) (n0_0 n0_1 : Int) (n0_2 n1_0 : Int) (n1_1 n1_2 : Int) : Option (List T) := f48_t c lf n0_0 n0_1 n0_2 n1_0 n1_1 n1_2
theorem f48_eq (c : Orc) (lf : Nat) (n0_0 n0_1 : Int) (n0_2 n1_0 : Int) (n1_1 n1_2 : Int) : funK c env lf 6 fi48 [.st [.i .i64 n0_0, .i .i64 n0_1, .i .i64 n0_2], .st [.i .i64 n1_0, .i .i64 n1_1, .i .i64 n1_2]] = f48 c lf n0_0 n0_1 n0_2 n1_0 n1_1 n1_2 := by kernel_rfl
def f33_0_s (c : Orc) (lf : Nat) (l0 l1 : List T) (L : Int → Option (List T)) (x469 : Int) : Option (List T) :=
 bif iLt x469 (l0.length : Int) then
  bif inR x469 l0.length then
  bif inR x469 l1.length then
  (c 48 [T.st [T.i .i64 (asI (T.cell (l0.getD x469.toNat T.u) 0)), T.i .i64 (asI (T.cell (l0.getD x469.toNat T.u) 1)), T.i .i64 (asI (T.cell (l0.getD x469.toNat T.u) 2))], T.st [T.i .i64 (asI (T.cell (l1.getD x469.toNat T.u) 0)), T.i .i64 (asI (T.cell (l1.getD x469.toNat T.u) 1)), T.i .i64 (asI (T.cell (l1.getD x469.toNat T.u) 2))]]).bind fun r470 =>
  bif !(asB (nth r470 0)) then
   some [T.i .i64 0, T.b false]
  else
   L (IntKind.wrap .i64 (x469 + 1))
  else none
  else none
 else
  some [T.i .i64 1]
def f33_0_c (l0 l1 : List T) (x469 : Int) : CSt := ⟨[.ro 0 true [.i .i64, .i .i64, .i .i64] l0, .ro 0 true [.i .i64, .i .i64, .i .i64] l1, .i .i64 x469], [.dead, .dead]⟩
theorem f33_0_round (c : Orc) (lf : Nat) (l0 l1 : List T) (L : CSt → Option (List T)) (x469 : Int) :
 roundK c env lf 6 fi33 2 4 [] [0, 1, 5] (x33_4_0) L (f33_0_c l0 l1 x469) = f33_0_s c lf l0 l1 (fun x469 => L (f33_0_c l0 l1 x469)) x469 := by kernel_rfl
def f33_0 (c : Orc) (lf : Nat) (l0 l1 : List T) : Nat → Int → Option (List T)
 | 0 => fun _ => none
 | n + 1 => fun x469 => f33_0_s c lf l0 l1 (f33_0 c lf l0 l1 n) x469
theorem f33_0_eq (c : Orc) (lf : Nat) (l0 l1 : List T) (n : Nat) (x469 : Int) :
 lpK c env lf 6 fi33 2 4 [] [0, 1, 5] (x33_4_0) n (f33_0_c l0 l1 x469) = f33_0 c lf l0 l1 n x469 := by
 induction n generalizing x469 with
 | zero => rfl
 | succ n ih =>
  refine (f33_0_round c lf l0 l1 _ x469).trans ?_
  have e : (fun x469 => lpK c env lf 6 fi33 2 4 [] [0, 1, 5] (x33_4_0) n (f33_0_c l0 l1 x469)) = f33_0 c lf l0 l1 n := by funext x469; exact ih x469
  show f33_0_s c lf l0 l1 (fun x469 => lpK c env lf 6 fi33 2 4 [] [0, 1, 5] (x33_4_0) n (f33_0_c l0 l1 x469)) x469 = _
  rw [e]; rfl
def f33_t (c : Orc) (lf : Nat) (lp0 : List T → List T → Int → Option (List T)) (l0 l1 : List T) : Option (List T) :=
 bif (l0.length : Int) != (l1.length : Int) then
  some [T.b false]
 else
  (lp0 l0 l1 0).bind fun r471 =>
  bif asI (nth r471 0) == 0 then
   some [T.b (asB (nth r471 1))]
  else
   some [T.b true]
def f33 (c : Orc) (lf : Nat) (l0 l1 : List T) : Option (List T) := f33_t c lf (fun (l0 l1 : List T) (x469 : Int) => f33_0 c lf l0 l1 lf x469) l0 l1
theorem f33_raw (c : Orc) (lf : Nat) (l0 l1 : List T) : funK c env lf 6 fi33 [.sl l0, .sl l1] = f33_t c lf (fun (l0 l1 : List T) (x469 : Int) => lpK c env lf 6 fi33 2 4 [] [0, 1, 5] (x33_4_0) lf (f33_0_c l0 l1 x469)) l0 l1 := by kernel_rfl
theorem f33_eq (c : Orc) (lf : Nat) (l0 l1 : List T) : funK c env lf 6 fi33 [.sl l0, .sl l1] = f33 c lf l0 l1 := by
 refine (f33_raw c lf l0 l1).trans ?_
 have e0 : (fun (l0 l1 : List T) (x469 : Int) => lpK c env lf 6 fi33 2 4 [] [0, 1, 5] (x33_4_0) lf (f33_0_c l0 l1 x469)) = (fun (l0 l1 : List T) (x469 : Int) => f33_0 c lf l0 l1 lf x469) := by funext l0 l1 x469; exact f33_0_eq c lf l0 l1 lf x469
 rw [e0]; rfl
def f21_t (c : Orc) (lf : Nat) (l0_0 : List T) (n0_1 : Int) (l0_2 : List T) (b0_3 : Bool) (l1_0 : List T) (n1_1 : Int) (l1_2 : List T) (b1_3 : Bool) : Option (List T) :=
 (c 32 [T.st [T.sl l0_0], T.st [T.sl l1_0]]).bind fun r472 =>
 bif !(asB (nth r472 0)) then
  some [T.b false]
 else
  bif n0_1 != n1_1 then
   some [T.b false]
  else
   (c 33 [T.sl l0_2, T.sl l1_2]).bind fun r473 =>
   bif !(asB (nth r473 0)) then
    some [T.b false]
   else
    bif !(b0_3 == b1_3) then
     some [T.b false]
    else
     some [T.b true]
def f21 (c : Orc) (lf : Nat) (l0_0 : List T) (n0_1 : Int) (l0_2 : List T) (b0_3 : Bool) (l1_0 : List T) (n1_1 : Int) (l1_2 : List T) (b1_3 : Bool) : Option (List T) := f21_t c lf l0_0 n0_1 l0_2 b0_3 l1_0 n1_1 l1_2 b1_3
theorem f21_eq (c : Orc) (lf : Nat) (l0_0 : List T) (n0_1 : Int) (l0_2 : List T) (b0_3 : Bool) (l1_0 : List T) (n1_1 : Int) (l1_2 : List T) (b1_3 : Bool) : funK c env lf 6 fi21 [.st [.sl l0_0, .i .i64 n0_1, .sl l0_2, .b b0_3], .st [.sl l1_0, .i .i64 n1_1, .sl l1_2, .b b1_3]] = f21 c lf l0_0 n0_1 l0_2 b0_3 l1_0 n1_1 l1_2 b1_3 := by kernel_rfl
def f9_t (c : Orc) (lf : Nat) (l0_0 : List T) (n0_1 : Int) (l0_2 : List T) (b0_3 : Bool) (n0_4 : Int) (l1_0 : List T) (n1_1 : Int) (l1_2 : List T) (b1_3 : Bool) (n1_4 : Int) : Option (List T) :=
 (c 21 [T.st [T.sl l0_0, T.i .i64 n0_1, T.sl l0_2, T.b b0_3], T.st [T.sl l1_0, T.i .i64 n1_1, T.sl l1_2, T.b b1_3]]).bind fun r474 =>
 bif !(asB (nth r474 0)) then
  some [T.b false]
 else
  bif n0_4 != n1_4 then
   some [T.b false]
  else
   some [T.b true]
def f9 (c : Orc) (lf : Nat) (l0_0 : List T) (n0_1 : Int) (l0_2 : List T) (b0_3 : Bool) (n0_4 : Int) (l1_0 : List T) (n1_1 : Int) (l1_2 : List T) (b1_3 : Bool) (n1_4 : Int) : Option (List T) := f9_t c lf l0_0 n0_1 l0_2 b0_3 n0_4 l1_0 n1_1 l1_2 b1_3 n1_4
theorem f9_eq (c : Orc) (lf : Nat) (l0_0 : List T) (n0_1 : Int) (l0_2 : List T) (b0_3 : Bool) (n0_4 : Int) (l1_0 : List T) (n1_1 : Int) (l1_2 : List T) (b1_3 : Bool) (n1_4 : Int) : funK c env lf 6 fi9 [.st [.sl l0_0, .i .i64 n0_1, .sl l0_2, .b b0_3, .i .i64 n0_4], .st [.sl l1_0, .i .i64 n1_1, .sl l1_2, .b b1_3, .i .i64 n1_4]] = f9 c lf l0_0 n0_1 l0_2 b0_3 n0_4 l1_0 n1_1 l1_2 b1_3 n1_4 := by kernel_rfl
def f73_0_s (c : Orc) (lf : Nat) (L : Int → Int → List T → Option (List T)) (x479 x480 : Int) (x481 : List T) : Option (List T) :=
 bif iLt x480 (x481.length : Int) then
  bif inR x480 x481.length then
  L (IntKind.wrap .i64 (x479 + 1)) (IntKind.wrap .i64 (x480 + 1)) (x481.set x480.toNat (T.i .u8 (IntKind.wrap .u8 x479)))
  else none
 else
  some [T.i .i64 0, T.i .i64 x479, T.sl x481]
def f73_0_c (x479 x480 : Int) (x481 : List T) : CSt := ⟨[.rf 0 [] 0 none, .i .i64 x479, .i .i64 x480], [.row false [.i .u8] x481 0 false, .dead]⟩
theorem f73_0_round (c : Orc) (lf : Nat) (L : CSt → Option (List T)) (x479 x480 : Int) (x481 : List T) :
 roundK c env lf 6 fi73 2 2 [] [0, 1, 5] (x73_2_0) L (f73_0_c x479 x480 x481) = f73_0_s c lf (fun x479 x480 x481 => L (f73_0_c x479 x480 x481)) x479 x480 x481 := by kernel_rfl
def f73_0 (c : Orc) (lf : Nat) : Nat → Int → Int → List T → Option (List T)
 | 0 => fun _ _ _ => none
 | n + 1 => fun x479 x480 x481 => f73_0_s c lf (f73_0 c lf n) x479 x480 x481
theorem f73_0_u (c : Orc) (lf n : Nat) (x479 x480 : Int) (x481 : List T) : f73_0 c lf (n + 1) x479 x480 x481 = f73_0_s c lf (f73_0 c lf n) x479 x480 x481 := rfl
theorem f73_0_eq (c : Orc) (lf n : Nat) (x479 x480 : Int) (x481 : List T) :
 lpK c env lf 6 fi73 2 2 [] [0, 1, 5] (x73_2_0) n (f73_0_c x479 x480 x481) = f73_0 c lf n x479 x480 x481 := by
 induction n generalizing x479 x480 x481 with
 | zero => rfl
 | succ n ih =>
  refine (f73_0_round c lf _ x479 x480 x481).trans ?_
  have e : (fun x479 x480 x481 => lpK c env lf 6 fi73 2 2 [] [0, 1, 5] (x73_2_0) n (f73_0_c x479 x480 x481)) = f73_0 c lf n := by funext x479 x480 x481; exact ih x479 x480 x481
  show f73_0_s c lf (fun x479 x480 x481 => lpK c env lf 6 fi73 2 2 [] [0, 1, 5] (x73_2_0) n (f73_0_c x479 x480 x481)) x479 x480 x481 = _
  rw [e]; rfl
def f73_t (c : Orc) (lf : Nat) (lp0 : Int → Int → List T → Option (List T)) (l0 : List T) (n1 : Int) : Option (List T) :=
 (lp0 n1 0 l0).bind fun r482 =>
 some [T.i .i64 (asI (nth r482 1)), T.sl (asL (nth r482 2))]
def f73 (c : Orc) (lf : Nat) (l0 : List T) (n1 : Int) : Option (List T) := f73_t c lf (fun (x479 x480 : Int) (x481 : List T) => f73_0 c lf lf x479 x480 x481) l0 n1
theorem f73_raw (c : Orc) (lf : Nat) (l0 : List T) (n1 : Int) : funK c env lf 6 fi73 [.sl l0, .i .i64 n1] = f73_t c lf (fun (x479 x480 : Int) (x481 : List T) => lpK c env lf 6 fi73 2 2 [] [0, 1, 5] (x73_2_0) lf (f73_0_c x479 x480 x481)) l0 n1 := by kernel_rfl
theorem f73_eq (c : Orc) (lf : Nat) (l0 : List T) (n1 : Int) : funK c env lf 6 fi73 [.sl l0, .i .i64 n1] = f73 c lf l0 n1 := by
 refine (f73_raw c lf l0 n1).trans ?_
 have e0 : (fun (x479 x480 : Int) (x481 : List T) => lpK c env lf 6 fi73 2 2 [] [0, 1, 5] (x73_2_0) lf (f73_0_c x479 x480 x481)) = (fun (x479 x480 : Int) (x481 : List T) => f73_0 c lf lf x479 x480 x481) := by funext x479 x480 x481; exact f73_0_eq c lf lf x479 x480 x481
 rw [e0]; rfl
def f65_0_s (c : Orc) (lf : Nat) (L : Int → Int → List T → Option (List T)) (x490 x491 : Int) (x492 : List T) : Option (List T) :=
 bif iLt x491 (x492.length : Int) then
  bif inR x491 x492.length then
  bif inR x491 ((x492.set x491.toNat (T.setc (x492.getD x491.toNat T.u) 0 (T.b ((x490.tmod 3) == 0)))).length) then
  (c 73 [T.sl (asL (T.cell ((x492.set x491.toNat (T.setc (x492.getD x491.toNat T.u) 0 (T.b ((x490.tmod 3) == 0)))).getD x491.toNat T.u) 1)), T.i .i64 (IntKind.wrap .i64 (x490 + 1))]).bind fun r493 =>
  L (asI (nth r493 0)) (IntKind.wrap .i64 (x491 + 1)) ((x492.set x491.toNat (T.setc (x492.getD x491.toNat T.u) 0 (T.b ((x490.tmod 3) == 0)))).set x491.toNat (T.setc ((x492.set x491.toNat (T.setc (x492.getD x491.toNat T.u) 0 (T.b ((x490.tmod 3) == 0)))).getD x491.toNat T.u) 1 (T.sl (asL (nth r493 1)))))
  else none
  else none
 else
  some [T.i .i64 0, T.i .i64 x490, T.sl x492]
def f65_0_c (x490 x491 : Int) (x492 : List T) : CSt := ⟨[.rf 0 [] 0 none, .i .i64 x490, .i .i64 x491], [.row true [.b, .sl false [.i .u8]] x492 0 false, .dead]⟩
theorem f65_0_round (c : Orc) (lf : Nat) (L : CSt → Option (List T)) (x490 x491 : Int) (x492 : List T) :
 roundK c env lf 6 fi65 2 2 [] [0, 1, 5] (x65_2_0) L (f65_0_c x490 x491 x492) = f65_0_s c lf (fun x490 x491 x492 => L (f65_0_c x490 x491 x492)) x490 x491 x492 := by kernel_rfl
def f65_0 (c : Orc) (lf : Nat) : Nat → Int → Int → List T → Option (List T)
 | 0 => fun _ _ _ => none
 | n + 1 => fun x490 x491 x492 => f65_0_s c lf (f65_0 c lf n) x490 x491 x492
theorem f65_0_u (c : Orc) (lf n : Nat) (x490 x491 : Int) (x492 : List T) : f65_0 c lf (n + 1) x490 x491 x492 = f65_0_s c lf (f65_0 c lf n) x490 x491 x492 := rfl
theorem f65_0_eq (c : Orc) (lf n : Nat) (x490 x491 : Int) (x492 : List T) :
 lpK c env lf 6 fi65 2 2 [] [0, 1, 5] (x65_2_0) n (f65_0_c x490 x491 x492) = f65_0 c lf n x490 x491 x492 := by
 induction n generalizing x490 x491 x492 with
 | zero => rfl
 | succ n ih =>
  refine (f65_0_round c lf _ x490 x491 x492).trans ?_
  have e : (fun x490 x491 x492 => lpK c env lf 6 fi65 2 2 [] [0, 1, 5] (x65_2_0) n (f65_0_c x490 x491 x492)) = f65_0 c lf n := by funext x490 x491 x492; exact ih x490 x491 x492
  show f65_0_s c lf (fun x490 x491 x492 => lpK c env lf 6 fi65 2 2 [] [0, 1, 5] (x65_2_0) n (f65_0_c x490 x491 x492)) x490 x491 x492 = _
  rw [e]; rfl
def f65_t (c : Orc) (lf : Nat) (lp0 : Int → Int → List T → Option (List T)) (l0 : List T) (n1 : Int) : Option (List T) :=
 (lp0 n1 0 l0).bind fun r494 =>
 some [T.i .i64 (asI (nth r494 1)), T.sl (asL (nth r494 2))]
def f65 (c : Orc) (lf : Nat) (l0 : List T) (n1 : Int) : Option (List T) := f65_t c lf (fun (x490 x491 : Int) (x492 : List T) => f65_0 c lf lf x490 x491 x492) l0 n1
theorem f65_raw (c : Orc) (lf : Nat) (l0 : List T) (n1 : Int) : funK c env lf 6 fi65 [.sl l0, .i .i64 n1] = f65_t c lf (fun (x490 x491 : Int) (x492 : List T) => lpK c env lf 6 fi65 2 2 [] [0, 1, 5] (x65_2_0) lf (f65_0_c x490 x491 x492)) l0 n1 := by kernel_rfl
theorem f65_eq (c : Orc) (lf : Nat) (l0 : List T) (n1 : Int) : funK c env lf 6 fi65 [.sl l0, .i .i64 n1] = f65 c lf l0 n1 := by
 refine (f65_raw c lf l0 n1).trans ?_
 have e0 : (fun (x490 x491 : Int) (x492 : List T) => lpK c env lf 6 fi65 2 2 [] [0, 1, 5] (x65_2_0) lf (f65_0_c x490 x491 x492)) = (fun (x490 x491 : Int) (x492 : List T) => f65_0 c lf lf x490 x491 x492) := by funext x490 x491 x492; exact f65_0_eq c lf lf x490 x491 x492
 rw [e0]; rfl
def f49_0_s (c : Orc) (lf : Nat) (L : Int → Int → List T → Option (List T)) (x502 x503 : Int) (x504 : List T) : Option (List T) :=
 bif iLt x503 (x504.length : Int) then
  bif inR x503 x504.length then
  (c 65 [T.sl (asL (T.cell (x504.getD x503.toNat T.u) 0)), T.i .i64 x502]).bind fun r505 =>
  bif inR x503 ((x504.set x503.toNat (T.setc (x504.getD x503.toNat T.u) 0 (T.sl (asL (nth r505 1))))).length) then
  bif inR x503 (((x504.set x503.toNat (T.setc (x504.getD x503.toNat T.u) 0 (T.sl (asL (nth r505 1))))).set x503.toNat (T.setc ((x504.set x503.toNat (T.setc (x504.getD x503.toNat T.u) 0 (T.sl (asL (nth r505 1))))).getD x503.toNat T.u) 1 (T.i .i64 (asI (nth r505 0))))).length) then
  L (IntKind.wrap .i64 ((IntKind.wrap .i64 ((asI (nth r505 0)) + 1)) + 1)) (IntKind.wrap .i64 (x503 + 1)) (((x504.set x503.toNat (T.setc (x504.getD x503.toNat T.u) 0 (T.sl (asL (nth r505 1))))).set x503.toNat (T.setc ((x504.set x503.toNat (T.setc (x504.getD x503.toNat T.u) 0 (T.sl (asL (nth r505 1))))).getD x503.toNat T.u) 1 (T.i .i64 (asI (nth r505 0))))).set x503.toNat (T.setc (((x504.set x503.toNat (T.setc (x504.getD x503.toNat T.u) 0 (T.sl (asL (nth r505 1))))).set x503.toNat (T.setc ((x504.set x503.toNat (T.setc (x504.getD x503.toNat T.u) 0 (T.sl (asL (nth r505 1))))).getD x503.toNat T.u) 1 (T.i .i64 (asI (nth r505 0))))).getD x503.toNat T.u) 2 (T.b (((IntKind.wrap .i64 ((asI (nth r505 0)) + 1)).tmod 3) == 0))))
  else none
  else none
  else none
 else
  some [T.i .i64 0, T.i .i64 x502, T.sl x504]
def f49_0_c (x502 x503 : Int) (x504 : List T) : CSt := ⟨[.rf 0 [] 0 none, .i .i64 x502, .i .i64 x503], [.row true [.sl true [.b, .sl false [.i .u8]], .i .i64, .b] x504 0 false, .dead]⟩
theorem f49_0_round (c : Orc) (lf : Nat) (L : CSt → Option (List T)) (x502 x503 : Int) (x504 : List T) :
 roundK c env lf 6 fi49 2 2 [] [0, 1, 5] (x49_2_0) L (f49_0_c x502 x503 x504) = f49_0_s c lf (fun x502 x503 x504 => L (f49_0_c x502 x503 x504)) x502 x503 x504 := by kernel_rfl
def f49_0 (c : Orc) (lf : Nat) : Nat → Int → Int → List T → Option (List T)
 | 0 => fun _ _ _ => none
 | n + 1 => fun x502 x503 x504 => f49_0_s c lf (f49_0 c lf n) x502 x503 x504
theorem f49_0_u (c : Orc) (lf n : Nat) (x502 x503 : Int) (x504 : List T) : f49_0 c lf (n + 1) x502 x503 x504 = f49_0_s c lf (f49_0 c lf n) x502 x503 x504 := rfl
theorem f49_0_eq (c : Orc) (lf n : Nat) (x502 x503 : Int) (x504 : List T) :
 lpK c env lf 6 fi49 2 2 [] [0, 1, 5] (x49_2_0) n (f49_0_c x502 x503 x504) = f49_0 c lf n x502 x503 x504 := by
 induction n generalizing x502 x503 x504 with
 | zero => rfl
 | succ n ih =>
  refine (f49_0_round c lf _ x502 x503 x504).trans ?_
  have e : (fun x502 x503 x504 => lpK c env lf 6 fi49 2 2 [] [0, 1, 5] (x49_2_0) n (f49_0_c x502 x503 x504)) = f49_0 c lf n := by funext x502 x503 x504; exact ih x502 x503 x504
  show f49_0_s c lf (fun x502 x503 x504 => lpK c env lf 6 fi49 2 2 [] [0, 1, 5] (x49_2_0) n (f49_0_c x502 x503 x504)) x502 x503 x504 = _
  rw [e]; rfl
def f49_t (c : Orc) (lf : Nat) (lp0 : Int → Int → List T → Option (List T)) (l0 : List T) (n1 : Int) : Option (List T) :=
 (lp0 n1 0 l0).bind fun r506 =>
 some [T.i .i64 (asI (nth r506 1)), T.sl (asL (nth r506 2))]
def f49 (c : Orc) (lf : Nat) (l0 : List T) (n1 : Int) : Option (List T) := f49_t c lf (fun (x502 x503 : Int) (x504 : List T) => f49_0 c lf lf x502 x503 x504) l0 n1
theorem f49_raw (c : Orc) (lf : Nat) (l0 : List T) (n1 : Int) : funK c env lf 6 fi49 [.sl l0, .i .i64 n1] = f49_t c lf (fun (x502 x503 : Int) (x504 : List T) => lpK c env lf 6 fi49 2 2 [] [0, 1, 5] (x49_2_0) lf (f49_0_c x502 x503 x504)) l0 n1 := by kernel_rfl
theorem f49_eq (c : Orc) (lf : Nat) (l0 : List T) (n1 : Int) : funK c env lf 6 fi49 [.sl l0, .i .i64 n1] = f49 c lf l0 n1 := by
 refine (f49_raw c lf l0 n1).trans ?_
 have e0 : (fun (x502 x503 : Int) (x504 : List T) => lpK c env lf 6 fi49 2 2 [] [0, 1, 5] (x49_2_0) lf (f49_0_c x502 x503 x504)) = (fun (x502 x503 : Int) (x504 : List T) => f49_0 c lf lf x502 x503 x504) := by funext x502 x503 x504; exact f49_0_eq c lf lf x502 x503 x504
 rw [e0]; rfl
def f34_t (c : Orc) (lf : Nat) (l0_0 : List T) (n1 : Int) : Option (List T) :=
 (c 49 [T.sl l0_0, T.i .i64 n1]).bind fun r507 =>
 some [T.i .i64 (asI (nth r507 0)), T.sl (asL (nth r507 1))]
def f34 (c : Orc) (lf : Nat) (l0_0 : List T) (n1 : Int) : Option (List T) := f34_t c lf l0_0 n1
theorem f34_eq (c : Orc) (lf : Nat) (l0_0 : List T) (n1 : Int) : funK c env lf 6 fi34 [.st [.sl l0_0], .i .i64 n1] = f34 c lf l0_0 n1 := by kernel_rfl
def f35_0_s (c : Orc) (lf : Nat) (L : Int → Int → List T → Option (List T)) (x512 x513 : Int) (x514 : List T) : Option (List T) :=
 bif iLt x513 (x514.length : Int) then
  bif inR x513 x514.length then
  bif inR x513 ((x514.set x513.toNat (T.setc (x514.getD x513.toNat T.u) 0 (T.i .i64 x512))).length) then
  bif inR x513 (((x514.set x513.toNat (T.setc (x514.getD x513.toNat T.u) 0 (T.i .i64 x512))).set x513.toNat (T.setc ((x514.set x513.toNat (T.setc (x514.getD x513.toNat T.u) 0 (T.i .i64 x512))).getD x513.toNat T.u) 1 (T.i .i64 (IntKind.wrap .i64 (x512 + 1))))).length) then
  L (IntKind.wrap .i64 ((IntKind.wrap .i64 ((IntKind.wrap .i64 (x512 + 1)) + 1)) + 1)) (IntKind.wrap .i64 (x513 + 1)) (((x514.set x513.toNat (T.setc (x514.getD x513.toNat T.u) 0 (T.i .i64 x512))).set x513.toNat (T.setc ((x514.set x513.toNat (T.setc (x514.getD x513.toNat T.u) 0 (T.i .i64 x512))).getD x513.toNat T.u) 1 (T.i .i64 (IntKind.wrap .i64 (x512 + 1))))).set x513.toNat (T.setc (((x514.set x513.toNat (T.setc (x514.getD x513.toNat T.u) 0 (T.i .i64 x512))).set x513.toNat (T.setc ((x514.set x513.toNat (T.setc (x514.getD x513.toNat T.u) 0 (T.i .i64 x512))).getD x513.toNat T.u) 1 (T.i .i64 (IntKind.wrap .i64 (x512 + 1))))).getD x513.toNat T.u) 2 (T.i .i64 (IntKind.wrap .i64 ((IntKind.wrap .i64 (x512 + 1)) + 1)))))
  else none
  else none
  else none
 else
  some [T.i .i64 0, T.i .i64 x512, T.sl x514]
def f35_0_c (x512 x513 : Int) (x514 : List T) : CSt := ⟨[.rf 0 [] 0 none, .i .i64 x512, .i .i64 x513], [.row true [.i .i64, .i .i64, .i .i64] x514 0 false, .dead]⟩
theorem f35_0_round (c : Orc) (lf : Nat) (L : CSt → Option (List T)) (x512 x513 : Int) (x514 : List T) :
 roundK c env lf 6 fi35 2 2 [] [0, 1, 5] (x35_2_0) L (f35_0_c x512 x513 x514) = f35_0_s c lf (fun x512 x513 x514 => L (f35_0_c x512 x513 x514)) x512 x513 x514 := by kernel_rfl
def f35_0 (c : Orc) (lf : Nat) : Nat → Int → Int → List T → Option (List T)
 | 0 => fun _ _ _ => none
 | n + 1 => fun x512 x513 x514 => f35_0_s c lf (f35_0 c lf n) x512 x513 x514
theorem f35_0_u (c : Orc) (lf n : Nat) (x512 x513 : Int) (x514 : List T) : f35_0 c lf (n + 1) x512 x513 x514 = f35_0_s c lf (f35_0 c lf n) x512 x513 x514 := rfl
theorem f35_0_eq (c : Orc) (lf n : Nat) (x512 x513 : Int) (x514 : List T) :
 lpK c env lf 6 fi35 2 2 [] [0, 1, 5] (x35_2_0) n (f35_0_c x512 x513 x514) = f35_0 c lf n x512 x513 x514 := by
 induction n generalizing x512 x513 x514 with
 | zero => rfl
 | succ n ih =>
  refine (f35_0_round c lf _ x512 x513 x514).trans ?_
  have e : (fun x512 x513 x514 => lpK c env lf 6 fi35 2 2 [] [0, 1, 5] (x35_2_0) n (f35_0_c x512 x513 x514)) = f35_0 c lf n := by funext x512 x513 x514; exact ih x512 x513 x514
  show f35_0_s c lf (fun x512 x513 x514 => lpK c env lf 6 fi35 2 2 [] [0, 1, 5] (x35_2_0) n (f35_0_c x512 x513 x514)) x512 x513 x514 = _
  rw [e]; rfl
def f35_t (c : Orc) (lf : Nat) (lp0 : Int → Int → List T → Option (List T)) (l0 : List T) (n1 : Int) : Option (List T) :=
 (lp0 n1 0 l0).bind fun r515 =>
 some [T.i .i64 (asI (nth r515 1)), T.sl (asL (nth r515 2))]
def f35 (c : Orc) (lf : Nat) (l0 : List T) (n1 : Int) : Option (List T) := f35_t c lf (fun (x512 x513 : Int) (x514 : List T) => f35_0 c lf lf x512 x513 x514) l0 n1
theorem f35_raw (c : Orc) (lf : Nat) (l0 : List T) (n1 : Int) : funK c env lf 6 fi35 [.sl l0, .i .i64 n1] = f35_t c lf (fun (x512 x513 : Int) (x514 : List T) => lpK c env lf 6 fi35 2 2 [] [0, 1, 5] (x35_2_0) lf (f35_0_c x512 x513 x514)) l0 n1 := by kernel_rfl
theorem f35_eq (c : Orc) (lf : Nat) (l0 : List T) (n1 : Int) : funK c env lf 6 fi35 [.sl l0, .i .i64 n1] = f35 c lf l0 n1 := by
 refine (f35_raw c lf l0 n1).trans ?_
 have e0 : (fun (x512 x513 : Int) (x514 : List T) => lpK c env lf 6 fi35 2 2 [] [0, 1, 5] (x35_2_0) lf (f35_0_c x512 x513 x514)) = (fun (x512 x513 : Int) (x514 : List T) => f35_0 c lf lf x512 x513 x514) := by funext x512 x513 x514; exact f35_0_eq c lf lf x512 x513 x514
 rw [e0]; rfl
def f22_t (c : Orc) (lf : Nat) (l0_0 : List T) (n0_1 : Int) (l0_2 : List T) (b0_3 : Bool) (n1 : Int) : Option (List T) :=
 (c 34 [T.st [T.sl l0_0], T.i .i64 n1]).bind fun r516 =>
 (c 35 [T.sl l0_2, T.i .i64 (asI (nth r516 0))]).bind fun r517 =>
 some [T.i .i64 (asI (nth r517 0)), T.sl (asL (nth r516 1)), T.sl (asL (nth r517 1))]
def f22 (c : Orc) (lf : Nat) (l0_0 : List T) (n0_1 : Int) (l0_2 : List T) (b0_3 : Bool) (n1 : Int) : Option (List T) := f22_t c lf l0_0 n0_1 l0_2 b0_3 n1
theorem f22_eq (c : Orc) (lf : Nat) (l0_0 : List T) (n0_1 : Int) (l0_2 : List T) (b0_3 : Bool) (n1 : Int) : funK c env lf 6 fi22 [.st [.sl l0_0, .i .i64 n0_1, .sl l0_2, .b b0_3], .i .i64 n1] = f22 c lf l0_0 n0_1 l0_2 b0_3 n1 := by kernel_rfl
def f10_t (c : Orc) (lf : Nat) (l0_0 : List T) (n0_1 : Int) (l0_2 : List T) (b0_3 : Bool) (n0_4 n1 : Int) : Option (List T) :=
 (c 22 [T.st [T.sl l0_0, T.i .i64 n0_1, T.sl l0_2, T.b b0_3], T.i .i64 n1]).bind fun r518 =>
 some [T.i .i64 (asI (nth r518 0)), T.sl (asL (nth r518 1)), T.sl (asL (nth r518 2))]
def f10 (c : Orc) (lf : Nat) (l0_0 : List T) (n0_1 : Int) (l0_2 : List T) (b0_3 : Bool) (n0_4 n1 : Int) : Option (List T) := f10_t c lf l0_0 n0_1 l0_2 b0_3 n0_4 n1
theorem f10_eq (c : Orc) (lf : Nat) (l0_0 : List T) (n0_1 : Int) (l0_2 : List T) (b0_3 : Bool) (n0_4 n1 : Int) : funK c env lf 6 fi10 [.st [.sl l0_0, .i .i64 n0_1, .sl l0_2, .b b0_3, .i .i64 n0_4], .i .i64 n1] = f10 c lf l0_0 n0_1 l0_2 b0_3 n0_4 n1 := by kernel_rfl
def f11_0_s (c : Orc) (lf : Nat) (L : Int → Int → List T → Option (List T)) (x523 x524 : Int) (x525 : List T) : Option (List T) :=
 bif iLt x524 (x525.length : Int) then
  bif inR x524 x525.length then
  L (IntKind.wrap .i64 (x523 + 1)) (IntKind.wrap .i64 (x524 + 1)) (x525.set x524.toNat (T.i .i64 x523))
  else none
 else
  some [T.i .i64 0, T.i .i64 x523, T.sl x525]
def f11_0_c (x523 x524 : Int) (x525 : List T) : CSt := ⟨[.rf 0 [] 0 none, .i .i64 x523, .i .i64 x524], [.row false [.i .i64] x525 0 false, .dead]⟩
theorem f11_0_round (c : Orc) (lf : Nat) (L : CSt → Option (List T)) (x523 x524 : Int) (x525 : List T) :
 roundK c env lf 6 fi11 2 2 [] [0, 1, 5] (x11_2_0) L (f11_0_c x523 x524 x525) = f11_0_s c lf (fun x523 x524 x525 => L (f11_0_c x523 x524 x525)) x523 x524 x525 := by kernel_rfl
def f11_0 (c : Orc) (lf : Nat) : Nat → Int → Int → List T → Option (List T)
 | 0 => fun _ _ _ => none
 | n + 1 => fun x523 x524 x525 => f11_0_s c lf (f11_0 c lf n) x523 x524 x525
theorem f11_0_eq (c : Orc) (lf n : Nat) (x523 x524 : Int) (x525 : List T) :
 lpK c env lf 6 fi11 2 2 [] [0, 1, 5] (x11_2_0) n (f11_0_c x523 x524 x525) = f11_0 c lf n x523 x524 x525 := by
 induction n generalizing x523 x524 x525 with
 | zero => rfl
 | succ n ih =>
  refine (f11_0_round c lf _ x523 x524 x525).trans ?_
  have e : (fun x523 x524 x525 => lpK c env lf 6 fi11 2 2 [] [0, 1, 5] (x11_2_0) n (f11_0_c x523 x524 x525)) = f11_0 c lf n := by funext x523 x524 x525; exact ih x523 x524 x525
  show f11_0_s c lf (fun x523 x524 x525 => lpK c env lf 6 fi11 2 2 [] [0, 1, 5] (x11_2_0) n (f11_0_c x523 x524 x525)) x523 x524 x525 = _
  rw [e]; rfl
def f11_t (c : Orc) (lf : Nat) (lp0 : Int → Int → List T → Option (List T)) (l0 : List T) (n1 : Int) : Option (List T) :=
 (lp0 n1 0 l0).bind fun r526 =>
 some [T.i .i64 (asI (nth r526 1)), T.sl (asL (nth r526 2))]
def f11 (c : Orc) (lf : Nat) (l0 : List T) (n1 : Int) : Option (List T) := f11_t c lf (fun (x523 x524 : Int) (x525 : List T) => f11_0 c lf lf x523 x524 x525) l0 n1
theorem f11_raw (c : Orc) (lf : Nat) (l0 : List T) (n1 : Int) : funK c env lf 6 fi11 [.sl l0, .i .i64 n1] = f11_t c lf (fun (x523 x524 : Int) (x525 : List T) => lpK c env lf 6 fi11 2 2 [] [0, 1, 5] (x11_2_0) lf (f11_0_c x523 x524 x525)) l0 n1 := by kernel_rfl
theorem f11_eq (c : Orc) (lf : Nat) (l0 : List T) (n1 : Int) : funK c env lf 6 fi11 [.sl l0, .i .i64 n1] = f11 c lf l0 n1 := by
 refine (f11_raw c lf l0 n1).trans ?_
 have e0 : (fun (x523 x524 : Int) (x525 : List T) => lpK c env lf 6 fi11 2 2 [] [0, 1, 5] (x11_2_0) lf (f11_0_c x523 x524 x525)) = (fun (x523 x524 : Int) (x525 : List T) => f11_0 c lf lf x523 x524 x525) := by funext x523 x524 x525; exact f11_0_eq c lf lf x523 x524 x525
 rw [e0]; rfl
def f12_0_s (c : Orc) (lf : Nat) (l0 : List T) (L : Int → Int → Option (List T)) (x530 x531 : Int) : Option (List T) :=
 bif iLt x531 (l0.length : Int) then
  bif inR x531 l0.length then
  bif (asI (l0.getD x531.toNat T.u)) != x530 then
   some [T.i .i64 0, T.i .i64 (-1)]
  else
   L (IntKind.wrap .i64 (x530 + 1)) (IntKind.wrap .i64 (x531 + 1))
  else none
 else
  some [T.i .i64 1, T.i .i64 x530]
def f12_0_c (l0 : List T) (x530 x531 : Int) : CSt := ⟨[.ro 0 false [.i .i64] l0, .i .i64 x530, .i .i64 x531], [.dead, .dead]⟩
theorem f12_0_round (c : Orc) (lf : Nat) (l0 : List T) (L : CSt → Option (List T)) (x530 x531 : Int) :
 roundK c env lf 6 fi12 2 2 [] [0, 1, 5] (x12_2_0) L (f12_0_c l0 x530 x531) = f12_0_s c lf l0 (fun x530 x531 => L (f12_0_c l0 x530 x531)) x530 x531 := by kernel_rfl
def f12_0 (c : Orc) (lf : Nat) (l0 : List T) : Nat → Int → Int → Option (List T)
 | 0 => fun _ _ => none
 | n + 1 => fun x530 x531 => f12_0_s c lf l0 (f12_0 c lf l0 n) x530 x531
theorem f12_0_eq (c : Orc) (lf : Nat) (l0 : List T) (n : Nat) (x530 x531 : Int) :
 lpK c env lf 6 fi12 2 2 [] [0, 1, 5] (x12_2_0) n (f12_0_c l0 x530 x531) = f12_0 c lf l0 n x530 x531 := by
 induction n generalizing x530 x531 with
 | zero => rfl
 | succ n ih =>
  refine (f12_0_round c lf l0 _ x530 x531).trans ?_
  have e : (fun x530 x531 => lpK c env lf 6 fi12 2 2 [] [0, 1, 5] (x12_2_0) n (f12_0_c l0 x530 x531)) = f12_0 c lf l0 n := by funext x530 x531; exact ih x530 x531
  show f12_0_s c lf l0 (fun x530 x531 => lpK c env lf 6 fi12 2 2 [] [0, 1, 5] (x12_2_0) n (f12_0_c l0 x530 x531)) x530 x531 = _
  rw [e]; rfl
def f12_t (c : Orc) (lf : Nat) (lp0 : List T → Int → Int → Option (List T)) (l0 : List T) (n1 : Int) : Option (List T) :=
 (lp0 l0 n1 0).bind fun r532 =>
 bif asI (nth r532 0) == 0 then
  some [T.i .i64 (asI (nth r532 1))]
 else
  some [T.i .i64 (asI (nth r532 1))]
def f12 (c : Orc) (lf : Nat) (l0 : List T) (n1 : Int) : Option (List T) := f12_t c lf (fun (l0 : List T) (x530 x531 : Int) => f12_0 c lf l0 lf x530 x531) l0 n1
theorem f12_raw (c : Orc) (lf : Nat) (l0 : List T) (n1 : Int) : funK c env lf 6 fi12 [.sl l0, .i .i64 n1] = f12_t c lf (fun (l0 : List T) (x530 x531 : Int) => lpK c env lf 6 fi12 2 2 [] [0, 1, 5] (x12_2_0) lf (f12_0_c l0 x530 x531)) l0 n1 := by kernel_rfl
theorem f12_eq (c : Orc) (lf : Nat) (l0 : List T) (n1 : Int) : funK c env lf 6 fi12 [.sl l0, .i .i64 n1] = f12 c lf l0 n1 := by
 refine (f12_raw c lf l0 n1).trans ?_
 have e0 : (fun (l0 : List T) (x530 x531 : Int) => lpK c env lf 6 fi12 2 2 [] [0, 1, 5] (x12_2_0) lf (f12_0_c l0 x530 x531)) = (fun (l0 : List T) (x530 x531 : Int) => f12_0 c lf l0 lf x530 x531) := by funext l0 x530 x531; exact f12_0_eq c lf l0 lf x530 x531
 rw [e0]; rfl
def f3_t (c : Orc) (lf : Nat) (l0_0 : List T) (n0_1 : Int) (l0_2 : List T) (b0_3 : Bool) (n0_4 : Int) : Option (List T) :=
 (c 4 [T.st [T.sl l0_0, T.i .i64 n0_1, T.sl l0_2, T.b b0_3, T.i .i64 n0_4], T.i .i64 1048576]).bind fun r533 =>
 bif iLt (asI (nth r533 0)) 0 then
  some [T.b true]
 else
  (c 6 [T.st [T.sl l0_0, T.i .i64 n0_1, T.sl l0_2, T.b b0_3, T.i .i64 n0_4]]).bind fun r534 =>
  (c 5 [T.st [T.sl (asL (T.cell (nth r534 0) 0)), T.i .i64 (asI (T.cell (nth r534 0) 1)), T.sl (asL (T.cell (nth r534 0) 2)), T.b (asB (T.cell (nth r534 0) 3)), T.i .i64 (asI (T.cell (nth r534 0) 4))]]).bind fun r535 =>
  (c 6 [T.st [T.sl l0_0, T.i .i64 n0_1, T.sl l0_2, T.b b0_3, T.i .i64 n0_4]]).bind fun r536 =>
  (c 7 [T.st [T.sl (asL (T.cell (nth r536 0) 0)), T.i .i64 (asI (T.cell (nth r536 0) 1)), T.sl (asL (T.cell (nth r536 0) 2)), T.b (asB (T.cell (nth r536 0) 3)), T.i .i64 (asI (T.cell (nth r536 0) 4))]]).bind fun r537 =>
  (c 8 [T.sl (asL (nth r537 0)), T.sl (asL (nth r535 0))]).bind fun r538 =>
  bif !(asB (nth r538 0)) then
   some [T.b false]
  else
   (c 6 [T.st [T.sl l0_0, T.i .i64 n0_1, T.sl l0_2, T.b b0_3, T.i .i64 n0_4]]).bind fun r539 =>
   (c 9 [T.st [T.sl (asL (T.cell (nth r536 0) 0)), T.i .i64 (asI (T.cell (nth r536 0) 1)), T.sl (asL (T.cell (nth r536 0) 2)), T.b (asB (T.cell (nth r536 0) 3)), T.i .i64 (asI (T.cell (nth r536 0) 4))], T.st [T.sl (asL (T.cell (nth r539 0) 0)), T.i .i64 (asI (T.cell (nth r539 0) 1)), T.sl (asL (T.cell (nth r539 0) 2)), T.b (asB (T.cell (nth r539 0) 3)), T.i .i64 (asI (T.cell (nth r539 0) 4))]]).bind fun r540 =>
   bif !(asB (nth r540 0)) then
    some [T.b false]
   else
    (c 10 [T.st [T.sl (asL (T.cell (nth r536 0) 0)), T.i .i64 (asI (T.cell (nth r536 0) 1)), T.sl (asL (T.cell (nth r536 0) 2)), T.b (asB (T.cell (nth r536 0) 3)), T.i .i64 (asI (T.cell (nth r536 0) 4))], T.i .i64 1]).bind fun r541 =>
    bif iLt (asI (nth r541 0)) 0 then
     some [T.b false]
    else
     (c 8 [T.sl (asL (nth r537 0)), T.sl (asL (nth r535 0))]).bind fun r542 =>
     bif !(asB (nth r542 0)) then
      some [T.b false]
     else
      (c 11 [T.sl (asL (nth r537 0)), T.i .i64 1]).bind fun r543 =>
      (c 12 [T.sl (asL (nth r543 1)), T.i .i64 1]).bind fun r544 =>
      bif iLt (asI (nth r544 0)) 0 then
       some [T.b false]
      else
       bif (asI (nth r544 0)) != (asI (nth r543 0)) then
        some [T.b false]
       else
        (c 6 [T.st [T.sl l0_0, T.i .i64 n0_1, T.sl l0_2, T.b b0_3, T.i .i64 n0_4]]).bind fun r545 =>
        (c 7 [T.st [T.sl (asL (T.cell (nth r545 0) 0)), T.i .i64 (asI (T.cell (nth r545 0) 1)), T.sl (asL (T.cell (nth r545 0) 2)), T.b (asB (T.cell (nth r545 0) 3)), T.i .i64 (asI (T.cell (nth r545 0) 4))]]).bind fun r546 =>
        (c 8 [T.sl (asL (nth r546 0)), T.sl (asL (nth r535 0))]).bind fun r547 =>
        bif !(asB (nth r547 0)) then
         some [T.b false]
        else
         (c 12 [T.sl (asL (nth r543 1)), T.i .i64 1]).bind fun r548 =>
         bif iLt (asI (nth r548 0)) 0 then
          some [T.b false]
         else
          bif (asI (nth r548 0)) != (asI (nth r543 0)) then
           some [T.b false]
          else
           some [T.b true]
def f3 (c : Orc) (lf : Nat) (l0_0 : List T) (n0_1 : Int) (l0_2 : List T) (b0_3 : Bool) (n0_4 : Int) : Option (List T) := f3_t c lf l0_0 n0_1 l0_2 b0_3 n0_4
theorem f3_eq (c : Orc) (lf : Nat) (l0_0 : List T) (n0_1 : Int) (l0_2 : List T) (b0_3 : Bool) (n0_4 : Int) : funK c env lf 6 fi3 [.st [.sl l0_0, .i .i64 n0_1, .sl l0_2, .b b0_3, .i .i64 n0_4]] = f3 c lf l0_0 n0_1 l0_2 b0_3 n0_4 := by kernel_rfl
end Go.Proofs.Ytmjahclmjgllbaa.T
